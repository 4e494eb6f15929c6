import PyProof.Rows.All
import PyProof.P3Statements
import OpenK.KCell
import OpenK.Lit
import OpenK.KTop
import Open.FastT9
import KE.KIntText
import KE.KIsAll
import PyProof.ExcAttrAll.ValueError
import PyProof.ExcArgsOwn
import PyProof.StrCalls6
import PyProof.StrLawsOccR
import PyProof.MeetsStr3
import PyProof.TableCode
import Wide.All
import Wide.FinOn
import PySem.Challenge.RW_uf040002_05
set_option Elab.async false
set_option linter.all false
set_option genSizeOf false
set_option bootstrap.genMatcherCode false
set_option backward.eqns.nonrecursive false
set_option backward.match.sparseCases false
set_option autoImplicit false
set_option maxRecDepth 100000
namespace Mine.Internal.K05
open PySem PySem.W
noncomputable def topS (i : Nat) : Stmt := (PySem.Challenge.pw_uf040002_05.main.body)[i]?.getD (.Pass ⟨0, 0, 0, 0⟩)
noncomputable def argsOf : Stmt → Arguments
 | .FunctionDef _ a _ _ _ _ _ _ _ _ => a
 | _ => ⟨[], [], .none, [], [], .none, []⟩
noncomputable def bodyOf : Stmt → List Stmt
 | .FunctionDef _ _ b _ _ _ _ _ _ _ => b
 | _ => []
noncomputable def scopeOf : Stmt → Scope
 | .FunctionDef _ _ _ _ _ _ s _ _ _ => s
 | _ => ⟨.function, [], false, false, []⟩
noncomputable def g0 (P : Params) : Frag := [(2, { cls := Value.none, data := Data.dict #[] }), (3, { cls := Value.type "dict", data := Data.dict #[{ hash := PyData.keyHash P (Str.ofString "__name__"), key := Value.str (Str.ofString "__name__") 165, val := Value.str (Str.ofString "law_uf040002_05") 349 }, { hash := PyData.keyHash P (Str.ofString "__doc__"), key := Value.str (Str.ofString "__doc__") 166, val := Value.none }, { hash := PyData.keyHash P (Str.ofString "__package__"), key := Value.str (Str.ofString "__package__") 167, val := Value.none }, { hash := PyData.keyHash P (Str.ofString "__loader__"), key := Value.str (Str.ofString "__loader__") 168, val := Value.builtin "__main__.__loader__#opaque" }, { hash := PyData.keyHash P (Str.ofString "__spec__"), key := Value.str (Str.ofString "__spec__") 169, val := Value.none }, { hash := PyData.keyHash P (Str.ofString "__annotations__"), key := Value.str (Str.ofString "__annotations__") 170, val := Value.ref 6 }, { hash := PyData.keyHash P (Str.ofString "__builtins__"), key := Value.str (Str.ofString "__builtins__") 171, val := Value.ref 4 }, { hash := PyData.keyHash P (Str.ofString "__file__"), key := Value.str (Str.ofString "__file__") 173, val := Value.str (Str.ofString "/claim/cut.py") 172 }, { hash := PyData.keyHash P (Str.ofString "__cached__"), key := Value.str (Str.ofString "__cached__") 174, val := Value.none }, { hash := PyData.keyHash P (Str.ofString "PileError"), key := Value.str (Str.ofString "PileError") 206, val := Value.ref 24 }, { hash := PyData.keyHash P (Str.ofString "NoHand"), key := Value.str (Str.ofString "NoHand") 222, val := Value.ref 37 }, { hash := PyData.keyHash P (Str.ofString "NoSize"), key := Value.str (Str.ofString "NoSize") 238, val := Value.ref 49 }, { hash := PyData.keyHash P (Str.ofString "Full"), key := Value.str (Str.ofString "Full") 254, val := Value.ref 61 }, { hash := PyData.keyHash P (Str.ofString "NoBox"), key := Value.str (Str.ofString "NoBox") 270, val := Value.ref 73 }, { hash := PyData.keyHash P (Str.ofString "NoSlot"), key := Value.str (Str.ofString "NoSlot") 286, val := Value.ref 85 }, { hash := PyData.keyHash P (Str.ofString "NoDeed"), key := Value.str (Str.ofString "NoDeed") 302, val := Value.ref 97 }, { hash := PyData.keyHash P (Str.ofString "WORDS"), key := Value.str (Str.ofString "WORDS") 326, val := Value.ref 100 }, { hash := PyData.keyHash P (Str.ofString "MOST_FIGURES"), key := Value.str (Str.ofString "MOST_FIGURES") 328, val := Value.int 60 327 }, { hash := PyData.keyHash P (Str.ofString "shown"), key := Value.str (Str.ofString "shown") 334, val := Value.ref 105 }, { hash := PyData.keyHash P (Str.ofString "number_of"), key := Value.str (Str.ofString "number_of") 342, val := Value.ref 112 }, { hash := PyData.keyHash P (Str.ofString "read"), key := Value.str (Str.ofString "read") 348, val := Value.ref 117 }, { hash := PyData.keyHash P (Str.ofString "_law_whole"), key := Value.str (Str.ofString "_law_whole") 357, val := Value.ref 124 }, { hash := PyData.keyHash P (Str.ofString "_law_cell_at"), key := Value.str (Str.ofString "_law_cell_at") 365, val := Value.ref 131 }, { hash := PyData.keyHash P (Str.ofString "_law_numbers"), key := Value.str (Str.ofString "_law_numbers") 374, val := Value.ref 138 }, { hash := PyData.keyHash P (Str.ofString "_law_many"), key := Value.str (Str.ofString "_law_many") 384, val := Value.ref 145 }, { hash := PyData.keyHash P (Str.ofString "_law_number"), key := Value.str (Str.ofString "_law_number") 392, val := Value.ref 152 }, { hash := PyData.keyHash P (Str.ofString "_law_due_of"), key := Value.str (Str.ofString "_law_due_of") 398, val := Value.ref 157 }, { hash := PyData.keyHash P (Str.ofString "_law_alike"), key := Value.str (Str.ofString "_law_alike") 406, val := Value.ref 164 }, { hash := PyData.keyHash P (Str.ofString "_law_odd_line"), key := Value.str (Str.ofString "_law_odd_line") 414, val := Value.ref 171 }, { hash := PyData.keyHash P (Str.ofString "_law_refused"), key := Value.str (Str.ofString "_law_refused") 421, val := Value.ref 178 }, { hash := PyData.keyHash P (Str.ofString "_law_refused_by_all"), key := Value.str (Str.ofString "_law_refused_by_all") 429, val := Value.ref 185 }, { hash := PyData.keyHash P (Str.ofString "_law_line_by"), key := Value.str (Str.ofString "_law_line_by") 441, val := Value.ref 192 }, { hash := PyData.keyHash P (Str.ofString "law"), key := Value.str (Str.ofString "law") 447, val := Value.ref 197 }] 33 }), (15, { cls := Value.type "tuple", data := Data.seq #[Value.type "ValueError"] }), (22, { cls := Value.type "tuple", data := Data.seq #[] }), (23, { cls := Value.type "dict", data := Data.dict #[{ hash := PyData.keyHash P (Str.ofString "__module__"), key := Value.str (Str.ofString "__module__") 196, val := Value.str (Str.ofString "boxpile.errors") 187 }, { hash := PyData.keyHash P (Str.ofString "__firstlineno__"), key := Value.str (Str.ofString "__firstlineno__") 200, val := Value.int 2 199 }, { hash := PyData.keyHash P (Str.ofString "__static_attributes__"), key := Value.str (Str.ofString "__static_attributes__") 201, val := Value.ref 22 }, { hash := PyData.keyHash P (Str.ofString "__weakref__"), key := Value.str (Str.ofString "__weakref__") 203, val := Value.ref 25 }, { hash := PyData.keyHash P (Str.ofString "__doc__"), key := Value.str (Str.ofString "__doc__") 204, val := Value.none }] 3 }), (24, { cls := Value.type "type", data := Data.cls { name := Str.ofString "PileError", bases := [Value.type "ValueError"], mro := [Value.ref 24, Value.type "ValueError", Value.type "Exception", Value.type "BaseException", Value.type "object"], ns := 23, qualname := Str.ofString "PileError", subclasses := [Value.ref 37, Value.ref 49, Value.ref 61, Value.ref 73, Value.ref 85, Value.ref 97] }, slots := #[.some (Value.ref 15), .none, .some (Value.str (Str.ofString "PileError") 189), .some (Value.str (Str.ofString "PileError") 197), .some (Value.builtin "ValueError.__new__"), .some (Value.bool true)] }), (25, { cls := Value.type "getset_descriptor", data := Data.fields #[Value.str (Str.ofString "__weakref__") 202, Value.ref 24, Value.builtin "ExceptionGroup.__weakref__", Value.none] }), (28, { cls := Value.type "tuple", data := Data.seq #[Value.ref 24] }), (35, { cls := Value.type "tuple", data := Data.seq #[] }), (36, { cls := Value.type "dict", data := Data.dict #[{ hash := PyData.keyHash P (Str.ofString "__module__"), key := Value.str (Str.ofString "__module__") 214, val := Value.str (Str.ofString "boxpile.errors") 187 }, { hash := PyData.keyHash P (Str.ofString "__firstlineno__"), key := Value.str (Str.ofString "__firstlineno__") 218, val := Value.int 4 217 }, { hash := PyData.keyHash P (Str.ofString "__static_attributes__"), key := Value.str (Str.ofString "__static_attributes__") 219, val := Value.ref 35 }, { hash := PyData.keyHash P (Str.ofString "__doc__"), key := Value.str (Str.ofString "__doc__") 220, val := Value.none }] 2 }), (37, { cls := Value.type "type", data := Data.cls { name := Str.ofString "NoHand", bases := [Value.ref 24], mro := [Value.ref 37, Value.ref 24, Value.type "ValueError", Value.type "Exception", Value.type "BaseException", Value.type "object"], ns := 36, qualname := Str.ofString "NoHand" }, slots := #[.some (Value.ref 28), .none, .some (Value.str (Str.ofString "NoHand") 207), .some (Value.str (Str.ofString "NoHand") 215), .some (Value.builtin "ValueError.__new__"), .some (Value.bool true)] }), (40, { cls := Value.type "tuple", data := Data.seq #[Value.ref 24] })]
noncomputable def g1 (P : Params) : Frag := [(47, { cls := Value.type "tuple", data := Data.seq #[] }), (48, { cls := Value.type "dict", data := Data.dict #[{ hash := PyData.keyHash P (Str.ofString "__module__"), key := Value.str (Str.ofString "__module__") 230, val := Value.str (Str.ofString "boxpile.errors") 187 }, { hash := PyData.keyHash P (Str.ofString "__firstlineno__"), key := Value.str (Str.ofString "__firstlineno__") 234, val := Value.int 6 233 }, { hash := PyData.keyHash P (Str.ofString "__static_attributes__"), key := Value.str (Str.ofString "__static_attributes__") 235, val := Value.ref 47 }, { hash := PyData.keyHash P (Str.ofString "__doc__"), key := Value.str (Str.ofString "__doc__") 236, val := Value.none }] 2 }), (49, { cls := Value.type "type", data := Data.cls { name := Str.ofString "NoSize", bases := [Value.ref 24], mro := [Value.ref 49, Value.ref 24, Value.type "ValueError", Value.type "Exception", Value.type "BaseException", Value.type "object"], ns := 48, qualname := Str.ofString "NoSize" }, slots := #[.some (Value.ref 40), .none, .some (Value.str (Str.ofString "NoSize") 223), .some (Value.str (Str.ofString "NoSize") 231), .some (Value.builtin "ValueError.__new__"), .some (Value.bool true)] }), (52, { cls := Value.type "tuple", data := Data.seq #[Value.ref 24] }), (59, { cls := Value.type "tuple", data := Data.seq #[] }), (60, { cls := Value.type "dict", data := Data.dict #[{ hash := PyData.keyHash P (Str.ofString "__module__"), key := Value.str (Str.ofString "__module__") 246, val := Value.str (Str.ofString "boxpile.errors") 187 }, { hash := PyData.keyHash P (Str.ofString "__firstlineno__"), key := Value.str (Str.ofString "__firstlineno__") 250, val := Value.int 8 249 }, { hash := PyData.keyHash P (Str.ofString "__static_attributes__"), key := Value.str (Str.ofString "__static_attributes__") 251, val := Value.ref 59 }, { hash := PyData.keyHash P (Str.ofString "__doc__"), key := Value.str (Str.ofString "__doc__") 252, val := Value.none }] 2 }), (61, { cls := Value.type "type", data := Data.cls { name := Str.ofString "Full", bases := [Value.ref 24], mro := [Value.ref 61, Value.ref 24, Value.type "ValueError", Value.type "Exception", Value.type "BaseException", Value.type "object"], ns := 60, qualname := Str.ofString "Full" }, slots := #[.some (Value.ref 52), .none, .some (Value.str (Str.ofString "Full") 239), .some (Value.str (Str.ofString "Full") 247), .some (Value.builtin "ValueError.__new__"), .some (Value.bool true)] }), (64, { cls := Value.type "tuple", data := Data.seq #[Value.ref 24] }), (71, { cls := Value.type "tuple", data := Data.seq #[] }), (72, { cls := Value.type "dict", data := Data.dict #[{ hash := PyData.keyHash P (Str.ofString "__module__"), key := Value.str (Str.ofString "__module__") 262, val := Value.str (Str.ofString "boxpile.errors") 187 }, { hash := PyData.keyHash P (Str.ofString "__firstlineno__"), key := Value.str (Str.ofString "__firstlineno__") 266, val := Value.int 10 265 }, { hash := PyData.keyHash P (Str.ofString "__static_attributes__"), key := Value.str (Str.ofString "__static_attributes__") 267, val := Value.ref 71 }, { hash := PyData.keyHash P (Str.ofString "__doc__"), key := Value.str (Str.ofString "__doc__") 268, val := Value.none }] 2 }), (73, { cls := Value.type "type", data := Data.cls { name := Str.ofString "NoBox", bases := [Value.ref 24], mro := [Value.ref 73, Value.ref 24, Value.type "ValueError", Value.type "Exception", Value.type "BaseException", Value.type "object"], ns := 72, qualname := Str.ofString "NoBox" }, slots := #[.some (Value.ref 64), .none, .some (Value.str (Str.ofString "NoBox") 255), .some (Value.str (Str.ofString "NoBox") 263), .some (Value.builtin "ValueError.__new__"), .some (Value.bool true)] }), (76, { cls := Value.type "tuple", data := Data.seq #[Value.ref 24] })]
noncomputable def g2 (P : Params) : Frag := [(83, { cls := Value.type "tuple", data := Data.seq #[] }), (84, { cls := Value.type "dict", data := Data.dict #[{ hash := PyData.keyHash P (Str.ofString "__module__"), key := Value.str (Str.ofString "__module__") 278, val := Value.str (Str.ofString "boxpile.errors") 187 }, { hash := PyData.keyHash P (Str.ofString "__firstlineno__"), key := Value.str (Str.ofString "__firstlineno__") 282, val := Value.int 12 281 }, { hash := PyData.keyHash P (Str.ofString "__static_attributes__"), key := Value.str (Str.ofString "__static_attributes__") 283, val := Value.ref 83 }, { hash := PyData.keyHash P (Str.ofString "__doc__"), key := Value.str (Str.ofString "__doc__") 284, val := Value.none }] 2 }), (85, { cls := Value.type "type", data := Data.cls { name := Str.ofString "NoSlot", bases := [Value.ref 24], mro := [Value.ref 85, Value.ref 24, Value.type "ValueError", Value.type "Exception", Value.type "BaseException", Value.type "object"], ns := 84, qualname := Str.ofString "NoSlot" }, slots := #[.some (Value.ref 76), .none, .some (Value.str (Str.ofString "NoSlot") 271), .some (Value.str (Str.ofString "NoSlot") 279), .some (Value.builtin "ValueError.__new__"), .some (Value.bool true)] }), (88, { cls := Value.type "tuple", data := Data.seq #[Value.ref 24] }), (95, { cls := Value.type "tuple", data := Data.seq #[] }), (96, { cls := Value.type "dict", data := Data.dict #[{ hash := PyData.keyHash P (Str.ofString "__module__"), key := Value.str (Str.ofString "__module__") 294, val := Value.str (Str.ofString "boxpile.errors") 187 }, { hash := PyData.keyHash P (Str.ofString "__firstlineno__"), key := Value.str (Str.ofString "__firstlineno__") 298, val := Value.int 14 297 }, { hash := PyData.keyHash P (Str.ofString "__static_attributes__"), key := Value.str (Str.ofString "__static_attributes__") 299, val := Value.ref 95 }, { hash := PyData.keyHash P (Str.ofString "__doc__"), key := Value.str (Str.ofString "__doc__") 300, val := Value.none }] 2 }), (97, { cls := Value.type "type", data := Data.cls { name := Str.ofString "NoDeed", bases := [Value.ref 24], mro := [Value.ref 97, Value.ref 24, Value.type "ValueError", Value.type "Exception", Value.type "BaseException", Value.type "object"], ns := 96, qualname := Str.ofString "NoDeed" }, slots := #[.some (Value.ref 88), .none, .some (Value.str (Str.ofString "NoDeed") 287), .some (Value.str (Str.ofString "NoDeed") 295), .some (Value.builtin "ValueError.__new__"), .some (Value.bool true)] }), (101, { cls := Value.type "tuple", data := Data.seq #[] }), (104, { cls := Value.type "code", data := Data.fields #[Value.str (Str.ofString "shown") 329, Value.str (Str.ofString "shown") 330, Value.str (Str.ofString "/claim/cut.py") 331, Value.int 19 0, Value.int 1 0, Value.int 0 0, Value.int 0 0, Value.int 3 0, Value.ref 101, Value.bool true, Value.int 181 0, Value.ref 102, Value.none, Value.none, Value.none, Value.ref 103, Value.int 332 0, Value.int 19 0, Value.str (Str.ofString "/claim/cut.py") 333] }), (105, { cls := Value.type "function", data := Data.func { name := Str.ofString "shown", qualname := Str.ofString "shown", params := argsOf (topS 11), body := FuncBody.stmts (bodyOf (topS 11)), scope := scopeOf (topS 11), globals := 3, closure := [], defaults := Value.none, kwdefaults := Value.none, pyModule := Value.str (Str.ofString "boxpile.notes") 303, code := Value.ref 104 } }), (106, { cls := Value.type "tuple", data := Data.seq #[] }), (108, { cls := Value.type "tuple", data := Data.seq #[Value.str (Str.ofString "word") 338, Value.str (Str.ofString "sign") 339] })]
noncomputable def g3 (P : Params) : Frag := [(109, { cls := Value.type "tuple", data := Data.seq #[] }), (111, { cls := Value.type "code", data := Data.fields #[Value.str (Str.ofString "number_of") 335, Value.str (Str.ofString "number_of") 336, Value.str (Str.ofString "/claim/cut.py") 337, Value.int 21 0, Value.int 1 0, Value.int 0 0, Value.int 0 0, Value.int 3 0, Value.ref 106, Value.bool true, Value.int 181 0, Value.ref 107, Value.none, Value.ref 108, Value.ref 109, Value.ref 110, Value.int 340 0, Value.int 21 0, Value.str (Str.ofString "/claim/cut.py") 341] }), (112, { cls := Value.type "function", data := Data.func { name := Str.ofString "number_of", qualname := Str.ofString "number_of", params := argsOf (topS 12), body := FuncBody.stmts (bodyOf (topS 12)), scope := scopeOf (topS 12), globals := 3, closure := [], defaults := Value.none, kwdefaults := Value.none, pyModule := Value.str (Str.ofString "boxpile.notes") 303, code := Value.ref 111 } }), (113, { cls := Value.type "tuple", data := Data.seq #[] }), (116, { cls := Value.type "code", data := Data.fields #[Value.str (Str.ofString "read") 343, Value.str (Str.ofString "read") 344, Value.str (Str.ofString "/claim/cut.py") 345, Value.int 30 0, Value.int 1 0, Value.int 0 0, Value.int 0 0, Value.int 3 0, Value.ref 113, Value.bool true, Value.int 181 0, Value.ref 114, Value.none, Value.none, Value.none, Value.ref 115, Value.int 346 0, Value.int 30 0, Value.str (Str.ofString "/claim/cut.py") 347] }), (117, { cls := Value.type "function", data := Data.func { name := Str.ofString "read", qualname := Str.ofString "read", params := argsOf (topS 13), body := FuncBody.stmts (bodyOf (topS 13)), scope := scopeOf (topS 13), globals := 3, closure := [], defaults := Value.none, kwdefaults := Value.none, pyModule := Value.str (Str.ofString "boxpile.notes") 303, code := Value.ref 116 } }), (118, { cls := Value.type "tuple", data := Data.seq #[] }), (120, { cls := Value.type "tuple", data := Data.seq #[Value.str (Str.ofString "_law_found") 354] }), (121, { cls := Value.type "tuple", data := Data.seq #[] }), (123, { cls := Value.type "code", data := Data.fields #[Value.str (Str.ofString "_law_whole") 351, Value.str (Str.ofString "_law_whole") 352, Value.str (Str.ofString "/claim/cut.py") 353, Value.int 36 0, Value.int 1 0, Value.int 0 0, Value.int 0 0, Value.int 3 0, Value.ref 118, Value.bool true, Value.int 181 0, Value.ref 119, Value.none, Value.ref 120, Value.ref 121, Value.ref 122, Value.int 355 0, Value.int 36 0, Value.str (Str.ofString "/claim/cut.py") 356] }), (124, { cls := Value.type "function", data := Data.func { name := Str.ofString "_law_whole", qualname := Str.ofString "_law_whole", params := argsOf (topS 15), body := FuncBody.stmts (bodyOf (topS 15)), scope := scopeOf (topS 15), globals := 3, closure := [], defaults := Value.none, kwdefaults := Value.none, pyModule := Value.str (Str.ofString "law_uf040002_05") 349, code := Value.ref 123 } }), (125, { cls := Value.type "tuple", data := Data.seq #[] })]
noncomputable def g4 (P : Params) : Frag := [(127, { cls := Value.type "tuple", data := Data.seq #[Value.str (Str.ofString "_law_script") 361, Value.str (Str.ofString "_law_k") 362] }), (128, { cls := Value.type "tuple", data := Data.seq #[] }), (130, { cls := Value.type "code", data := Data.fields #[Value.str (Str.ofString "_law_cell_at") 358, Value.str (Str.ofString "_law_cell_at") 359, Value.str (Str.ofString "/claim/cut.py") 360, Value.int 38 0, Value.int 2 0, Value.int 0 0, Value.int 0 0, Value.int 3 0, Value.ref 125, Value.bool true, Value.int 181 0, Value.ref 126, Value.none, Value.ref 127, Value.ref 128, Value.ref 129, Value.int 363 0, Value.int 38 0, Value.str (Str.ofString "/claim/cut.py") 364] }), (131, { cls := Value.type "function", data := Data.func { name := Str.ofString "_law_cell_at", qualname := Str.ofString "_law_cell_at", params := argsOf (topS 16), body := FuncBody.stmts (bodyOf (topS 16)), scope := scopeOf (topS 16), globals := 3, closure := [], defaults := Value.none, kwdefaults := Value.none, pyModule := Value.str (Str.ofString "law_uf040002_05") 349, code := Value.ref 130 } }), (132, { cls := Value.type "tuple", data := Data.seq #[] }), (134, { cls := Value.type "tuple", data := Data.seq #[Value.str (Str.ofString "_law_found") 369, Value.str (Str.ofString "_law_due") 370, Value.str (Str.ofString "_law_k") 371] }), (135, { cls := Value.type "tuple", data := Data.seq #[] }), (137, { cls := Value.type "code", data := Data.fields #[Value.str (Str.ofString "_law_numbers") 366, Value.str (Str.ofString "_law_numbers") 367, Value.str (Str.ofString "/claim/cut.py") 368, Value.int 42 0, Value.int 2 0, Value.int 0 0, Value.int 0 0, Value.int 3 0, Value.ref 132, Value.bool true, Value.int 181 0, Value.ref 133, Value.none, Value.ref 134, Value.ref 135, Value.ref 136, Value.int 372 0, Value.int 42 0, Value.str (Str.ofString "/claim/cut.py") 373] }), (138, { cls := Value.type "function", data := Data.func { name := Str.ofString "_law_numbers", qualname := Str.ofString "_law_numbers", params := argsOf (topS 17), body := FuncBody.stmts (bodyOf (topS 17)), scope := scopeOf (topS 17), globals := 3, closure := [], defaults := Value.none, kwdefaults := Value.none, pyModule := Value.str (Str.ofString "law_uf040002_05") 349, code := Value.ref 137 } }), (139, { cls := Value.type "tuple", data := Data.seq #[] }), (141, { cls := Value.type "tuple", data := Data.seq #[Value.str (Str.ofString "_law_word") 378, Value.str (Str.ofString "_law_forms") 379, Value.str (Str.ofString "_law_name") 380, Value.str (Str.ofString "_law_many_here") 381] }), (142, { cls := Value.type "tuple", data := Data.seq #[] })]
noncomputable def g5 (P : Params) : Frag := [(144, { cls := Value.type "code", data := Data.fields #[Value.str (Str.ofString "_law_many") 375, Value.str (Str.ofString "_law_many") 376, Value.str (Str.ofString "/claim/cut.py") 377, Value.int 52 0, Value.int 1 0, Value.int 0 0, Value.int 0 0, Value.int 3 0, Value.ref 139, Value.bool true, Value.int 181 0, Value.ref 140, Value.none, Value.ref 141, Value.ref 142, Value.ref 143, Value.int 382 0, Value.int 52 0, Value.str (Str.ofString "/claim/cut.py") 383] }), (145, { cls := Value.type "function", data := Data.func { name := Str.ofString "_law_many", qualname := Str.ofString "_law_many", params := argsOf (topS 18), body := FuncBody.stmts (bodyOf (topS 18)), scope := scopeOf (topS 18), globals := 3, closure := [], defaults := Value.none, kwdefaults := Value.none, pyModule := Value.str (Str.ofString "law_uf040002_05") 349, code := Value.ref 144 } }), (146, { cls := Value.type "tuple", data := Data.seq #[] }), (148, { cls := Value.type "tuple", data := Data.seq #[Value.str (Str.ofString "_law_word") 388, Value.str (Str.ofString "_law_sign") 389] }), (149, { cls := Value.type "tuple", data := Data.seq #[] }), (151, { cls := Value.type "code", data := Data.fields #[Value.str (Str.ofString "_law_number") 385, Value.str (Str.ofString "_law_number") 386, Value.str (Str.ofString "/claim/cut.py") 387, Value.int 58 0, Value.int 1 0, Value.int 0 0, Value.int 0 0, Value.int 3 0, Value.ref 146, Value.bool true, Value.int 181 0, Value.ref 147, Value.none, Value.ref 148, Value.ref 149, Value.ref 150, Value.int 390 0, Value.int 58 0, Value.str (Str.ofString "/claim/cut.py") 391] }), (152, { cls := Value.type "function", data := Data.func { name := Str.ofString "_law_number", qualname := Str.ofString "_law_number", params := argsOf (topS 19), body := FuncBody.stmts (bodyOf (topS 19)), scope := scopeOf (topS 19), globals := 3, closure := [], defaults := Value.none, kwdefaults := Value.none, pyModule := Value.str (Str.ofString "law_uf040002_05") 349, code := Value.ref 151 } }), (153, { cls := Value.type "tuple", data := Data.seq #[] }), (156, { cls := Value.type "code", data := Data.fields #[Value.str (Str.ofString "_law_due_of") 393, Value.str (Str.ofString "_law_due_of") 394, Value.str (Str.ofString "/claim/cut.py") 395, Value.int 65 0, Value.int 1 0, Value.int 0 0, Value.int 0 0, Value.int 3 0, Value.ref 153, Value.bool true, Value.int 181 0, Value.ref 154, Value.none, Value.none, Value.none, Value.ref 155, Value.int 396 0, Value.int 65 0, Value.str (Str.ofString "/claim/cut.py") 397] }), (157, { cls := Value.type "function", data := Data.func { name := Str.ofString "_law_due_of", qualname := Str.ofString "_law_due_of", params := argsOf (topS 20), body := FuncBody.stmts (bodyOf (topS 20)), scope := scopeOf (topS 20), globals := 3, closure := [], defaults := Value.none, kwdefaults := Value.none, pyModule := Value.str (Str.ofString "law_uf040002_05") 349, code := Value.ref 156 } }), (158, { cls := Value.type "tuple", data := Data.seq #[] }), (160, { cls := Value.type "tuple", data := Data.seq #[Value.str (Str.ofString "_law_found") 402, Value.str (Str.ofString "_law_due") 403] })]
noncomputable def g6 (P : Params) : Frag := [(161, { cls := Value.type "tuple", data := Data.seq #[] }), (163, { cls := Value.type "code", data := Data.fields #[Value.str (Str.ofString "_law_alike") 399, Value.str (Str.ofString "_law_alike") 400, Value.str (Str.ofString "/claim/cut.py") 401, Value.int 76 0, Value.int 2 0, Value.int 0 0, Value.int 0 0, Value.int 3 0, Value.ref 158, Value.bool true, Value.int 181 0, Value.ref 159, Value.none, Value.ref 160, Value.ref 161, Value.ref 162, Value.int 404 0, Value.int 76 0, Value.str (Str.ofString "/claim/cut.py") 405] }), (164, { cls := Value.type "function", data := Data.func { name := Str.ofString "_law_alike", qualname := Str.ofString "_law_alike", params := argsOf (topS 21), body := FuncBody.stmts (bodyOf (topS 21)), scope := scopeOf (topS 21), globals := 3, closure := [], defaults := Value.none, kwdefaults := Value.none, pyModule := Value.str (Str.ofString "law_uf040002_05") 349, code := Value.ref 163 } }), (165, { cls := Value.type "tuple", data := Data.seq #[] }), (167, { cls := Value.type "tuple", data := Data.seq #[Value.str (Str.ofString "_law_cell") 410, Value.str (Str.ofString "_law_some") 411] }), (168, { cls := Value.type "tuple", data := Data.seq #[] }), (170, { cls := Value.type "code", data := Data.fields #[Value.str (Str.ofString "_law_odd_line") 407, Value.str (Str.ofString "_law_odd_line") 408, Value.str (Str.ofString "/claim/cut.py") 409, Value.int 80 0, Value.int 1 0, Value.int 0 0, Value.int 0 0, Value.int 3 0, Value.ref 165, Value.bool true, Value.int 181 0, Value.ref 166, Value.none, Value.ref 167, Value.ref 168, Value.ref 169, Value.int 412 0, Value.int 80 0, Value.str (Str.ofString "/claim/cut.py") 413] }), (171, { cls := Value.type "function", data := Data.func { name := Str.ofString "_law_odd_line", qualname := Str.ofString "_law_odd_line", params := argsOf (topS 22), body := FuncBody.stmts (bodyOf (topS 22)), scope := scopeOf (topS 22), globals := 3, closure := [], defaults := Value.none, kwdefaults := Value.none, pyModule := Value.str (Str.ofString "law_uf040002_05") 349, code := Value.ref 170 } }), (172, { cls := Value.type "tuple", data := Data.seq #[] }), (174, { cls := Value.type "tuple", data := Data.seq #[Value.str (Str.ofString "_law_line") 418] }), (175, { cls := Value.type "tuple", data := Data.seq #[] }), (177, { cls := Value.type "code", data := Data.fields #[Value.str (Str.ofString "_law_refused") 415, Value.str (Str.ofString "_law_refused") 416, Value.str (Str.ofString "/claim/cut.py") 417, Value.int 85 0, Value.int 1 0, Value.int 0 0, Value.int 0 0, Value.int 3 0, Value.ref 172, Value.bool true, Value.int 181 0, Value.ref 173, Value.none, Value.ref 174, Value.ref 175, Value.ref 176, Value.int 419 0, Value.int 85 0, Value.str (Str.ofString "/claim/cut.py") 420] })]
noncomputable def g7 (P : Params) : Frag := [(178, { cls := Value.type "function", data := Data.func { name := Str.ofString "_law_refused", qualname := Str.ofString "_law_refused", params := argsOf (topS 23), body := FuncBody.stmts (bodyOf (topS 23)), scope := scopeOf (topS 23), globals := 3, closure := [], defaults := Value.none, kwdefaults := Value.none, pyModule := Value.str (Str.ofString "law_uf040002_05") 349, code := Value.ref 177 } }), (179, { cls := Value.type "tuple", data := Data.seq #[] }), (181, { cls := Value.type "tuple", data := Data.seq #[Value.str (Str.ofString "_law_line") 425, Value.str (Str.ofString "e") 426] }), (182, { cls := Value.type "tuple", data := Data.seq #[] }), (184, { cls := Value.type "code", data := Data.fields #[Value.str (Str.ofString "_law_refused_by_all") 422, Value.str (Str.ofString "_law_refused_by_all") 423, Value.str (Str.ofString "/claim/cut.py") 424, Value.int 91 0, Value.int 1 0, Value.int 0 0, Value.int 0 0, Value.int 3 0, Value.ref 179, Value.bool true, Value.int 181 0, Value.ref 180, Value.none, Value.ref 181, Value.ref 182, Value.ref 183, Value.int 427 0, Value.int 91 0, Value.str (Str.ofString "/claim/cut.py") 428] }), (185, { cls := Value.type "function", data := Data.func { name := Str.ofString "_law_refused_by_all", qualname := Str.ofString "_law_refused_by_all", params := argsOf (topS 24), body := FuncBody.stmts (bodyOf (topS 24)), scope := scopeOf (topS 24), globals := 3, closure := [], defaults := Value.none, kwdefaults := Value.none, pyModule := Value.str (Str.ofString "law_uf040002_05") 349, code := Value.ref 184 } }), (186, { cls := Value.type "tuple", data := Data.seq #[] }), (188, { cls := Value.type "tuple", data := Data.seq #[Value.str (Str.ofString "_law_line") 433, Value.str (Str.ofString "_law_way") 434, Value.str (Str.ofString "_law_cell") 435, Value.str (Str.ofString "_law_some") 436, Value.str (Str.ofString "_law_sign") 437, Value.str (Str.ofString "_law_at") 438] }), (189, { cls := Value.type "tuple", data := Data.seq #[] }), (191, { cls := Value.type "code", data := Data.fields #[Value.str (Str.ofString "_law_line_by") 430, Value.str (Str.ofString "_law_line_by") 431, Value.str (Str.ofString "/claim/cut.py") 432, Value.int 101 0, Value.int 3 0, Value.int 0 0, Value.int 0 0, Value.int 3 0, Value.ref 186, Value.bool true, Value.int 181 0, Value.ref 187, Value.none, Value.ref 188, Value.ref 189, Value.ref 190, Value.int 439 0, Value.int 101 0, Value.str (Str.ofString "/claim/cut.py") 440] }), (192, { cls := Value.type "function", data := Data.func { name := Str.ofString "_law_line_by", qualname := Str.ofString "_law_line_by", params := argsOf (topS 25), body := FuncBody.stmts (bodyOf (topS 25)), scope := scopeOf (topS 25), globals := 3, closure := [], defaults := Value.none, kwdefaults := Value.none, pyModule := Value.str (Str.ofString "law_uf040002_05") 349, code := Value.ref 191 } }), (193, { cls := Value.type "tuple", data := Data.seq #[] })]
noncomputable def g8 (P : Params) : Frag := [(196, { cls := Value.type "code", data := Data.fields #[Value.str (Str.ofString "law") 442, Value.str (Str.ofString "law") 443, Value.str (Str.ofString "/claim/cut.py") 444, Value.int 117 0, Value.int 1 0, Value.int 0 0, Value.int 0 0, Value.int 3 0, Value.ref 193, Value.bool true, Value.int 181 0, Value.ref 194, Value.none, Value.none, Value.none, Value.ref 195, Value.int 445 0, Value.int 117 0, Value.str (Str.ofString "/claim/cut.py") 446] }), (197, { cls := Value.type "function", data := Data.func { name := Str.ofString "law", qualname := Str.ofString "law", params := argsOf (topS 26), body := FuncBody.stmts (bodyOf (topS 26)), scope := scopeOf (topS 26), globals := 3, closure := [], defaults := Value.none, kwdefaults := Value.none, pyModule := Value.str (Str.ofString "law_uf040002_05") 349, code := Value.ref 196 } })]
noncomputable def K2 (P : Params) : Frag := g0 P ++ (g1 P ++ (g2 P ++ (g3 P ++ (g4 P ++ (g5 P ++ (g6 P ++ (g7 P ++ (g8 P))))))))
noncomputable def as : List Addr := [100, 2, 3, 15, 22, 23, 24, 25, 28, 35, 36, 37, 40, 47, 48, 49, 52, 59, 60, 61, 64, 71, 72, 73, 76, 83, 84, 85, 88, 95, 96, 97, 101, 104, 105, 106, 108, 109, 111, 112, 113, 116, 117, 118, 120, 121, 123, 124, 125, 127, 128, 130, 131, 132, 134, 135, 137, 138, 139, 141, 142, 144, 145, 146, 148, 149, 151, 152, 153, 156, 157, 158, 160, 161, 163, 164, 165, 167, 168, 170, 171, 172, 174, 175, 177, 178, 179, 181, 182, 184, 185, 186, 188, 189, 191, 192, 193, 196, 197]
noncomputable def wO (P : Params) : Obj := { cls := Value.type "dict", data := Data.dict #[{ hash := PyData.keyHash P (Str.ofString "make"), key := Value.str (Str.ofString "make") 305, val := Value.int 2 306 }, { hash := PyData.keyHash P (Str.ofString "hold"), key := Value.str (Str.ofString "hold") 307, val := Value.int 2 308 }, { hash := PyData.keyHash P (Str.ofString "drop"), key := Value.str (Str.ofString "drop") 309, val := Value.int 1 310 }, { hash := PyData.keyHash P (Str.ofString "put"), key := Value.str (Str.ofString "put") 311, val := Value.int 3 312 }, { hash := PyData.keyHash P (Str.ofString "empty"), key := Value.str (Str.ofString "empty") 313, val := Value.int 2 314 }, { hash := PyData.keyHash P (Str.ofString "take"), key := Value.str (Str.ofString "take") 315, val := Value.int 3 316 }, { hash := PyData.keyHash P (Str.ofString "tidy"), key := Value.str (Str.ofString "tidy") 317, val := Value.int 0 318 }] 7 }
noncomputable def K (P : Params) : Frag := (100, wO P) :: K2 P
end Mine.Internal.K05
set_option maxRecDepth 100000
set_option maxHeartbeats 8000000
namespace Mine.Internal.K05
open PySem PySem.W PyProof.Rows
noncomputable def q : Program := { PySem.Challenge.pw_uf040002_05 with main := { PySem.Challenge.pw_uf040002_05.main with body := ([1,2,3,4,5,6,7,9,10,11,12,13,15,16,17,18,19,20,21,22,23,24,25,26] : List Nat).map topS } }
noncomputable def Hk : Hook := kHook K as (fun _ => by kernel_rfl)
theorem HL : LeftO PySem.Challenge.pw_uf040002_05 q [Str.ofString "WORDS"] (fun s => xlAt q [] s && recOk (RowW.records (PySem.Challenge.rw_uf040002_05.row.toRowW)) s) (Hook.obs Hk) (Hook.val Hk) 6000 := by
 refine LeftO.of_split "special-get-raises" ?_
 intro w
 kernel_rfl
theorem WS : PySem.Challenge.rw_uf040002_05.wellSaid = true := by kernel_rfl
end Mine.Internal.K05
namespace Mine.Internal
open PySem (Str PyData)
inductive V where
 | none
 | bool (b : Bool)
 | int (i : Int)
 | str (s : Str)
 | ref (a : Nat)
 deriving DecidableEq
inductive O where
 | list (xs : List V)
 | tup (xs : List V)
 | dict (es : List (V × V))
 | inst (c : Nat) (d : Nat)
 | attrs (es : List (Nat × V))
 | rng (a b c : Int)
 deriving DecidableEq
noncomputable abbrev H := List O
noncomputable def H.get (h : H) (a : Nat) : Option O := h[a]?
noncomputable def H.put (h : H) (a : Nat) (o : O) : H := h.set a o
noncomputable def H.push (h : H) (o : O) : H := h ++ [o]
inductive R (α : Type) where
 | ok (a : α)
 | err (c : Nat)
noncomputable abbrev X (α : Type) := H → Option (R α × H)
noncomputable def X.pure {α : Type} (a : α) : X α := fun h => some (.ok a, h)
noncomputable def X.bind {α β : Type} (m : X α) (f : α → X β) : X β := fun h =>
 match m h with
 | some (.ok a, h') => f a h'
 | some (.err c, h') => some (.err c, h')
 | none => none
noncomputable def X.none {α : Type} : X α := fun _ => Option.none
noncomputable def X.lift {α : Type} (o : Option α) : X α := fun h => match o with | some a => some (.ok a, h) | Option.none => Option.none
noncomputable abbrev Loc := Nat → Option V
noncomputable def Loc.upd (l : Loc) (i : Nat) (v : V) : Loc := fun j => bif j == i then some v else l j
inductive Bi where
 | len | sorted | list | range | min
 | tuple | str | int
 deriving DecidableEq
set_option genInjectivity false in
set_option genCtorIdx false in
mutual
inductive Ex where
 | cnone
 | cbool (b : Bool)
 | cint (i : Int)
 | cstr (s : Str)
 | loc (i : Nat)
 | glo (i : Nat)
 | bin (op : PySem.Operator) (a b : Ex)
 | neg (a : Ex)
 | not (a : Ex)
 | band (es : Exs)
 | bor (es : Exs)
 | cmp (op : PySem.CmpOp) (a b : Ex)
 | cmp2 (o1 o2 : PySem.CmpOp) (a b c : Ex)
 | list (es : Exs)
 | tup (es : Exs)
 | dict (ks vs : Exs)
 | attr (a : Ex) (n : Nat)
 | sub (a i : Ex)
 | slice (a lo hi : Ex)
 | call (f : Nat) (args : Exs)
 | new (c : Nat)
 | meth (o : Ex) (n : Nat) (args : Exs)
 | bi (b : Bi) (args : Exs)
 | isi (a : Ex) (cs : List Nat)
 | comp (elt : Ex) (tg : List Nat) (tup : Bool) (it : Ex) (conds : Exs)
inductive Exs where
 | nil
 | cons (e : Ex) (es : Exs)
end
set_option genInjectivity false in
inductive Tg where
 | var (i : Nat)
 | attr (o : Ex) (n : Nat)
 | sub (o i : Ex)
set_option genInjectivity false in
set_option genCtorIdx false in
mutual
inductive St where
 | expr (e : Ex)
 | asg (t : Tg) (e : Ex)
 | ite (c : Ex) (a b : Sts)
 | whl (c : Ex) (b : Sts)
 | for (tg : List Nat) (tup : Bool) (e : Ex) (b : Sts)
 | ret (e : Ex)
 | ret0
 | pass
 | rais (c : Nat) (msg : Str)
 | try (b : Sts) (cs : List (Nat × Ex))
 | tryE (b : Sts) (c i : Nat) (ks : List Nat) (k : Nat)
 | rrep (i : Nat) (y : Str) (zs : List Str) (j cnt : Ex)
inductive Sts where
 | nil
 | cons (s : St) (ss : Sts)
 | any
 | ctok (i : Nat) (s : Str) (ss : Sts)
end
set_option genInjectivity false in
structure FD where
 params : List Nat
 body : Sts
set_option genInjectivity false in
structure Prog where
 funs : List (Nat × FD)
 meths : List (Nat × FD)
 globs : List (Nat × V)
 init : Nat
 attrs : List Nat := []
 nf : Nat := 0
 xb : Nat := 0
noncomputable def H.getM (P : Prog) (h : H) (a : Nat) : Option O := if P.nf ≤ a then h.get a else none
noncomputable def idInt : Nat := 0
noncomputable def idBool : Nat := 1
noncomputable def idList : Nat := 2
noncomputable def idTuple : Nat := 3
noncomputable def idStr : Nat := 4
noncomputable def idAppend : Nat := 6
noncomputable def idPop : Nat := 7
noncomputable def idClear : Nat := 8
noncomputable def idSplit : Nat := 10
noncomputable def idJoin : Nat := 11
noncomputable def lim : Nat := 1000000
noncomputable def okO : O → Bool
 | .list xs => decide (xs.length ≤ lim)
 | .tup xs => decide (xs.length ≤ lim)
 | .dict es => decide (es.length ≤ lim)
 | _ => true
noncomputable def okS (s : Str) : Bool := decide (s.length ≤ lim) && PySem.PyData.strOk s
noncomputable def small (i : Int) : Bool := decide (i.natAbs < 2 ^ 64)
noncomputable def small' (i : Int) : Bool := decide (i.natAbs < 2 ^ 60)
noncomputable def alloc (o : O) : X V := fun h => if okO o then some (.ok (.ref h.length), h.push o) else none
noncomputable def grow (a : Nat) (o : O) (v : V) : X V := fun h => if okO o then some (.ok v, h.put a o) else none
noncomputable def err {α : Type} (c : Nat) : X α := fun h => some (.err c, h)
noncomputable def truth (v : V) : X Bool := fun h => match v with
 | .bool b => some (.ok b, h)
 | _ => none
noncomputable def optAll {α β : Type} (f : α → Option β) : List α → Option (List β)
 | [] => some []
 | x :: xs => match f x, optAll f xs with
  | some y, some ys => some (y :: ys)
  | _, _ => none
noncomputable def dataOf (h : H) : Nat → V → Option PyData
 | 0, _ => none
 | n + 1, v => match v with
  | .none => some .none
  | .bool b => some (.bool b)
  | .int i => some (.int i)
  | .str s => some (.str s)
  | .ref a => match h.get a with
   | some (.list xs) => (optAll (dataOf h n) xs).map .list
   | some (.tup xs) => (optAll (dataOf h n) xs).map .tuple
   | _ => none
noncomputable def deq (h : H) (a b : V) : Option Bool := match dataOf h 5 a, dataOf h 5 b with
 | some x, some y => some (PyData.eqv x y)
 | _, _ => none
noncomputable def intPow (a b : Int) : Option Int := if 0 ≤ b ∧ b ≤ 100 ∧ small a then some (a ^ b.toNat) else none
/- parts of values, for what is partly defined -/
noncomputable def onInt {β : Type} (v : V) (f : Int → Option β) : Option β := match v with
 | .int i => f i
 | _ => none
noncomputable def onRef {β : Type} (v : V) (f : Nat → Option β) : Option β := match v with
 | .ref i => f i
 | _ => none
noncomputable def chr1 (c : Nat) : Str := ⟨#[c]⟩
noncomputable def strL (l : List Nat) : Str := ⟨l.toArray⟩
noncomputable def onStr {β : Type} (v : V) (f : Str → Option β) : Option β := match v with
 | .str s => f s
 | _ => none
theorem onStr_eq {β : Type} {v : V} {f : Str → Option β} {r : β} (h : onStr v f = some r) : ∃ s, v = .str s ∧ f s = some r := by
 cases v <;> first | exact ⟨_, rfl, h⟩ | cases h
noncomputable def onOne {β : Type} (s : Str) (f : Nat → Option β) : Option β := match s.cps.toList with
 | [c] => f c
 | _ => none
theorem onOne_eq {β : Type} {s : Str} {f : Nat → Option β} {r : β} (h : onOne s f = some r) : ∃ c, s.cps.toList = [c] ∧ f c = some r := by
 unfold onOne at h
 cases e : s.cps.toList with
 | nil => rw [e] at h; cases h
 | cons c l =>
  rw [e] at h
  cases l with
  | nil => exact ⟨c, rfl, h⟩
  | cons _ _ => cases h
noncomputable def onL {β : Type} (o : Option O) (f : List V → Option β) : Option β := match o with
 | some (.list xs) => f xs
 | _ => none
noncomputable def on1 {β : Type} (l : List V) (f : V → Option β) : Option β := match l with
 | [a] => f a
 | _ => none
noncomputable def on2 {β : Type} (l : List V) (f : V → V → Option β) : Option β := match l with
 | [a, b] => f a b
 | _ => none
theorem onInt_eq {β : Type} {v : V} {f : Int → Option β} {r : β} (h : onInt v f = some r) : ∃ i, v = .int i ∧ f i = some r := by
 cases v <;> first | exact ⟨_, rfl, h⟩ | cases h
theorem onRef_eq {β : Type} {v : V} {f : Nat → Option β} {r : β} (h : onRef v f = some r) : ∃ i, v = .ref i ∧ f i = some r := by
 cases v <;> first | exact ⟨_, rfl, h⟩ | cases h
theorem onL_eq {β : Type} {o : Option O} {f : List V → Option β} {r : β} (h : onL o f = some r) : ∃ xs, o = some (.list xs) ∧ f xs = some r := by
 cases o with
 | none => cases h
 | some o => cases o <;> first | exact ⟨_, rfl, h⟩ | cases h
theorem on1_eq {β : Type} {l : List V} {f : V → Option β} {r : β} (h : on1 l f = some r) : ∃ a, l = [a] ∧ f a = some r := by
 match l, h with
 | [a], h => exact ⟨a, rfl, h⟩
theorem on2_eq {β : Type} {l : List V} {f : V → V → Option β} {r : β} (h : on2 l f = some r) : ∃ a b, l = [a, b] ∧ f a b = some r := by
 match l, h with
 | [a, b], h => exact ⟨a, b, rfl, h⟩
noncomputable def twoInts (a b : V) (f : Int → Int → Option (R V × H)) : Option (R V × H) := onInt a fun x => onInt b fun y => f x y
noncomputable def binop (op : PySem.Operator) (a b : V) : X V := fun h => match op with
 | .Add => match a with
  | .int x => onInt b fun y => some (.ok (.int (x + y)), h)
  | .str x => match b with
   | .str y => if okS (x ++ y) then some (.ok (.str (x ++ y)), h) else none
   | _ => none
  | .ref x => onRef b fun y => onL (h.get x) fun xs => onL (h.get y) fun ys => alloc (.list (xs ++ ys)) h
  | _ => none
 | .Sub => twoInts a b fun x y => some (.ok (.int (x - y)), h)
 | .FloorDiv => twoInts a b fun x y => if y = 0 then none else if small y then some (.ok (.int (Int.fdiv x y)), h) else none
 | .Mod => twoInts a b fun x y => if y = 0 then none else some (.ok (.int (Int.fmod x y)), h)
 | .Pow => twoInts a b fun x y => match intPow x y with | some z => some (.ok (.int z), h) | none => none
 | _ => none
noncomputable def inList (h : H) (x : V) (ys : List V) : Option Bool := match dataOf h 5 x, optAll (dataOf h 4) ys with
 | some d, some ds => some (ds.any fun y => PyData.eqv y d)
 | _, _ => none
noncomputable def dget (es : List (V × V)) (k : V) : Option V := match es with
 | [] => none
 | (k', v) :: r => if k' = k then some v else dget r k
noncomputable def dset (es : List (V × V)) (k v : V) : List (V × V) := match es with
 | [] => [(k, v)]
 | (k', v') :: r => if k' = k then (k', v) :: r else (k', v') :: dset r k v
noncomputable def ddel (es : List (V × V)) (k : V) : List (V × V) := match es with
 | [] => []
 | (k', v') :: r => if k' = k then r else (k', v') :: ddel r k
noncomputable def isKey : V → Bool
 | .int _ => true
 | .str _ => true
 | _ => false
noncomputable def strIn (x y : Str) : Option Bool := onOne x fun c => some (y.cps.toList.any fun d => decide (d = c))
noncomputable def contains (P : Prog) (x c : V) : X Bool := fun h => match c with
 | .ref a => match h.get a with
  | some (.list ys) => (inList h x ys).map fun b => (.ok b, h)
  | some (.tup ys) => (inList h x ys).map fun b => (.ok b, h)
  | some (.dict es) => if isKey x || decide (x = .none) then some (.ok (dget es x).isSome, h) else none
  | _ => none
 | .str y => onStr x fun x => (strIn x y).map fun b => (.ok b, h)
 | _ => none
noncomputable def onN {β : Type} (v : V) (x : Option β) : Option β := match v with
 | .none => x
 | _ => none
theorem onN_eq {β : Type} {v : V} {x : Option β} {r : β} (h : onN v x = some r) : v = .none ∧ x = some r := by
 cases v <;> first | exact ⟨rfl, h⟩ | cases h
noncomputable def cmpop (P : Prog) (op : PySem.CmpOp) (a b : V) : X V := fun h => match op with
 | .Eq => (deq h a b).map fun r => (.ok (.bool r), h)
 | .NotEq => (deq h a b).map fun r => (.ok (.bool (!r)), h)
 | .Lt => twoInts a b fun x y => some (.ok (.bool (decide (x < y))), h)
 | .LtE => twoInts a b fun x y => some (.ok (.bool (decide (x ≤ y))), h)
 | .Gt => twoInts a b fun x y => some (.ok (.bool (decide (x > y))), h)
 | .GtE => twoInts a b fun x y => some (.ok (.bool (decide (x ≥ y))), h)
 | .Is => onN b (some (.ok (.bool (decide (a = .none))), h))
 | .IsNot => onN b (some (.ok (.bool (decide (a ≠ .none))), h))
 | .In => X.bind (contains P a b) (fun r => X.pure (.bool r)) h
 | .NotIn => X.bind (contains P a b) (fun r => X.pure (.bool (!r))) h
noncomputable def idx (i : Int) (n : Nat) : Option Nat := if 0 ≤ i ∧ i < n then some i.toNat else if i < 0 ∧ 0 ≤ i + n then some (i + n).toNat else none
noncomputable def getItem (P : Prog) (o i : V) : X V := fun h => match o with
 | .ref a => match h.get a, i with
  | some (.list xs), .int k => ((idx k xs.length).bind fun j => xs[j]?).map fun v => (.ok v, h)
  | some (.tup xs), .int k => ((idx k xs.length).bind fun j => xs[j]?).map fun v => (.ok v, h)
  | some (.dict es), k => if isKey k then (dget es k).map fun v => (.ok v, h) else none
  | _, _ => none
 | .str s => onInt i fun k => ((idx k s.cps.toList.length).bind fun j => s.cps.toList[j]?).map fun c => (.ok (.str (chr1 c)), h)
 | _ => none
noncomputable def setItem (P : Prog) (o i v : V) : X Unit := fun h => match o with
 | .ref a => match h.getM P a, i with
  | some (.list xs), .int k => (idx k xs.length).map fun j => (.ok (), h.put a (.list (xs.set j v)))
  | some (.dict es), k => if isKey k then (if okO (.dict (dset es k v)) then some (.ok (), h.put a (.dict (dset es k v))) else none) else none
  | _, _ => none
 | _ => none
noncomputable def clip (v : V) (n : Nat) (d : Nat) : Option Nat := match v with
 | .none => some d
 | .int i => some (if 0 ≤ i then min i.toNat n else (i + n).toNat)
 | _ => none
noncomputable def cut {α : Type} (xs : List α) (lo hi : Nat) : List α := (xs.take hi).drop lo
noncomputable def getSlice (o lo hi : V) : X V := fun h => match o with
 | .ref a => match h.get a with
  | some (.list xs) => match clip lo xs.length 0, clip hi xs.length xs.length with
   | some l, some u => some (.ok (.ref h.length), h.push (.list (cut xs l u)))
   | _, _ => none
  | some (.tup xs) => onN hi (onInt lo fun i => if 1 ≤ i ∧ i ≤ xs.length then some (.ok (.ref h.length), h.push (.tup (xs.drop i.toNat))) else none)
  | _ => none
 | .str s => match clip lo s.cps.toList.length 0, clip hi s.cps.toList.length s.cps.toList.length with
  | some l, some u => some (.ok (.str (strL (cut s.cps.toList l u))), h)
  | _, _ => none
 | _ => none
noncomputable def aget (es : List (Nat × V)) (k : Nat) : Option V := match es with
 | [] => none
 | (k', v) :: r => if k' = k then some v else aget r k
noncomputable def aset (es : List (Nat × V)) (k : Nat) (v : V) : List (Nat × V) := match es with
 | [] => [(k, v)]
 | (k', v') :: r => if k' = k then (k', v) :: r else (k', v') :: aset r k v
noncomputable def getAttr (o : V) (n : Nat) : X V := fun h => match o with
 | .ref a => match h.get a with
  | some (.inst _ d) => match h.get d with
   | some (.attrs es) => (aget es n).map fun v => (.ok v, h)
   | _ => none
  | _ => none
 | _ => none
noncomputable def setAttr (P : Prog) (o : V) (n : Nat) (v : V) : X Unit := fun h => match o with
 | .ref a => match h.get a with
  | some (.inst _ d) => match h.getM P d with
   | some (.attrs es) => if P.attrs.contains n && decide ((aset es n v).length ≤ 100) then some (.ok (), h.put d (.attrs (aset es n v))) else none
   | _ => none
  | _ => none
 | _ => none
noncomputable def intsOf : List V → Option (List Int)
 | [] => some []
 | .int i :: r => (intsOf r).map (i :: ·)
 | _ => none
noncomputable def insertI (x : Int) : List Int → List Int
 | [] => [x]
 | y :: r => if x ≤ y then x :: y :: r else y :: insertI x r
noncomputable def sortI : List Int → List Int
 | [] => []
 | x :: r => insertI x (sortI r)
noncomputable def rangeList (a b c : Int) : List Int :=
 if 0 < c then (List.range (if a < b then (b - a - 1) / c + 1 else 0).toNat).map fun (k : Nat) => a + (k : Int) * c else []
noncomputable def iterOf (v : V) (h : H) : Option (List V) := match v with
 | .ref a => match h.get a with
  | some (.list xs) => some xs
  | some (.tup xs) => some xs
  | some (.rng a b c) => if small' a && small' b && small' c && decide (b - a ≤ (lim : Int)) && decide (0 < c) then some ((rangeList a b c).map .int) else none
  | _ => none
 | .str s => if s.cps.all (· < 128) = true ∧ s.cps.toList.length ≤ lim then some (s.cps.toList.map fun c => .str (chr1 c)) else none
 | _ => none
noncomputable def still (v : V) (h h' : H) : Bool := match v with
 | .ref a => decide (h'.get a = h.get a)
 | _ => true
noncomputable def strsOf : List V → Option (List Str)
 | [] => some []
 | .str s :: r => (strsOf r).map (s :: ·)
 | _ => none
noncomputable def joinS (sep : Str) : List Str → Str
 | [] => ⟨#[]⟩
 | [s] => s
 | s :: r => s ++ sep ++ joinS sep r
noncomputable def splitC (c : Nat) : List Nat → List (List Nat)
 | [] => [[]]
 | x :: r => if x = c then [] :: splitC c r else match splitC c r with
  | [] => [[x]]
  | w :: ws => (x :: w) :: ws
noncomputable def replC (c : Nat) (t : List Nat) : Nat → List Nat → List Nat
 | 0, l => l
 | _, [] => []
 | n + 1, x :: r => if x = c then t ++ replC c t n r else x :: replC c t (n + 1) r
noncomputable def figs (s : Str) : Bool := !s.cps.toList.isEmpty && decide (s.cps.toList.length ≤ 100) && s.cps.toList.all fun c => decide (48 ≤ c) && decide (c ≤ 57)
noncomputable def digV (cs : List Nat) : Nat := cs.foldl (fun acc c => acc * 10 + (c - 48)) 0
noncomputable def strMeth (o : V) (n : Nat) (args : List V) : X V := fun h => onStr o fun s =>
 if n = idSplit then on1 args fun v => onStr v fun sep => onOne sep fun c => if c < 256 then alloc (.list ((splitC c s.cps.toList).map fun l => .str (strL l))) h else none
 else if n = idJoin then on1 args fun v => onRef v fun a => onL (h.get a) fun xs => match strsOf xs with
  | some ss => if okS (joinS s ss) = true then some (.ok (.str (joinS s ss)), h) else none
  | none => none
 else none
noncomputable def biLen (v : V) (h : H) : Option (R V × H) := match v with
 | .ref a => match h.get a with
  | some (.list xs) => some (.ok (.int xs.length), h)
  | some (.tup xs) => some (.ok (.int xs.length), h)
  | some (.dict es) => some (.ok (.int es.length), h)
  | _ => none
 | .str s => some (.ok (.int s.length), h)
 | _ => none
noncomputable def sortedI (o : Option (List Int)) (h : H) : Option (R V × H) := match o with
 | some ns => if ns.length < 64 then some (.ok (.ref h.length), h.push (.list ((sortI ns).map .int))) else none
 | none => none
noncomputable def biSorted (v : V) (h : H) : Option (R V × H) := onRef v fun a => match h.get a with
  | some (.dict es) => sortedI (intsOf (es.map (·.1))) h
  | _ => none
noncomputable def biList (v : V) (h : H) : Option (R V × H) := onRef v fun a => match h.get a with
  | some (.list xs) => alloc (.list xs) h
  | some (.tup xs) => alloc (.list xs) h
  | _ => none
noncomputable def biRange (args : List V) (h : H) : Option (R V × H) := match args with
 | [a] => onInt a fun n => alloc (.rng 0 n 1) h
 | _ => none
noncomputable def biTuple (v : V) (h : H) : Option (R V × H) := onRef v fun a => onL (h.get a) fun xs => alloc (.tup xs) h
noncomputable def strOfI (i : Int) : Str := Str.ofString (toString i)
noncomputable def fewI10 (i : Int) : Bool := Nat.ble i.natAbs.log2 999
noncomputable def biStr (v : V) (h : H) : Option (R V × H) := match v with
 | .str s => some (.ok (.str s), h)
 | .int i => if fewI10 i = true ∧ okS (strOfI i) = true then some (.ok (.str (strOfI i)), h) else none
 | _ => none
noncomputable def biInt (v : V) (h : H) : Option (R V × H) := onStr v fun s => if figs s = true then some (.ok (.int (digV s.cps.toList : Nat)), h) else none
noncomputable def builtin (b : Bi) (args : List V) : X V := fun h => match b with
 | .len => on1 args fun v => biLen v h
 | .sorted => on1 args fun v => biSorted v h
 | .list => on1 args fun v => biList v h
 | .range => biRange args h
 | .min => on2 args fun a b => twoInts a b fun a b => some (.ok (.int (if b < a then b else a)), h)
 | .tuple => on1 args fun v => biTuple v h
 | .str => on1 args fun v => biStr v h
 | .int => on1 args fun v => biInt v h
noncomputable def isinst (P : Prog) (v : V) (c : Nat) : X Bool := fun h => match v with
 | .none => some (.ok false, h)
 | .bool _ => some (.ok (c == idBool || c == idInt), h)
 | .int _ => some (.ok (c == idInt), h)
 | .str _ => some (.ok (c == idStr), h)
 | .ref a => match h.get a with
  | some (.list _) => some (.ok (c == idList), h)
  | some (.tup _) => some (.ok (c == idTuple), h)
  | _ => none
noncomputable abbrev isB : Nat := 4
noncomputable def isinsts (P : Prog) (v : V) : List Nat → X Bool
 | [c] => if c ≤ isB then isinst P v c else X.none
 | _ => X.none
noncomputable def listMeth (P : Prog) (o : V) (n : Nat) (args : List V) : X V := fun h => match o with
 | .ref a => match h.getM P a with
  | some (.list xs) =>
   if n = idAppend then match args with
    | [v] => grow a (.list (xs ++ [v])) .none h
    | _ => none
   else none
  | _ => none
 | _ => none
noncomputable def dictMeth (P : Prog) (o : V) (n : Nat) (args : List V) : X V := fun h => match o with
 | .ref a => match h.getM P a with
  | some (.dict es) =>
   if n = idPop then match args with
    | [k] => if isKey k then match dget es k with
      | some v => some (.ok v, h.put a (.dict (ddel es k)))
      | none => none
     else none
    | [k, d] => if isKey k then match dget es k with
      | some v => some (.ok v, h.put a (.dict (ddel es k)))
      | none => some (.ok d, h)
     else none
    | _ => none
   else none
  | _ => none
 | _ => none
inductive Kd where
 | inst | list | dict | str | other
noncomputable def kdOf (v : V) (h : H) : Kd := match v with
 | .ref a => match h.get a with
  | some (.inst _ d) => match h.get d with
   | some (.attrs _) => .inst
   | _ => .other
  | some (.list _) => .list
  | some (.dict _) => .dict
  | _ => .other
 | .str _ => .str
 | _ => .other
noncomputable def bindTg (tg : List Nat) (tup : Bool) (v : V) (loc : Loc) (h : H) : Option Loc := match tup, tg with
 | false, [i] => some (loc.upd i v)
 | true, is => match v with
  | .ref a => match h.get a with
   | some (.tup xs) => if xs.length = is.length then some ((is.zip xs).foldl (fun l p => l.upd p.1 p.2) loc) else none
   | _ => none
  | _ => none
 | _, _ => none
noncomputable def compL (v₀ : V) (tg : List Nat) (tup : Bool) (t : Loc → X Bool) (e : Loc → X V) (loc : Loc) (h₀ : H) : List V → H → Option (R (List V) × H)
 | [], h => some (.ok [], h)
 | v :: vs, h => match bindTg tg tup v loc h with
  | none => none
  | some l' => match t l' h with
   | none => none
   | some (.err _, _) => none
   | some (.ok false, h₁) => if still v₀ h₀ h₁ then compL v₀ tg tup t e loc h₀ vs h₁ else none
   | some (.ok true, h₁) => match e l' h₁ with
    | none => none
    | some (.err k, h₂) => some (.err k, h₂)
    | some (.ok w, h₂) => if still v₀ h₀ h₂ then match compL v₀ tg tup t e loc h₀ vs h₂ with
      | none => none
      | some (.err k, h₃) => some (.err k, h₃)
      | some (.ok ws, h₃) => some (.ok (w :: ws), h₃)
     else none
noncomputable abbrev Calls := Bool → Nat → List V → X V
section
variable (P : Prog) (C : Calls)
mutual
noncomputable def ev : Ex → Loc → X V
 | .cnone, _ => X.pure .none
 | .cbool b, _ => X.pure (.bool b)
 | .cint i, _ => X.pure (.int i)
 | .cstr s, _ => X.pure (.str s)
 | .loc i, loc => X.lift (loc i)
 | .glo i, _ => match P.globs.lookup i with
  | some v => X.pure v
  | none => X.none
 | .bin op a b, loc => X.bind (ev a loc) fun x => X.bind (ev b loc) fun y => binop op x y
 | .neg a, loc => X.bind (ev a loc) fun x => match x with | .int i => X.pure (.int (-i)) | _ => X.none
 | .not a, loc => X.bind (ev a loc) fun x => X.bind (truth x) fun t => X.pure (.bool (!t))
 | .band es, loc => evAnd es loc
 | .bor _, _ => X.none
 | .cmp op a b, loc => X.bind (ev a loc) fun x => X.bind (ev b loc) fun y => cmpop P op x y
 | .cmp2 o1 o2 a b c, loc => X.bind (ev a loc) fun x => X.bind (ev b loc) fun y => X.bind (cmpop P o1 x y) fun r => X.bind (truth r) fun t =>
   if t then X.bind (ev c loc) fun z => cmpop P o2 y z else X.pure r
 | .list es, loc => X.bind (evs es loc) fun vs => alloc (.list vs)
 | .tup es, loc => X.bind (evs es loc) fun vs => alloc (.tup vs)
 | .dict ks vs, loc => X.bind (evs ks loc) fun kv => X.bind (evs vs loc) fun vv => if kv.all isKey && kv.length == vv.length then alloc (.dict ((kv.zip vv).foldl (fun d p => dset d p.1 p.2) [])) else X.none
 | .attr a n, loc => X.bind (ev a loc) fun o => getAttr o n
 | .sub a i, loc => X.bind (ev a loc) fun o => X.bind (ev i loc) fun k => getItem P o k
 | .slice a lo hi, loc => X.bind (ev a loc) fun o => X.bind (ev lo loc) fun l => X.bind (ev hi loc) fun u => getSlice o l u
 | .call f args, loc => X.bind (evs args loc) fun vs => C false f vs
 | .new _, _ => X.none
 | .meth o n args, loc => X.bind (ev o loc) fun ov => fun h => match kdOf ov h with
  | .inst => if n ≤ 12 then none else X.bind (evs args loc) (fun vs => C true n (ov :: vs)) h
  | .list => if n = idAppend ∨ n = idPop then X.bind (evs args loc) (fun vs => listMeth P ov n vs) h else none
  | .dict => if n = idPop then X.bind (evs args loc) (fun vs => dictMeth P ov n vs) h else none
  | .str => if n = idSplit ∨ n = idJoin then X.bind (evs args loc) (fun vs => strMeth ov n vs) h else none
  | _ => none
 | .bi b args, loc => X.bind (evs args loc) fun vs => builtin b vs
 | .isi a cs, loc => X.bind (ev a loc) fun v => X.bind (isinsts P v cs) fun b => X.pure (.bool b)
 | .comp elt tg tup it conds, loc => X.bind (ev it loc) fun v => fun h => match iterOf v h with
  | none => none
  | some vs => X.bind (compL v tg tup (tstAnd conds) (ev elt) loc h vs) (fun ws => alloc (.list ws)) h
noncomputable def evs : Exs → Loc → X (List V)
 | .nil, _ => X.pure []
 | .cons e es, loc => X.bind (ev e loc) fun v => X.bind (evs es loc) fun vs => X.pure (v :: vs)
noncomputable def evAnd : Exs → Loc → X V
 | .nil, _ => X.none
 | .cons e .nil, loc => ev e loc
 | .cons e es, loc => X.bind (ev e loc) fun v => X.bind (truth v) fun t => if t then evAnd es loc else X.pure v
noncomputable def tst : Ex → Loc → X V → X Bool
 | .not a, loc, _ => X.bind (tst a loc (ev a loc)) fun t => X.pure (!t)
 | .band es, loc, _ => tstAnd es loc
 | .bor es, loc, _ => tstOr es loc
 | _, _, whole => X.bind whole truth
noncomputable def tstAnd : Exs → Loc → X Bool
 | .nil, _ => X.pure true
 | .cons e es, loc => X.bind (tst e loc (ev e loc)) fun t => if t then tstAnd es loc else X.pure false
noncomputable def tstOr : Exs → Loc → X Bool
 | .nil, _ => X.pure false
 | .cons e es, loc => X.bind (tst e loc (ev e loc)) fun t => if t then X.pure true else tstOr es loc
end
noncomputable def afterX (x : Option (R (Option V) × Loc × H)) (k : Loc → H → Option (R (Option V) × Loc × H)) : Option (R (Option V) × Loc × H) := match x with
 | none => none
 | some (.ok none, l₂, h₂) => k l₂ h₂
 | some (.ok (some v), l₂, h₂) => some (.ok (some v), l₂, h₂)
 | some (.err _, _, _) => none
noncomputable def whileL (t : Loc → X Bool) (b : Loc → H → Option (R (Option V) × Loc × H)) : Nat → Loc → H → Option (R (Option V) × Loc × H)
 | 0, _, _ => none
 | n + 1, loc, h => match t loc h with
  | none => none
  | some (.err _, _) => none
  | some (.ok false, h₁) => some (.ok none, loc, h₁)
  | some (.ok true, h₁) => afterX (b loc h₁) fun l₂ h₂ => whileL t b n l₂ h₂
noncomputable def afterE (x : Option (R (Option V) × Loc × H)) (k : Loc → H → Option (R (Option V) × Loc × H)) : Option (R (Option V) × Loc × H) := match x with
 | some (.ok none, l₂, h₂) => k l₂ h₂
 | _ => x
noncomputable def forL (v₀ : V) (tg : List Nat) (tup : Bool) (b : Loc → H → Option (R (Option V) × Loc × H)) (h₀ : H) : List V → Loc → H → Option (R (Option V) × Loc × H)
 | [], loc, h => some (.ok none, loc, h)
 | v :: vs, loc, h => match bindTg tg tup v loc h with
  | none => none
  | some l' => afterE (b l' h) fun l₂ h₂ => if still v₀ h₀ h₂ then forL v₀ tg tup b h₀ vs l₂ h₂ else none
noncomputable def tryE (P : Prog) (x : Option (R (Option V) × Loc × H)) (c i : Nat) (ks : List Nat) (k : Nat) : Option (R (Option V) × Loc × H) := match x with
 | none => none
 | some (.ok o, l₁, h₁) => some (.ok o, l₁, h₁)
 | some (.err q, l₁, h₁) => if c = P.xb then some (.ok (some (.bool (!ks.contains q && decide (q = k)))), fun _ => none, h₁) else none
noncomputable def jOK (jv : V) (n : Nat) : Bool := match jv with
 | .int j => (idx j n).isSome
 | _ => false
noncomputable def replV (v jv nv : V) (y : Str) (zs : List Str) : Option Str := onStr v fun s => onInt jv fun j => onInt nv fun n => (idx j zs.length).bind fun j => (zs[j]?).bind fun z => onOne y fun c =>
 if z ≠ y ∧ 0 < n ∧ n < 2 ^ 60 ∧ z.cps.toList.length ≤ 10 ∧ s.cps.toList.length ≤ 100000 ∧ okS (strL (replC c z.cps.toList n.toNat s.cps.toList)) = true then some (strL (replC c z.cps.toList n.toNat s.cps.toList)) else none
theorem replV_j {v jv nv : V} {y s : Str} {zs : List Str} (h : replV v jv nv y zs = some s) : jOK jv zs.length = true := by
 obtain ⟨x, rfl, h⟩ := onStr_eq h
 cases jv with
 | int j =>
  cases nv with
  | int n =>
   have h : ((idx j zs.length).bind fun j => _) = some s := h
   obtain ⟨k, hk, _⟩ := Option.bind_eq_some_iff.mp h
   exact Option.isSome_iff_exists.mpr ⟨k, hk⟩
  | _ => cases h
 | _ => cases h
noncomputable def onX {α : Type} (m : X α) (loc : Loc) (f : α → H → Option (R (Option V) × Loc × H)) (h : H) : Option (R (Option V) × Loc × H) := match m h with
 | none => none
 | some (.err c, h₁) => some (.err c, loc, h₁)
 | some (.ok a, h₁) => f a h₁
noncomputable def okA : Ex → Bool
 | .loc _ => true
 | .cint _ => true
 | .cnone => true
 | .bi .len (.cons (.loc _) .nil) => true
 | .sub (.loc _) (.loc _) => true
 | _ => false
noncomputable def okC : Ex → Bool
 | .cmp _ a b => okA a && okA b
 | .cnone => true
 | .cbool _ => true
 | _ => false
noncomputable def okH : Ex → Bool
 | .band (.cons a (.cons b .nil)) => okC a && okC b
 | e => okC e
noncomputable def catchX (P : Prog) (C : Calls) (k : Nat) : List (Nat × Ex) → Loc → X V
 | [], _ => fun _ => none
 | (c, r) :: cs, loc => if k = c ∨ c = P.xb then ev P C r loc else catchX P C k cs loc
noncomputable def tryX (P : Prog) (C : Calls) (x : Option (R (Option V) × Loc × H)) (cs : List (Nat × Ex)) : Option (R (Option V) × Loc × H) := match x with
 | none => none
 | some (.ok o, l₁, h₁) => some (.ok o, l₁, h₁)
 | some (.err k, l₁, h₁) => match catchX P C k cs l₁ h₁ with
  | some (.ok v, h₂) => some (.ok (some v), l₁, h₂)
  | _ => none
variable (F : Nat)
mutual
noncomputable def ex : St → Loc → H → Option (R (Option V) × Loc × H)
 | .expr e, loc, h => onX (ev P C e loc) loc (fun _ h₁ => some (.ok none, loc, h₁)) h
 | .asg t e, loc, h => onX (ev P C e loc) loc (fun v h₁ => match t with
   | .var i => some (.ok none, loc.upd i v, h₁)
   | .attr o n => onX (ev P C o loc) loc (fun ov h₂ => onX (setAttr P ov n v) loc (fun _ h₃ => some (.ok none, loc, h₃)) h₂) h₁
   | .sub o i => onX (ev P C o loc) loc (fun ov h₂ => onX (ev P C i loc) loc (fun iv h₃ => onX (setItem P ov iv v) loc (fun _ h₄ => some (.ok none, loc, h₄)) h₃) h₂) h₁) h
 | .ite c a b, loc, h => onX (tst P C c loc (ev P C c loc)) loc (fun t h₁ => if t then exs a loc h₁ else exs b loc h₁) h
 | .whl c b, loc, h => whileL (fun l => tst P C c l (ev P C c l)) (exs b) F loc h
 | .for tg tup e b, loc, h => onX (ev P C e loc) loc (fun v h₁ => match iterOf v h₁ with
   | none => none
   | some vs => forL v tg tup (exs b) h₁ vs loc h₁) h
 | .ret e, loc, h => onX (ev P C e loc) loc (fun v h₁ => some (.ok (some v), loc, h₁)) h
 | .ret0, loc, h => some (.ok (some .none), loc, h)
 | .pass, loc, h => some (.ok none, loc, h)
 | .rais c _, loc, h => some (.err c, loc, h)
 | .try b cs, loc, h => tryX P C (exs b loc h) cs
 | .tryE b c i ks k, loc, h => tryE P (exs b loc h) c i ks k
 | .rrep i y zs j n, loc, h => match loc i with
  | some (.str x) => onX (ev P C j loc) loc (fun jv h₁ => if jOK jv zs.length then onX (ev P C n loc) loc (fun nv h₂ => (replV (.str x) jv nv y zs).map fun s => (.ok (some (.str s)), loc, h₂)) h₁ else none) h
  | _ => none
noncomputable def exs : Sts → Loc → H → Option (R (Option V) × Loc × H)
 | .any, _, _ => none
 | .ctok i s ss, loc, h => exs ss (loc.upd i (.str s)) h
 | .nil, loc, h => some (.ok none, loc, h)
 | .cons s ss, loc, h => match ex s loc h with
  | some (.ok none, l₁, h₁) => exs ss l₁ h₁
  | r => r
end
end
noncomputable def run (P : Prog) (F : Nat) : Nat → Calls
 | 0, _, _, _ => X.none
 | d + 1, m, f, args => fun h => match (if m then P.meths else P.funs).lookup f with
  | none => none
  | some fd => if args.length = fd.params.length then
    match exs P (run P F d) F fd.body ((fd.params.zip args).foldl (fun l p => l.upd p.1 p.2) (fun _ => none)) h with
    | none => none
    | some (.err c, _, h₁) => some (.err c, h₁)
    | some (.ok r, _, h₁) => some (.ok (r.getD .none), h₁)
   else none
end Mine.Internal
set_option autoImplicit false
namespace Mine.Internal
theorem insertI_perm (x : Int) (l : List Int) : (insertI x l).Perm (x :: l) := by
 induction l with
 | nil => exact List.Perm.refl _
 | cons y r ih =>
  simp only [insertI]
  split
  ·exact List.Perm.refl _
  ·exact (ih.cons y).trans (List.Perm.swap x y r)
theorem sortI_perm (l : List Int) : (sortI l).Perm l := by
 induction l with
 | nil => exact List.Perm.refl _
 | cons x r ih => exact (insertI_perm x _).trans (ih.cons x)
theorem insertI_sorted (x : Int) {l : List Int} (h : l.Pairwise (· ≤ ·)) : (insertI x l).Pairwise (· ≤ ·) := by
 induction l with
 | nil => simp [insertI]
 | cons y r ih =>
  simp only [insertI]
  rw [List.pairwise_cons] at h
  split
  ·rename_i hxy
   refine List.pairwise_cons.mpr ⟨fun z hz => ?_, List.pairwise_cons.mpr h⟩
   rcases List.mem_cons.mp hz with rfl | hz
   ·exact hxy
   ·exact Int.le_trans hxy (h.1 z hz)
  ·rename_i hxy
   refine List.pairwise_cons.mpr ⟨fun z hz => ?_, ih h.2⟩
   rcases List.mem_cons.mp ((insertI_perm x r).mem_iff.mp hz) with rfl | hz
   ·lia
   ·exact h.1 z hz
theorem sortI_sorted (l : List Int) : (sortI l).Pairwise (· ≤ ·) := by
 induction l with
 | nil => exact List.Pairwise.nil
 | cons x r ih => exact insertI_sorted x ih
theorem sorted_unique : ∀ {a b : List Int}, a.Perm b → a.Pairwise (· ≤ ·) → b.Pairwise (· ≤ ·) → a = b
 | [], b, p, _, _ => (List.nil_perm.mp p).symm
 | x :: a, [], p, _, _ => absurd p.length_eq (by simp)
 | x :: a, y :: b, p, ha, hb => by
  rw [List.pairwise_cons] at ha hb
  have hxy : x = y := by
   have h1 : x ∈ y :: b := p.mem_iff.mp (.head _)
   have h2 : y ∈ x :: a := p.mem_iff.mpr (.head _)
   rcases List.mem_cons.mp h1 with h1 | h1
   ·exact h1
   ·rcases List.mem_cons.mp h2 with h2 | h2
    ·exact h2.symm
    ·have := hb.1 x h1; have := ha.1 y h2; lia
  subst hxy
  rw [sorted_unique (List.Perm.cons_inv p) ha.2 hb.2]
end Mine.Internal
set_option autoImplicit false
namespace Mine.Internal
open PySem PySem.W PySem.Calls PyProof.Rows
inductive All2 {α β : Type} (R : α → β → Prop) : List α → List β → Prop
 | nil : All2 R [] []
 | cons {a : α} {b : β} {as : List α} {bs : List β} : R a b → All2 R as bs → All2 R (a :: as) (b :: bs)
namespace All2
variable {α β γ δ : Type} {R R' : α → β → Prop}
theorem length {as : List α} {bs : List β} (h : All2 R as bs) : as.length = bs.length := by
 induction h with
 | nil => rfl
 | cons _ _ ih => simp [ih]
theorem get {as : List α} {bs : List β} (h : All2 R as bs) : ∀ {i : Nat} {a : α}, as[i]? = some a → ∃ b, bs[i]? = some b ∧ R a b := by
 induction h with
 | nil => intro i a e; simp at e
 | cons hr _ ih =>
  intro i a e
  cases i with
  | zero => simp only [List.getElem?_cons_zero, Option.some.injEq] at e; subst e; exact ⟨_, rfl, hr⟩
  | succ i => simp only [List.getElem?_cons_succ] at e ⊢; exact ih e
theorem mono {as : List α} {bs : List β} (h : All2 R as bs) (k : ∀ a b, R a b → R' a b) : All2 R' as bs := by
 induction h with
 | nil => exact .nil
 | cons hr _ ih => exact .cons (k _ _ hr) ih
theorem append {as as' : List α} {bs bs' : List β} (h : All2 R as bs) (h' : All2 R as' bs') : All2 R (as ++ as') (bs ++ bs') := by
 induction h with
 | nil => exact h'
 | cons hr _ ih => exact .cons hr ih
theorem set {as : List α} {bs : List β} (h : All2 R as bs) {a : α} {b : β} (hr : R a b) : ∀ i : Nat, All2 R (as.set i a) (bs.set i b) := by
 induction h with
 | nil => intro i; exact .nil
 | cons hr' hs ih =>
  intro i
  cases i with
  | zero => exact .cons hr hs
  | succ i => exact .cons hr' (ih i)
theorem one {a : α} {b : β} (h : R a b) : All2 R [a] [b] := .cons h .nil
theorem take {as : List α} {bs : List β} (h : All2 R as bs) : ∀ n : Nat, All2 R (as.take n) (bs.take n) := by
 induction h with
 | nil => intro n; simp; exact .nil
 | cons hr _ ih =>
  intro n
  cases n with
  | zero => exact .nil
  | succ n => exact .cons hr (ih n)
theorem drop {as : List α} {bs : List β} (h : All2 R as bs) : ∀ n : Nat, All2 R (as.drop n) (bs.drop n) := by
 induction h with
 | nil => intro n; simp; exact .nil
 | cons hr hs ih =>
  intro n
  cases n with
  | zero => exact .cons hr hs
  | succ n => exact ih n
end All2
set_option genInjectivity false in
structure Sig where
 prog : Program
 w : World
 K : Frag
 T : List Str
 P : Prog
 cls : Nat → Option Addr
 fn : Nat → Option Addr
 me : Nat → Option Addr
 ex : Nat → Option Addr
 xp : Addr
 fz : List (Addr × Obj)
variable (S : Sig)
noncomputable def VR (ρ : List Addr) : V → Value → Prop
 | .none, x => x = .none
 | .bool b, x => x = .bool b
 | .int i, x => ∃ t, x = .int i t
 | .str s, x => ∃ t, x = .str s t ∧ okS s = true
 | .ref a, x => ∃ A, ρ[a]? = some A ∧ x = .ref A
theorem VR.mono {ρ ρ' : List Addr} {v : V} {x : Value} (h : VR ρ v x) (k : ρ <+: ρ') : VR ρ' v x := by
 cases v <;> try exact h
 obtain ⟨A, hA, rfl⟩ := h
 obtain ⟨r, rfl⟩ := k
 refine ⟨A, ?_, rfl⟩
 rw [List.getElem?_append_left (List.getElem?_eq_some_iff.mp hA).1]
 exact hA
noncomputable def keyIs : V → Value → Bool
 | .int i, v => Value.isInt i v
 | .str s, v => Value.isStrOf s v
 | .none, .none => true
 | _, _ => false
theorem keyIs_int {i : Int} {v : Value} (h : keyIs (.int i) v = true) : ∃ t, v = .int i t := Value.isInt_shape h
theorem keyIs_str {s : Str} {v : Value} (h : keyIs (.str s) v = true) : ∃ t, v = .str s t := Value.isStrOf_shape h
theorem keyIs_none {v : Value} (h : keyIs .none v = true) : v = .none := by cases v <;> first | rfl | cases h
inductive KS : V → Value → Prop
 | int (i : Int) (t : Tok) : KS (.int i) (.int i t)
 | str (s : Str) (t : Tok) : KS (.str s) (.str s t)
 | none : KS .none .none
theorem keyIs_shape {k : V} {v : Value} (h : keyIs k v = true) : KS k v := by
 cases k with
 | int i => obtain ⟨t, rfl⟩ := keyIs_int h; exact .int i t
 | str s => obtain ⟨t, rfl⟩ := keyIs_str h; exact .str s t
 | none => cases keyIs_none h; exact .none
 | _ => exact (Bool.false_ne_true h).elim
noncomputable def hashNone : Int := 4238894112
noncomputable def hashV (w : World) : V → Int
 | .int i => hashInt i
 | .str s => hashStr w s
 | _ => hashNone
section
variable {prog : Program} {w : World} {A : Around} {E : Value → Shared → Prop} {s : Shared}
theorem hash_none {Q : Int → Shared → Prop} (h : Q hashNone { s with toks := s.toks + 1 }) : wpAny (model prog w) A (pyHash .none) Q E s := by
 have hT : s.TypeIs .none "NoneType" := rfl
 unfold pyHash
 have hv : [Value.none].any Value.onHeap = false := rfl
 refine wpAny_bind ?_
 rw [cRoomFor, if_neg (by rw [hv]; exact Bool.false_ne_true)]; refine wpAny_pure ?_
 refine wpAny_bind (wpAny_specialOf hT F.slot_NoneType_hash.lookup ?_)
 show wpAny _ _ (if (some (Value.builtin "NoneType.__hash__") == some Value.none) = true then _ else _) Q E s
 rw [if_neg (by decide)]
 refine wpAny_bind (wpAny_specialOf hT F.slot_NoneType_hash.lookup ?_)
 show wpAny _ _ (callSpecialIfBoundUnlessNone? .none "__hash__" _ >>= _) Q E s
 refine wpAny_bind (wpAny_callSpecialIfBoundUnlessNone?_slot hT F.slot_NoneType_hash
  (wpAny_call_entry F.slot_NoneType_hash hT F.entry_NoneType_hash
   (show wpAny _ _ (do ret (← mkInt hashNone)) _ _ s from wpAny_ret_mkInt ?_) (F.args_NoneType_hash_1 _)))
 exact wpAny_pure h
theorem eqBool_of {a b : Value} {r : Bool} {Q : Bool → Shared → Prop} (hne : (a == b) = true → r = true) (hf : ∀ x t, a ≠ .float x t)
  (hc : ∀ Q' : Value → Shared → Prop, Q' (.bool r) s → wpAny (model prog w) A (compareOp .Eq a b) Q' E s) (h : Q r s) : wpAny (model prog w) A (eqBool a b) Q E s := by
 unfold eqBool
 refine wpAny_holding ?_
 by_cases hab : (a == b) = true
 ·rw [if_pos hab]
  exact wpAny_bind (wpAny_rule (wpAny_pure (by rw [hne hab] at h; exact h)))
 ·rw [if_neg hab]
  cases a <;> first | exact absurd rfl (hf _ _) | exact wpAny_bind (hc _ (wpAny_truthy_bool h))
end
theorem keyIs_inj (v : Value) (a b : V) (ha : keyIs a v = true) (hb : keyIs b v = true) : a = b := by
 cases keyIs_shape ha <;> cases keyIs_shape hb <;> rfl
section
variable {prog : Program} {w : World} {A : Around} {E : Value → Shared → Prop} {s : Shared}
theorem eq_no {a b : Value} {k l : V} {Q : Bool → Shared → Prop} (h : Q (decide (k = l)) s) (hne : (a == b) = true → False) (hf : ∀ x t, a ≠ .float x t) (hkl : k ≠ l)
  (hc : ∀ Q' : Value → Shared → Prop, Q' (.bool false) s → wpAny (model prog w) A (compareOp .Eq a b) Q' E s) : wpAny (model prog w) A (eqBool a b) Q E s :=
 eqBool_of (r := false) (fun e => (hne e).elim) hf hc (by rw [decide_eq_false hkl] at h; exact h)
end
noncomputable def vKind (prog : Program) (w : World) : KeyKind prog w V where
 is := keyIs
 hash := hashV w
 inj := keyIs_inj
 byValue := fun k v h => by cases keyIs_shape h <;> rfl
 pyHash := fun hv h => by
  cases keyIs_shape hv with
  | int => exact wpAny_pyHash_int h
  | str => exact wpAny_pyHash_str h
  | none => exact hash_none h
 eqBool := fun hu hv h => by
  cases keyIs_shape hu with
  | int i t =>
   cases keyIs_shape hv with
   | int j u =>
    refine wpAny_eqBool_int ?_
    have : (i == j) = decide (V.int i = V.int j) := by by_cases hij : i = j <;> simp [hij]
    rw [this]; exact h
   | str => exact eq_no h (fun e => nomatch eq_of_beq e) (fun _ _ e => nomatch e) (fun e => nomatch e) (fun _ h' => EqMixed.eq_int_str h')
   | none => exact eq_no h (fun e => nomatch eq_of_beq e) (fun _ _ e => nomatch e) (fun e => nomatch e) (fun _ h' => EqNone.eq_int_none h')
  | str x t =>
   cases keyIs_shape hv with
   | int => exact eq_no h (fun e => nomatch eq_of_beq e) (fun _ _ e => nomatch e) (fun e => nomatch e) (fun _ h' => EqMixed.eq_str_int h')
   | str y u =>
    refine wpAny_eqBool_str ?_
    have : decide (x = y) = decide (V.str x = V.str y) := by by_cases hij : x = y <;> simp [hij]
    rw [this]; exact h
   | none => exact eq_no h (fun e => nomatch eq_of_beq e) (fun _ _ e => nomatch e) (fun e => nomatch e) (fun _ h' => EqNone.eq_str_none h')
  | none =>
   cases keyIs_shape hv with
   | int => exact eq_no h (fun e => nomatch eq_of_beq e) (fun _ _ e => nomatch e) (fun e => nomatch e) (fun _ h' => EqNone.eq_none_int h')
   | str => exact eq_no h (fun e => nomatch eq_of_beq e) (fun _ _ e => nomatch e) (fun e => nomatch e) (fun _ h' => EqNone.eq_none_str h')
   | none => exact eqBool_of (r := true) (fun _ => rfl) (fun _ _ e => nomatch e) (fun _ h' => EqNone.eq_none_none h') (by rw [decide_eq_true rfl] at h; exact h)
 «strs» := fun k x t v h => by
  cases keyIs_shape h
  cases v <;> rfl
noncomputable abbrev tupOf (its : Array Value) (n : Nat) : Obj := { cls := .type "tuple", data := .seq its n }
noncomputable abbrev rangeOf (a b c : Int) (ta tb tc : Tok) : Obj := { cls := .type "range", data := .fields #[.int a ta, .int b tb, .int c tc] }
noncomputable def PR (ρ : List Addr) (p : V × V) (q : V × Value) : Prop := p.1 = q.1 ∧ VR ρ p.2 q.2
noncomputable def AR (ρ : List Addr) (p : Nat × V) (e : DictEntry) : Prop := p.1 ∈ S.P.attrs ∧ ∃ nm t, S.T[p.1]? = some nm ∧ e.key = .str nm t ∧ VR ρ p.2 e.val
inductive ListR (ρ : List Addr) (xs : List V) (o : Obj) : Prop
 | mk (vs : List Value) (n : Nat) (e : o = listOf (List.toArray vs) n) (h : All2 (VR ρ) xs vs) (z : xs.length ≤ lim) : ListR ρ xs o
inductive TupR (ρ : List Addr) (xs : List V) (o : Obj) : Prop
 | mk (vs : List Value) (n : Nat) (e : o = tupOf (List.toArray vs) n) (h : All2 (VR ρ) xs vs) (z : xs.length ≤ lim) : TupR ρ xs o
inductive DictR (S : Sig) (ρ : List Addr) (es : List (V × V)) (o : Obj) : Prop
 | mk (es' : List DictEntry) (n : Nat) (kvs : List (V × Value)) (e : o = dictOf es' n) (k1 : KeysOf (vKind S.prog S.w) es'.toArray) (k2 : Pairs (vKind S.prog S.w) es' kvs) (k3 : (kvs.map (·.1)).Nodup) (k4 : All2 (PR ρ) es kvs) (z : es.length ≤ lim) : DictR S ρ es o
inductive InstR (S : Sig) (ρ : List Addr) (c d : Nat) (o : Obj) : Prop
 | mk (C D : Addr) (h1 : S.cls c = some C) (h2 : ρ[d]? = some D) (e : o = ⟨.ref C, some D, .plain, #[]⟩) : InstR S ρ c d o
inductive AttrsR (S : Sig) (ρ : List Addr) (es : List (Nat × V)) (o : Obj) : Prop
 | mk (es' : List DictEntry) (n : Nat) (e : o = dictOf es' n) (h : All2 (AR S ρ) es es') (z : es.length ≤ 100) : AttrsR S ρ es o
noncomputable def OR (ρ : List Addr) : O → Obj → Prop
 | .list xs, o => ListR ρ xs o
 | .tup xs, o => TupR ρ xs o
 | .dict es, o => DictR S ρ es o
 | .inst c d, o => InstR S ρ c d o
 | .attrs es, o => AttrsR S ρ es o
 | .rng a b c, o => ∃ ta tb tc, o = rangeOf a b c ta tb tc
theorem PR.mono {ρ ρ' : List Addr} (k : ρ <+: ρ') {p : V × V} {q : V × Value} (h : PR ρ p q) : PR ρ' p q := ⟨h.1, h.2.mono k⟩
theorem AR.mono {ρ ρ' : List Addr} (k : ρ <+: ρ') {p : Nat × V} {q : DictEntry} (h : AR S ρ p q) : AR S ρ' p q := by
 obtain ⟨h1, nm, t, h2, h3, h4⟩ := h
 exact ⟨h1, nm, t, h2, h3, h4.mono k⟩
theorem pre_get {ρ ρ' : List Addr} (k : ρ <+: ρ') {a : Nat} {A : Addr} (h : ρ[a]? = some A) : ρ'[a]? = some A := by
 obtain ⟨r, rfl⟩ := k
 rw [List.getElem?_append_left (List.getElem?_eq_some_iff.mp h).1]
 exact h
theorem OR.mono {ρ ρ' : List Addr} (k : ρ <+: ρ') {o : O} {x : Obj} (h : OR S ρ o x) : OR S ρ' o x := by
 cases o with
 | list xs => obtain ⟨vs, n, rfl, h, z⟩ := h; exact ⟨vs, n, rfl, h.mono fun _ _ e => e.mono k, z⟩
 | tup xs => obtain ⟨vs, n, rfl, h, z⟩ := h; exact ⟨vs, n, rfl, h.mono fun _ _ e => e.mono k, z⟩
 | dict es => obtain ⟨es', n, kvs, rfl, h1, h2, h3, h4, z⟩ := h; exact ⟨es', n, kvs, rfl, h1, h2, h3, h4.mono fun _ _ e => e.mono k, z⟩
 | inst c d => obtain ⟨C, D, h1, h2, rfl⟩ := h; exact ⟨C, D, h1, pre_get k h2, rfl⟩
 | attrs es => obtain ⟨es', n, rfl, h, z⟩ := h; exact ⟨es', n, rfl, h.mono fun _ _ e => e.mono S k, z⟩
 | rng a b c => exact h
theorem OR.notFreed {ρ : List Addr} {o : O} {x : Obj} (h : OR S ρ o x) : x.isFreed = false := by
 cases o with
 | list xs => obtain ⟨vs, n, rfl, h, z⟩ := h; rfl
 | tup xs => obtain ⟨vs, n, rfl, h, z⟩ := h; rfl
 | dict es => obtain ⟨es', n, kvs, rfl, h1, h2, h3, h4, z⟩ := h; rfl
 | inst c d => obtain ⟨C, D, h1, h2, rfl⟩ := h; rfl
 | attrs es => obtain ⟨es', n, rfl, h, z⟩ := h; rfl
 | rng a b c => obtain ⟨ta, tb, tc, rfl⟩ := h; rfl
noncomputable abbrev adr (os : List (Addr × Obj)) : List Addr := os.map (·.1)
noncomputable abbrev Fs := List (Addr × (Str → Option Value))
structure Led (h₀ : Heap) (L : Addr) (m : Str → Option Value) (fs : Fs) (kp os : List (Addr × Obj)) (σ : H) (h : Heap) : Prop where
 fr : Fr h₀ L h m
 news : News h₀ L h (kp ++ os)
 nd : (adr (kp ++ os)).Nodup
 objs : All2 (fun o p => OR S (adr os) o p.2) σ os
 outs : ∀ f ∈ fs, h.Ns f.1 f.2 ∧ f.1 ≠ L ∧ h₀.get? f.1 = none ∧ f.1 ∉ adr (kp ++ os)
 top : ∃ o, h₀.get? mainGlobals = some o
 big : ∀ a ∈ adr (kp ++ os), (a == sysModules) = false
 frz : S.fz <+: os ∧ S.fz.length ≤ S.P.nf
section
variable {S} {h₀ h h' : Heap} {L : Addr} {m : Str → Option Value} {fs : Fs} {kp os : List (Addr × Obj)} {σ : H}
theorem Led.keep (l : Led S h₀ L m fs kp os σ h) (k : ∀ b o, h.get? b = some o → h'.get? b = some o) : Led S h₀ L m fs kp os σ h' :=
 ⟨l.fr.keptAll k, fun p hp => ⟨k _ _ (l.news p hp).1, (l.news p hp).2⟩, l.nd, l.objs, fun f hf => ⟨(l.outs f hf).1.keeps k, (l.outs f hf).2⟩, l.top, l.big, l.frz⟩
inductive AtI (S : Sig) (h₀ h : Heap) (L : Addr) (os : List (Addr × Obj)) (a : Nat) (o : O) : Prop
 | mk (A : Addr) (x : Obj) (e1 : os[a]? = some (A, x)) (e2 : (adr os)[a]? = some A) (e3 : OR S (adr os) o x) (e4 : h.get? A = some x) (e5 : A ≠ L) (e6 : h₀.get? A = none) (e7 : (A == sysModules) = false) : AtI S h₀ h L os a o
theorem Led.at (l : Led S h₀ L m fs kp os σ h) {a : Nat} {o : O} (e : σ.get a = some o) : AtI S h₀ h L os a o := by
 obtain ⟨p, hp, hr⟩ := l.objs.get e
 obtain ⟨A, x⟩ := p
 have := l.news _ (List.mem_append_right _ (List.mem_of_getElem? hp))
 exact ⟨A, x, hp, by simp [adr, hp], hr, this.1, this.2.1, this.2.2, l.big _ (List.mem_map.mpr ⟨_, List.mem_append_right _ (List.mem_of_getElem? hp), rfl⟩)⟩
inductive RefI (S : Sig) (h₀ h : Heap) (L : Addr) (os : List (Addr × Obj)) (a : Nat) (o : O) (v : Value) : Prop
 | mk (A : Addr) (x : Obj) (e : v = .ref A) (e1 : os[a]? = some (A, x)) (e2 : (adr os)[a]? = some A) (e3 : OR S (adr os) o x) (e4 : h.get? A = some x) (e5 : A ≠ L) (e6 : h₀.get? A = none) (e7 : (A == sysModules) = false) : RefI S h₀ h L os a o v
theorem Led.ref (l : Led S h₀ L m fs kp os σ h) {ρ : List Addr} (k : ρ <+: adr os) {a : Nat} {o : O} {v : Value} (e : σ.get a = some o) (hv : VR ρ (.ref a) v) : RefI S h₀ h L os a o v := by
 obtain ⟨A, x, h1, h2, h3, h4, h5, h6, h7⟩ := l.at e
 obtain ⟨B, hB, rfl⟩ := hv
 have hB := pre_get k hB
 rw [h2] at hB; cases hB
 exact ⟨A, x, rfl, h1, h2, h3, h4, h5, h6, h7⟩
theorem set_self_fst : ∀ {l : List Addr} {a : Nat} {A : Addr}, l[a]? = some A → l.set a A = l
 | [], _, _, e => by simp at e
 | x :: r, 0, _, e => by simp only [List.getElem?_cons_zero, Option.some.injEq] at e; rw [e]; rfl
 | x :: r, a + 1, _, e => by simp only [List.getElem?_cons_succ] at e; rw [List.set_cons_succ, set_self_fst e]
theorem adr_set {os : List (Addr × Obj)} {a : Nat} {A : Addr} {x x' : Obj} (e : os[a]? = some (A, x)) : adr (os.set a (A, x')) = adr os := by
 unfold adr
 rw [List.map_set]
 have : (os.map (·.1))[a]? = some A := by simp [e]
 exact set_self_fst this
theorem mem_set_iff {os : List (Addr × Obj)} {a : Nat} {A : Addr} {x x' : Obj} (nd : (adr os).Nodup) (e : os[a]? = some (A, x)) {p : Addr × Obj} (hp : p ∈ os.set a (A, x')) : p = (A, x') ∨ (p ∈ os ∧ p.1 ≠ A) := by
 obtain ⟨i, hi⟩ := List.getElem?_of_mem hp
 rw [List.getElem?_set] at hi
 split at hi
 ·split at hi
  ·cases hi; exact .inl rfl
  ·cases hi
 ·rename_i hne
  refine .inr ⟨List.mem_of_getElem? hi, fun q => hne ?_⟩
  have h1 : (adr os)[a]? = some A := by simp [adr, e]
  have h2 : (adr os)[i]? = some A := by simp [adr, hi, q]
  have ha := (List.getElem?_eq_some_iff.mp h1).1
  exact (List.getElem?_inj ha nd).mp (h1.trans h2.symm)
theorem prefix_set {α : Type} : ∀ {l l' : List α} {a : Nat} {x : α}, l <+: l' → l.length ≤ a → l <+: l'.set a x
 | [], _, _, _, _, _ => List.nil_prefix
 | _ :: _, [], _, _, h, _ => h
 | y :: l, z :: l', 0, _, _, h => by simp at h
 | y :: l, z :: l', a + 1, x, h, h' => by
  rw [List.set_cons_succ]
  rw [List.cons_prefix_cons] at h ⊢
  exact ⟨h.1, prefix_set h.2 (by simpa using h')⟩
theorem notMods {a : Addr} (h : mainGlobals < a) : (a == sysModules) = false := by
 have h1 : mainGlobals = 3 := rfl
 have h2 : sysModules = 1 := rfl
 rw [h1] at h; rw [h2]
 exact beq_eq_false_iff_ne.mpr (fun e => by rw [e] at h; exact absurd h (by decide))
theorem Led.upd (l : Led S h₀ L m fs kp os σ h) {a : Nat} {A : Addr} {x x' : Obj} {o' : O} (hnf : S.P.nf ≤ a) (e : os[a]? = some (A, x)) (hs : Heap.SameBut A h h') (hx : h'.get? A = some x') (hr : OR S (adr os) o' x') :
  Led S h₀ L m fs kp (os.set a (A, x')) (σ.put a o') h' := by
 have hA := l.news (A, x) (List.mem_append_right _ (List.mem_of_getElem? e))
 have ad : adr (os.set a (A, x')) = adr os := adr_set e
 have adk : adr (kp ++ os.set a (A, x')) = adr (kp ++ os) := by
  unfold adr at ad ⊢; rw [List.map_append, List.map_append, ad]
 have ndo : (adr os).Nodup := by have := l.nd; rw [adr, List.map_append] at this; exact (List.nodup_append.mp this).2.1
 have apart : ∀ p ∈ kp, p.1 ≠ A := fun p hp q => by
  have := l.nd
  rw [adr, List.map_append] at this
  exact (List.nodup_append.mp this).2.2 p.1 (List.mem_map_of_mem hp) A (List.mem_map.mpr ⟨_, List.mem_of_getElem? e, rfl⟩) q
 refine ⟨l.fr.change hs hA.2.1 hA.2.2, fun p hp => ?_, by rw [adk]; exact l.nd, by rw [ad]; exact l.objs.set hr a, fun f hf => ?_, l.top, by rw [adk]; exact l.big, prefix_set l.frz.1 (Nat.le_trans l.frz.2 hnf), l.frz.2⟩
 ·rcases List.mem_append.mp hp with hp | hp
  ·have := l.news p (List.mem_append_left _ hp)
   exact ⟨(hs.2 _ (apart p hp)).trans this.1, this.2⟩
  ·rcases mem_set_iff ndo e hp with rfl | ⟨hp, hne⟩
   ·exact ⟨hx, hA.2⟩
   ·have := l.news p (List.mem_append_right _ hp)
    exact ⟨(hs.2 _ hne).trans this.1, this.2⟩
 ·have := l.outs f hf
  have hne : f.1 ≠ A := fun q => this.2.2.2 (q ▸ List.mem_map.mpr ⟨_, List.mem_append_right _ (List.mem_of_getElem? e), rfl⟩)
  exact ⟨this.1.sameBut hs hne, this.2.1, this.2.2.1, by rw [adk]; exact this.2.2.2⟩
theorem adr_new {os : List (Addr × Obj)} {p : Addr × Obj} : adr os <+: adr (os ++ [p]) := by rw [adr, adr, List.map_append]; exact List.prefix_append _ _
theorem Led.free (l : Led S h₀ L m fs kp os σ h) {q : Addr} (hf : h.get? q = none) : q ≠ L ∧ h₀.get? q = none ∧ q ∉ adr (kp ++ os) ∧ ∀ f ∈ fs, f.1 ≠ q := by
 refine ⟨fun e => ?_, ?_, fun hm => ?_, fun f hm e => ?_⟩
 ·obtain ⟨oL, _, _, hL, _⟩ := l.fr.ns
  rw [e, hL] at hf; cases hf
 ·cases e : h₀.get? q with
  | none => rfl
  | some y => rw [l.fr.keep _ _ e] at hf; cases hf
 ·obtain ⟨p, hp, rfl⟩ := List.mem_map.mp hm
  rw [(l.news p hp).1] at hf; cases hf
 ·obtain ⟨oL, _, _, hL, _⟩ := (l.outs f hm).1
  rw [e, hf] at hL; cases hL
theorem Led.new (l : Led S h₀ L m fs kp os σ h) {q : Addr} {x : Obj} {o : O} (k : ∀ b o, h.get? b = some o → h'.get? b = some o) (hf : h.get? q = none) (hq : mainGlobals < q) (hx : h'.get? q = some x) (hr : OR S (adr os) o x) :
  Led S h₀ L m fs kp (os ++ [(q, x)]) (σ.push o) h' := by
 have pf : adr os <+: adr (os ++ [(q, x)]) := adr_new
 obtain ⟨q1, q2, q3, q4⟩ := l.free hf
 have adk : adr (kp ++ (os ++ [(q, x)])) = adr (kp ++ os) ++ [q] := by simp [adr]
 refine ⟨l.fr.keptAll k, fun p hp => ?_, ?_, (l.objs.mono fun _ _ e => e.mono S pf).append (.one (hr.mono S pf)), fun f hf => ?_, l.top, ?_, l.frz.1.trans (List.prefix_append _ _), l.frz.2⟩
 ·rw [← List.append_assoc] at hp
  rcases List.mem_append.mp hp with hp | hp
  ·exact ⟨k _ _ (l.news p hp).1, (l.news p hp).2⟩
  ·rw [List.mem_singleton.mp hp]
   exact ⟨hx, q1, q2⟩
 ·rw [adk]
  refine List.nodup_append.mpr ⟨l.nd, by simp, fun b hb c hc e => ?_⟩
  rw [List.mem_singleton.mp hc] at e
  exact q3 (e ▸ hb)
 ·have := l.outs f hf
  refine ⟨this.1.keeps k, this.2.1, this.2.2.1, ?_⟩
  rw [adk]
  intro hm
  rcases List.mem_append.mp hm with hm | hm
  ·exact this.2.2.2 hm
  ·exact q4 f hf (List.mem_singleton.mp hm)
 ·rw [adk]
  intro b hb
  rcases List.mem_append.mp hb with hb | hb
  ·exact l.big b hb
  ·rw [List.mem_singleton.mp hb]; exact notMods hq
theorem Led.room (l : Led S h₀ L m fs kp os σ h) : mainGlobals < h.objs.size := let ⟨o, ho⟩ := l.top; Heap.lt_size (l.fr.keep _ _ ho)
theorem Led.len (l : Led S h₀ L m fs kp os σ h) : σ.length = (adr os).length := by simp [adr, l.objs.length]
theorem Led.ref_new (l : Led S h₀ L m fs kp os σ h) {p : Addr × Obj} : VR (adr (os ++ [p])) (.ref σ.length) (.ref p.1) :=
 ⟨p.1, by rw [l.len]; simp [adr], rfl⟩
end
set_option genInjectivity false in
structure Cx where
 A : Around
 env : Env
 h₀ : Heap
 L : Addr
 m : Str → Option Value
 fs : Fs
 kp : List (Addr × Obj)
noncomputable abbrev Cx.led (c : Cx) (os : List (Addr × Obj)) (σ : H) (h : Heap) : Prop := Led S c.h₀ c.L c.m c.fs c.kp os σ h
noncomputable def FlyB (B : Heap) (l : List Env) (a : Addr) (cls : Value) (h : Heap) : Prop :=
 B.StaysIn h ∧ B.get? a = none ∧ h.FunFrames B l ∧ ((∃ a0, h.TracedW B a cls a0) ∨ (∃ oe vs a0, h.get? a = some oe ∧ oe.cls = cls ∧ oe.data = .fields vs ∧ vs[1]? = some .none ∧ vs[0]? = some a0)
  ∨ ∃ a0 fl, h.TracedAtW B a cls a0 fl
 )
noncomputable def Fly (c : Cx) (os : List (Addr × Obj)) (e : Value) (k : Nat) (h : Heap) : Prop :=
 ∃ a C B l, e = .ref a ∧ S.ex k = some C ∧ c.A.frames = some l ∧ FlyB B l a (.ref C) h ∧ c.h₀.StaysIn B ∧ ∀ p ∈ c.kp ++ os, B.get? p.1 = some p.2
noncomputable def SM {α β : Type} (c : Cx) (ρ₀ : List Addr) (RV : List Addr → β → α → Prop) (t : Sem α) (x : X β) : Prop :=
 ∀ (os : List (Addr × Obj)) (σ : H) (s : Shared) (r : R β) (σ' : H), ρ₀ <+: adr os → c.led S os σ s.heap → x σ = some (r, σ') →
  ∀ (Q : α → Shared → Prop) (E : Value → Shared → Prop),
   (match r with
    | .ok b => ∀ os' h' tk a, adr os <+: adr os' → c.led S os' σ' h' → RV (adr os') b a → Q a { s with heap := h', toks := tk }
    | .err k => ∀ os' h' tk e, adr os <+: adr os' → c.led S os' σ' h' → Fly S c os' e k h' → E e { s with heap := h', toks := tk }) →
   wpAny (model S.prog S.w) c.A t Q E s
section
variable {S} {α β γ δ : Type} {c : Cx} {ρ : List Addr} {RV : List Addr → β → α → Prop} {RW : List Addr → δ → γ → Prop}
theorem SM.mono {t : Sem α} {x : X β} {ρ' : List Addr} (h : SM S c ρ RV t x) (k : ρ <+: ρ') : SM S c ρ' RV t x :=
 fun os σ s r σ' hp => h os σ s r σ' (k.trans hp)
theorem SM.pure {a : α} {b : β} (h : ∀ ρ', ρ <+: ρ' → RV ρ' b a) : SM S c ρ RV (Pure.pure a) (X.pure b) := by
 intro os σ s r σ' hp hl hx Q E hQ
 cases hx
 exact wpAny_pure (hQ os s.heap s.toks a (List.prefix_rfl) hl (h _ hp))
theorem SM.bind {t : Sem α} {x : X β} {f : α → Sem γ} {g : β → X δ} (h1 : SM S c ρ RV t x) (h2 : ∀ ρ' b a, ρ <+: ρ' → RV ρ' b a → SM S c ρ' RW (f a) (g b)) : SM S c ρ RW (t >>= f) (X.bind x g) := by
 intro os σ s r σ' hp hl hx Q E hQ
 unfold X.bind at hx
 split at hx
 ·rename_i b σ₁ hb
  refine wpAny_bind (h1 os σ s _ _ hp hl hb _ _ fun os' h' tk a k l' hr => ?_)
  refine h2 _ b a (hp.trans k) hr os' σ₁ { s with heap := h', toks := tk } r σ' (List.prefix_rfl) l' hx Q E ?_
  cases r with
  | ok d => exact fun os'' h'' tk' a' k' l'' hr' => hQ os'' h'' tk' a' (k.trans k') l'' hr'
  | err e => exact fun os'' h'' tk' a' k' l'' hr' => hQ os'' h'' tk' a' (k.trans k') l'' hr'
 ·rename_i k σ₁ hb
  cases hx
  exact wpAny_bind (h1 os σ s _ _ hp hl hb _ _ hQ)
 ·cases hx
theorem SM.hold {t : Sem α} {x : X β} {vs : List Value} (h : SM S c ρ RV t x) : SM S c ρ RV (holding vs t) x :=
 fun os σ s r σ' hp hl hx Q E hQ => wpAny_holding (h os σ s r σ' hp hl hx Q E hQ)
theorem SM.stand {t : Sem α} {x : X β} {p : Pos} (h : SM S c ρ RV t x) : SM S c ρ RV (do standAt p; t) x :=
 fun os σ s r σ' hp hl hx Q E hQ => wpAny_bind (wpAny_standAt (h os σ s r σ' hp hl hx Q E hQ))
theorem SM.eq {t t' : Sem α} {x : X β} (h : SM S c ρ RV t x) (e : t' = t) : SM S c ρ RV t' x := e ▸ h
theorem SM.eqx {t : Sem α} {x x' : X β} (h : SM S c ρ RV t x) (e : x' = x) : SM S c ρ RV t x' := e ▸ h
theorem SM.none {t : Sem α} : SM S c ρ RV t (X.none : X β) := fun _ _ _ _ _ _ _ hx => by cases hx
end
end Mine.Internal
set_option autoImplicit false
namespace Mine.Internal
open PySem PySem.StrLaws
noncomputable def posC (c : Nat) : Nat → List Nat → List Nat
 | _, [] => []
 | k, x :: r => if x = c then k :: posC c (k + 1) r else posC c (k + 1) r
theorem len_toList (x : Str) : x.length = x.cps.toList.length := by rw [Array.length_toList]; rfl
theorem take_one {α : Type} [BEq α] [LawfulBEq α] {l : List α} {i : Nat} {c : α} : ((l.drop i).take 1 == [c]) = true ↔ l[i]? = some c := by
 rw [beq_iff_eq]
 cases h : l.drop i with
 | nil =>
  have : l[i]? = none := by rw [List.getElem?_eq_none_iff]; exact List.drop_eq_nil_iff.mp h
  rw [this]; simp
 | cons y r =>
  have : l[i]? = some y := by
   have e : (l.drop i)[0]? = some y := by rw [h]; rfl
   rwa [List.getElem?_drop, Nat.add_zero] at e
  rw [this]; simp
theorem subAt_one {s y : Str} {c i : Nat} (hy : y.cps.toList = [c]) : Builtin.Str.subAt s y i = true ↔ s.cps.toList[i]? = some c := by
 rw [subAt_eq, len_toList y, hy]
 exact take_one
theorem occ_loop {s y : Str} {c limit : Nat} (hy : y.cps.toList = [c]) : ∀ (rest : List Nat) (k : Nat) (st : Array Nat × Nat), st.2 ≤ k → s.cps.toList.drop k = rest → k ≤ s.length →
  (forIn (List.range' k (rest.length + 1)) st (occBody s y s.length limit)).run.fst.toList = st.1.toList ++ (posC c k rest).take (limit - st.1.size)
 | [], k, st, hf, hd, hk => by
  have hl : s.cps.toList.length ≤ k := List.drop_eq_nil_iff.mp hd
  rw [← len_toList] at hl
  show (forIn [k] st (occBody s y s.length limit)).run.fst.toList = st.1.toList ++ [].take _
  rw [List.forIn_cons, List.take_nil, List.append_nil]
  unfold occBody
  have hy1 : y.length = 1 := by rw [len_toList, hy]; rfl
  rw [if_neg (by rw [hy1]; omega)]
  rfl
 | x :: r, k, st, hf, hd, hk => by
  have hx : s.cps.toList[k]? = some x := by
   have e : (s.cps.toList.drop k)[0]? = some x := by rw [hd]; rfl
   rwa [List.getElem?_drop, Nat.add_zero] at e
  have hd' : s.cps.toList.drop (k + 1) = r := by rw [← List.drop_drop, hd]; rfl
  have hk' : k + 1 ≤ s.length := by rw [len_toList]; exact (List.getElem?_eq_some_iff.mp hx).1
  have hy1 : y.length = 1 := by rw [len_toList, hy]; rfl
  have sub : Builtin.Str.subAt s y k = true ↔ x = c := by rw [subAt_one hy, hx]; exact ⟨fun h => Option.some.inj h, fun h => by rw [h]⟩
  show (forIn (k :: List.range' (k + 1) (r.length + 1)) st (occBody s y s.length limit)).run.fst.toList = st.1.toList ++ (if x = c then k :: posC c (k + 1) r else posC c (k + 1) r).take _
  rw [List.forIn_cons]
  unfold occBody
  by_cases hc : x = c
  ·rw [if_pos hc]
   by_cases hl : st.1.size < limit
   ·rw [if_pos ⟨⟨⟨hl, hf⟩, by rw [hy1]; exact hk'⟩, sub.mpr hc⟩]
    have ih := occ_loop (limit := limit) hy r (k + 1) (st.1.push k, k + y.length) (by rw [hy1]; exact Nat.le_refl _) hd' hk'
    refine ih.trans ?_
    rw [Array.toList_push, Array.size_push, List.append_assoc]
    congr 1
    have e : limit - st.1.size = (limit - (st.1.size + 1)) + 1 := by omega
    rw [e, List.take_succ_cons]; rfl
   ·rw [if_neg fun h => hl h.1.1.1]
    have ih := occ_loop (limit := limit) hy r (k + 1) (st.1, st.2) (Nat.le_succ_of_le hf) hd' hk'
    refine ih.trans ?_
    have e : limit - st.1.size = 0 := by omega
    rw [e]; rfl
  ·rw [if_neg hc, if_neg fun h => hc (sub.mp h.2)]
   exact occ_loop (limit := limit) hy r (k + 1) (st.1, st.2) (Nat.le_succ_of_le hf) hd' hk'
theorem occ_one {s y : Str} {c limit : Nat} (hy : y.cps.toList = [c]) : Builtin.Str.occurrences s y 0 s.length limit = (posC c 0 s.cps.toList).take limit := by
 rw [occ_eq]
 have := occ_loop (limit := limit) hy s.cps.toList 0 (#[], 0) (Nat.le_refl _) rfl (Nat.zero_le _)
 rw [← len_toList] at this
 exact this.trans (by simp)
theorem pos_any {c : Nat} : ∀ (l : List Nat) (k : Nat), (posC c k l).isEmpty = !(l.any fun d => decide (d = c))
 | [], _ => rfl
 | x :: r, k => by
  show (if x = c then k :: posC c (k + 1) r else posC c (k + 1) r).isEmpty = _
  rw [List.any_cons]
  by_cases h : x = c
  ·rw [if_pos h, decide_eq_true h]; rfl
  ·rw [if_neg h, decide_eq_false h, Bool.false_or]; exact pos_any r (k + 1)
theorem pos_len {c : Nat} : ∀ (l : List Nat) (k : Nat), (posC c k l).length ≤ l.length
 | [], _ => Nat.le_refl _
 | x :: r, k => by
  have ih := pos_len (c := c) r (k + 1)
  show (if x = c then k :: posC c (k + 1) r else posC c (k + 1) r).length ≤ _
  by_cases h : x = c
  ·rw [if_pos h]; exact Nat.succ_le_succ ih
  ·rw [if_neg h]; exact Nat.le_succ_of_le ih
theorem in_one {s y : Str} {c : Nat} (hy : y.cps.toList = [c]) : (!(Builtin.Str.occurrences s y 0 s.length 1).isEmpty) = s.cps.toList.any fun d => decide (d = c) := by
 rw [occ_one hy]
 have h := pos_any (c := c) s.cps.toList 0
 cases e : posC c 0 s.cps.toList with
 | nil => rw [e] at h; rw [List.take_nil, ← Bool.not_not (s.cps.toList.any _), ← h]
 | cons a r => rw [e] at h; rw [List.take_succ_cons, ← Bool.not_not (s.cps.toList.any _), ← h]; rfl
/- the parts between -/
theorem splitC_ne {c : Nat} : ∀ l : List Nat, ∃ w ws, splitC c l = w :: ws
 | [] => ⟨[], [], rfl⟩
 | x :: r => by
  obtain ⟨w, ws, e⟩ := splitC_ne (c := c) r
  unfold splitC
  by_cases h : x = c
  ·rw [if_pos h]; exact ⟨_, _, rfl⟩
  ·rw [if_neg h, e]; exact ⟨_, _, rfl⟩
noncomputable def preW (p : List Nat) : List (List Nat) → List (List Nat)
 | [] => []
 | w :: ws => (p ++ w) :: ws
theorem ext_str {a b : Str} (h : a.cps.toList = b.cps.toList) : a = b := Str.ext' (Array.toList_inj.mp h)
theorem sub_grow {s : Str} {a k x : Nat} {r : List Nat} (h : a ≤ k) (hd : s.cps.toList.drop k = x :: r) : (Builtin.Str.strSub s a k).cps.toList ++ [x] = (Builtin.Str.strSub s a (k + 1)).cps.toList := by
 rw [strSub_toList, strSub_toList]
 have hx : (s.cps.toList.drop a)[k - a]? = some x := by
  rw [List.getElem?_drop, show a + (k - a) = k by omega]
  have e : (s.cps.toList.drop k)[0]? = some x := by rw [hd]; rfl
  rwa [List.getElem?_drop, Nat.add_zero] at e
 rw [show k + 1 - a = (k - a) + 1 by omega, List.take_add_one, hx]; rfl
theorem parts_split {s : Str} {c : Nat} : ∀ (rest : List Nat) (k a : Nat), a ≤ k → s.cps.toList.drop k = rest → partsFrom s 1 a (posC c k rest) = (preW (Builtin.Str.strSub s a k).cps.toList (splitC c rest)).map strL
 | [], k, a, h, hd => by
  have hl : s.cps.toList.length ≤ k := List.drop_eq_nil_iff.mp hd
  show [Builtin.Str.strSub s a s.length] = [strL ((Builtin.Str.strSub s a k).cps.toList ++ [])]
  rw [List.append_nil]
  congr 1
  refine ext_str ?_
  show (Builtin.Str.strSub s a s.length).cps.toList = (Builtin.Str.strSub s a k).cps.toList
  rw [strSub_toList, strSub_toList, len_toList, List.take_of_length_le (by rw [List.length_drop]; omega), List.take_of_length_le (by rw [List.length_drop]; omega)]
 | x :: r, k, a, h, hd => by
  have hd' : s.cps.toList.drop (k + 1) = r := by rw [← List.drop_drop, hd]; rfl
  by_cases hc : x = c
  ·have e1 : posC c k (x :: r) = k :: posC c (k + 1) r := if_pos hc
   have e2 : splitC c (x :: r) = [] :: splitC c r := if_pos hc
   rw [e1, e2]
   show Builtin.Str.strSub s a k :: partsFrom s 1 (k + 1) (posC c (k + 1) r) = strL ((Builtin.Str.strSub s a k).cps.toList ++ []) :: (splitC c r).map strL
   rw [parts_split r (k + 1) (k + 1) (Nat.le_refl _) hd', List.append_nil]
   have e3 : (Builtin.Str.strSub s (k + 1) (k + 1)).cps.toList = [] := by rw [strSub_toList, Nat.sub_self]; rfl
   obtain ⟨w, ws, e⟩ := splitC_ne (c := c) r
   rw [e3, e]
   congr 1
  ·have e1 : posC c k (x :: r) = posC c (k + 1) r := if_neg hc
   obtain ⟨w, ws, e⟩ := splitC_ne (c := c) r
   have e2 : splitC c (x :: r) = (x :: w) :: ws := by
    show (if x = c then [] :: splitC c r else match splitC c r with | [] => [[x]] | w :: ws => (x :: w) :: ws) = _
    rw [if_neg hc, e]
   rw [e1, e2, parts_split r (k + 1) a (Nat.le_succ_of_le h) hd', e]
   show strL ((Builtin.Str.strSub s a (k + 1)).cps.toList ++ w) :: ws.map strL = strL ((Builtin.Str.strSub s a k).cps.toList ++ x :: w) :: ws.map strL
   rw [← sub_grow h hd, List.append_assoc]; rfl
theorem split_parts {s y : Str} {c : Nat} (hy : y.cps.toList = [c]) : Builtin.Str.partsBetween s (Builtin.Str.occurrences s y 0 s.length (s.length + 1)) y.length = (splitC c s.cps.toList).map strL := by
 have hy1 : y.length = 1 := by rw [len_toList, hy]; rfl
 rw [partsBetween_eq, hy1, occ_one hy, List.take_of_length_le (by have := pos_len (c := c) s.cps.toList 0; rw [← len_toList] at this; omega), parts_split s.cps.toList 0 0 (Nat.le_refl _) rfl]
 have e3 : (Builtin.Str.strSub s 0 0).cps.toList = [] := by rw [strSub_toList]; rfl
 obtain ⟨w, ws, e⟩ := splitC_ne (c := c) s.cps.toList
 rw [e3, e]; rfl
theorem split_none {c : Nat} : ∀ {l : List Nat} {k : Nat}, (posC c k l).isEmpty = true → splitC c l = [l]
 | [], _, _ => rfl
 | x :: r, k, h => by
  have h : (if x = c then k :: posC c (k + 1) r else posC c (k + 1) r).isEmpty = true := h
  by_cases hc : x = c
  ·rw [if_pos hc] at h; cases h
  ·rw [if_neg hc] at h
   show (if x = c then [] :: splitC c r else match splitC c r with | [] => [[x]] | w :: ws => (x :: w) :: ws) = _
   rw [if_neg hc, split_none h]
theorem split_sub' {c : Nat} : ∀ {l w : List Nat}, w ∈ splitC c l → w.length ≤ l.length ∧ ∀ d ∈ w, d ∈ l
 | [], w, h => by
  have h : w ∈ [([] : List Nat)] := h
  rw [List.mem_singleton.mp h]; exact ⟨Nat.le_refl _, fun d hd => hd⟩
 | x :: r, w, h => by
  obtain ⟨v, vs, e⟩ := splitC_ne (c := c) r
  have h : w ∈ (if x = c then [] :: splitC c r else match splitC c r with | [] => [[x]] | w :: ws => (x :: w) :: ws) := h
  by_cases hx : x = c
  ·rw [if_pos hx] at h
   rcases List.mem_cons.mp h with h | h
   ·rw [h]; exact ⟨Nat.zero_le _, fun d hd => nomatch hd⟩
   ·exact ⟨Nat.le_succ_of_le (split_sub' h).1, fun d hd => .tail _ ((split_sub' h).2 d hd)⟩
  ·rw [if_neg hx, e] at h
   rcases List.mem_cons.mp h with h | h
   ·have q := split_sub' (c := c) (l := r) (w := v) (by rw [e]; exact .head _)
    rw [h]
    refine ⟨Nat.succ_le_succ q.1, fun d hd => ?_⟩
    rcases List.mem_cons.mp hd with hd | hd
    ·rw [hd]; exact .head _
    ·exact .tail _ (q.2 d hd)
   ·have q := split_sub' (c := c) (l := r) (w := w) (by rw [e]; exact .tail _ h)
    exact ⟨Nat.le_succ_of_le q.1, fun d hd => .tail _ (q.2 d hd)⟩
theorem okS_sub {s : Str} (h : okS s = true) {l : List Nat} (h1 : l.length ≤ s.cps.toList.length) (h2 : ∀ d ∈ l, d ∈ s.cps.toList) : okS (strL l) = true := by
 obtain ⟨a, b⟩ := Bool.and_eq_true_iff.mp h
 have a := of_decide_eq_true a
 rw [len_toList] at a
 refine Bool.and_eq_true_iff.mpr ⟨decide_eq_true ?_, ?_⟩
 ·rw [len_toList]; exact Nat.le_trans h1 a
 ·unfold PyData.strOk at b ⊢
  rw [← Array.all_toList] at b ⊢
  exact List.all_eq_true.mpr fun d hd => List.all_eq_true.mp b d (h2 d hd)
theorem parts_repl {s z : Str} {c : Nat} : ∀ (rest : List Nat) (n k a : Nat), a ≤ k → s.cps.toList.drop k = rest → Str.join z (partsFrom s 1 a ((posC c k rest).take n)) = strL ((Builtin.Str.strSub s a k).cps.toList ++ replC c z.cps.toList n rest)
 | [], n, k, a, h, hd => by
  have hl : s.cps.toList.length ≤ k := List.drop_eq_nil_iff.mp hd
  have e0 : replC c z.cps.toList n [] = [] := by cases n <;> rfl
  rw [e0, List.append_nil]
  show Str.join z (partsFrom s 1 a (List.take n [])) = _
  rw [List.take_nil]
  show Builtin.Str.strSub s a s.length = _
  refine ext_str ?_
  show (Builtin.Str.strSub s a s.length).cps.toList = (Builtin.Str.strSub s a k).cps.toList
  rw [strSub_toList, strSub_toList, len_toList, List.take_of_length_le (by rw [List.length_drop]; omega), List.take_of_length_le (by rw [List.length_drop]; omega)]
 | x :: r, 0, k, a, h, hd => by
  show Str.join z (partsFrom s 1 a (List.take 0 _)) = strL ((Builtin.Str.strSub s a k).cps.toList ++ x :: r)
  rw [List.take_zero]
  show Builtin.Str.strSub s a s.length = _
  refine ext_str ?_
  show (Builtin.Str.strSub s a s.length).cps.toList = (Builtin.Str.strSub s a k).cps.toList ++ x :: r
  rw [strSub_toList, strSub_toList, len_toList, List.take_of_length_le (by rw [List.length_drop]; omega), ← hd]
  have : s.cps.toList.drop k = (s.cps.toList.drop a).drop (k - a) := by rw [List.drop_drop]; congr 1; omega
  rw [this, List.take_append_drop]
 | x :: r, n + 1, k, a, h, hd => by
  have hd' : s.cps.toList.drop (k + 1) = r := by rw [← List.drop_drop, hd]; rfl
  by_cases hc : x = c
  ·have e1 : posC c k (x :: r) = k :: posC c (k + 1) r := if_pos hc
   have e2 : replC c z.cps.toList (n + 1) (x :: r) = z.cps.toList ++ replC c z.cps.toList n r := if_pos hc
   have ih := parts_repl (z := z) (c := c) r n (k + 1) (k + 1) (Nat.le_refl _) hd'
   have e3 : (Builtin.Str.strSub s (k + 1) (k + 1)).cps.toList = [] := by rw [strSub_toList, Nat.sub_self]; rfl
   rw [e3, List.nil_append] at ih
   rw [e1, e2, List.take_succ_cons]
   show Str.join z (Builtin.Str.strSub s a k :: partsFrom s 1 (k + 1) ((posC c (k + 1) r).take n)) = _
   obtain ⟨p, q, e⟩ := partsFrom_ne s 1 (k + 1) ((posC c (k + 1) r).take n)
   rw [e] at ih ⊢
   show Builtin.Str.strSub s a k ++ z ++ Str.join z (p :: q) = _
   rw [ih]
   refine ext_str ?_
   show (Builtin.Str.strSub s a k ++ z ++ strL _).cps.toList = (Builtin.Str.strSub s a k).cps.toList ++ (z.cps.toList ++ replC c z.cps.toList n r)
   rw [Str.cps_append, Str.cps_append, Array.toList_append, Array.toList_append, List.append_assoc]; rfl
  ·have e1 : posC c k (x :: r) = posC c (k + 1) r := if_neg hc
   have e2 : replC c z.cps.toList (n + 1) (x :: r) = x :: replC c z.cps.toList (n + 1) r := if_neg hc
   rw [e1, e2, parts_repl r (n + 1) (k + 1) a (Nat.le_succ_of_le h) hd', ← sub_grow h hd, List.append_assoc]; rfl
theorem repl_glued {s y z : Str} {c n : Nat} (hy : y.cps.toList = [c]) : Builtin.Str.glued z (Builtin.Str.partsBetween s (Builtin.Str.occurrences s y 0 s.length n) y.length) = strL (replC c z.cps.toList n s.cps.toList) := by
 have hy1 : y.length = 1 := by rw [len_toList, hy]; rfl
 rw [glued_eq_join, partsBetween_eq, hy1, occ_one hy, parts_repl s.cps.toList n 0 0 (Nat.le_refl _) rfl]
 have e3 : (Builtin.Str.strSub s 0 0).cps.toList = [] := by rw [strSub_toList]; rfl
 rw [e3, List.nil_append]
theorem repl_none {c n : Nat} {z : List Nat} : ∀ {l : List Nat} {k : Nat}, 0 < n → ((posC c k l).take n).isEmpty = true → replC c z n l = l
 | [], _, _, _ => by cases n <;> rfl
 | x :: r, k, hn, h => by
  obtain ⟨m, rfl⟩ : ∃ m, n = m + 1 := ⟨n - 1, by omega⟩
  by_cases hc : x = c
  ·have e1 : posC c k (x :: r) = k :: posC c (k + 1) r := if_pos hc
   rw [e1] at h; cases h
  ·have e1 : posC c k (x :: r) = posC c (k + 1) r := if_neg hc
   have e2 : replC c z (m + 1) (x :: r) = x :: replC c z (m + 1) r := if_neg hc
   rw [e1] at h
   rw [e2, repl_none hn h]
end Mine.Internal
set_option autoImplicit false
namespace Mine.Internal
open PySem PySem.W PySem.Calls PyProof.Rows
variable {S : Sig} {c : Cx} {ρ : List Addr}
theorem get_size (h : Heap) : h.get? h.objs.size = none := by
 cases e : h.get? h.objs.size with
 | none => rfl
 | some o => exact absurd (Heap.lt_size e) (Nat.lt_irrefl _)
theorem Led.pushed {h₀ h : Heap} {L : Addr} {m : Str → Option Value} {fs : Fs} {kp os : List (Addr × Obj)} {σ : H} (l : Led S h₀ L m fs kp os σ h) {x : Obj} {o : O} (hr : OR S (adr os) o x) :
  Led S h₀ L m fs kp (os ++ [(h.objs.size, x)]) (σ.push o) (h.push x) :=
 l.new (fun _ _ e => Heap.get?_push_of_some _ e) (get_size h) l.room (Heap.get?_push_size _ (hr.notFreed S)) hr
theorem getM_inv {P : Prog} {σ : H} {a : Nat} {o : O} (h : σ.getM P a = some o) : σ.get a = some o ∧ P.nf ≤ a := by
 unfold H.getM at h
 split at h
 ·rename_i q; exact ⟨h, q⟩
 ·cases h
theorem dict_of {h : Heap} {A : Addr} {es' : List DictEntry} {n : Nat} {kvs : List (V × Value)} (h1 : h.get? A = some (dictOf es' n)) (k1 : KeysOf (vKind S.prog S.w) es'.toArray) (k2 : Pairs (vKind S.prog S.w) es' kvs)
  (k3 : (kvs.map (·.1)).Nodup) : h.DictOf (vKind S.prog S.w) A kvs := ⟨_, _, n, h1, ⟨rfl, rfl, rfl⟩, rfl, k1, by simpa using k2, k3⟩
theorem of_dict {h : Heap} {A : Addr} {kvs : List (V × Value)} (x : h.DictOf (vKind S.prog S.w) A kvs) :
  ∃ es' n, h.get? A = some (dictOf es' n) ∧ KeysOf (vKind S.prog S.w) es'.toArray ∧ Pairs (vKind S.prog S.w) es' kvs ∧ (kvs.map (·.1)).Nodup := by
 obtain ⟨⟨oc, od, odt, osl⟩, es, n, h1, ⟨c1, c2, c3⟩, hd, k1, k2, k3⟩ := x
 dsimp only at c1 c2 c3 hd
 subst c1 c2 c3 hd
 exact ⟨es.toList, n, by simpa using h1, by simpa using k1, k2, k3⟩
theorem small_bits {i : Int} (h : small i = true) : i.natAbs < 2 ^ 64 := by simpa [small] using h
theorem okS_len {s : Str} (h : okS s = true) : s.length ≤ lim := of_decide_eq_true (Bool.and_eq_true_iff.mp h).1
theorem okS_ok {s : Str} (h : okS s = true) : PyData.strOk s = true := (Bool.and_eq_true_iff.mp h).2
theorem lim_le : lim ≤ sizeLine := by rw [sizeLine_eq]; decide
theorem VR.ne_none {ρ : List Addr} {v : V} {x : Value} (h : VR ρ v x) : (x == Value.none) = decide (v = V.none) := by
 cases v with
 | none => cases h; rfl
 | bool b => cases h; rfl
 | int i => obtain ⟨t, rfl⟩ := h; rfl
 | str s => obtain ⟨t, rfl, _⟩ := h; rfl
 | ref a => obtain ⟨A, _, rfl⟩ := h; rfl
theorem VRs.mono {ρ ρ' : List Addr} (k : ρ <+: ρ') {xs : List V} {vs : List Value} (h : All2 (VR ρ) xs vs) : All2 (VR ρ') xs vs := h.mono fun _ _ e => e.mono k
theorem log2_small {i : Int} (h : small i = true) : i.natAbs.log2 < 9000 := by
 have h := small_bits h
 by_cases hz' : i.natAbs = 0
 ·rw [hz']; decide
 ·have := (Nat.log2_lt hz').mpr h
  lia
theorem len_append {x y : Str} : (x ++ y).length = x.length + y.length := Str.length_append ..
theorem twoInts_eq {a b : V} {f : Int → Int → Option (R V × H)} {r : R V × H} (h : twoInts a b f = some r) : ∃ x y, a = .int x ∧ b = .int y ∧ f x y = some r := by
 obtain ⟨x, hx, h1⟩ := onInt_eq h
 obtain ⟨y, hy, h2⟩ := onInt_eq h1
 exact ⟨x, y, hx, hy, h2⟩
theorem sm_binop {op : Operator} {x y : V} {a b : Value} (hx : VR ρ x a) (hy : VR ρ y b) : SM S c ρ VR (binaryOp op a b) (binop op x y) := by
 intro os σ s r σ' hp hl he Q E hQ
 cases op with
 | Add =>
  cases x with
  | int x =>
   have hq := onInt_eq (show onInt y _ = some (r, σ') from he)
   clear he
   obtain ⟨y, rfl, he⟩ := hq
   obtain ⟨t, rfl⟩ := hx; obtain ⟨u, rfl⟩ := hy
   cases he
   exact PySem.P.add_int (hQ os _ _ _ List.prefix_rfl hl ⟨_, rfl⟩)
  | str x =>
   cases y with
   | str y =>
    obtain ⟨t, rfl, hx⟩ := hx; obtain ⟨u, rfl, hy⟩ := hy
    have he : (if okS (x ++ y) then some (R.ok (V.str (x ++ y)), σ) else none) = some (r, σ') := he
    split at he
    ·rename_i hk
     cases he
     have hk' := okS_len hk
     refine add_str (fun t' tk => hQ os s.heap tk _ List.prefix_rfl hl ⟨_, rfl, hk⟩) ?_
     rw [len_append] at hk'; exact Nat.le_trans hk' lim_le
    ·cases he
   | _ => cases he
  | ref x =>
   have hq := onRef_eq (show onRef y _ = some (r, σ') from he)
   clear he
   obtain ⟨y, rfl, he⟩ := hq
   have hq := onL_eq he
   clear he
   obtain ⟨xs, ha, he⟩ := hq
   have hq := onL_eq he
   clear he
   obtain ⟨ys, hb, he⟩ := hq
   obtain ⟨A, o1, rfl, e1, e2, ⟨vs, n, rfl, hvs, _⟩, h1, _⟩ := hl.ref hp ha hx
   obtain ⟨B, o2, rfl, f1, f2, ⟨ws, n', rfl, hws, _⟩, h2, _⟩ := hl.ref hp hb hy
   unfold alloc at he
   split at he
   ·rename_i hk
    cases he
    have hk : (xs ++ ys).length ≤ lim := of_decide_eq_true hk
    refine PySem.P.add_list h1 h2 (hQ (os ++ [(_, _)]) _ s.toks _ adr_new (hl.pushed (o := .list (xs ++ ys)) ?_) (hl.ref_new (p := (_, _)))) ?_
    ·exact ⟨vs ++ ws, 0, by simp, hvs.append hws, hk⟩
    ·rw [List.size_toArray, List.size_toArray, ← hvs.length, ← hws.length, ← List.length_append]; exact Nat.le_trans hk lim_le
   ·cases he
  | _ => cases he
 | Sub =>
  have hq := twoInts_eq (show twoInts x y _ = some (r, σ') from he)
  clear he
  obtain ⟨x, y, rfl, rfl, he⟩ := hq
  obtain ⟨t, rfl⟩ := hx; obtain ⟨u, rfl⟩ := hy
  cases he
  exact PySem.P.sub_int (hQ os _ _ _ List.prefix_rfl hl ⟨_, rfl⟩)
 | FloorDiv =>
  have hq := twoInts_eq (show twoInts x y _ = some (r, σ') from he)
  clear he
  obtain ⟨x, y, rfl, rfl, he⟩ := hq
  obtain ⟨t, rfl⟩ := hx; obtain ⟨u, rfl⟩ := hy
  split at he
  ·cases he
  ·rename_i hy0
   split at he
   ·rename_i hsm
    cases he
    exact floordiv_int hy0 (hQ os _ _ _ List.prefix_rfl hl ⟨_, rfl⟩) (.inl (PyProof.noPylong_of_log2 (log2_small hsm)))
   ·cases he
 | Mod =>
  have hq := twoInts_eq (show twoInts x y _ = some (r, σ') from he)
  clear he
  obtain ⟨x, y, rfl, rfl, he⟩ := hq
  obtain ⟨t, rfl⟩ := hx; obtain ⟨u, rfl⟩ := hy
  split at he
  ·cases he
  ·rename_i hy0
   cases he
   exact mod_int' hy0 (hQ os _ _ _ List.prefix_rfl hl ⟨_, rfl⟩)
 | Pow =>
  have hq := twoInts_eq (show twoInts x y _ = some (r, σ') from he)
  clear he
  obtain ⟨x, y, rfl, rfl, he⟩ := hq
  obtain ⟨t, rfl⟩ := hx; obtain ⟨u, rfl⟩ := hy
  unfold intPow at he
  split at he
  ·rename_i z hz
   cases he
   split at hz
   ·rename_i hc
    cases hz
    exact pow_int_small hc.1 (by lia) (small_bits hc.2.2) (hQ os _ _ _ List.prefix_rfl hl ⟨_, rfl⟩)
   ·cases hz
  ·cases he
 | _ => cases he
noncomputable abbrev EqR {β : Type} : List Addr → β → β → Prop := fun _ a b => a = b
theorem sm_truth {x : V} {a : Value} (hx : VR ρ x a) : SM S c ρ EqR (truthy a) (truth x) := by
 intro os σ s r σ' hp hl he Q E hQ
 cases x with
 | bool b => cases hx; cases he; exact wpAny_truthy_bool (hQ os _ _ _ List.prefix_rfl hl rfl)
 | _ => cases he
theorem reads_data {h₀ h : Heap} {L : Addr} {m : Str → Option Value} {fs : Fs} {kp os : List (Addr × Obj)} {σ : H} (l : Led S h₀ L m fs kp os σ h) :
  ∀ (n : Nat) (x : V) (d : PyData) (a : Value), dataOf σ n x = some d → VR (adr os) x a → (∃ as, Reads h a d as) ∧ d.canLay0 = true ∧ d.depth ≤ n := by
 intro n
 induction n with
 | zero => intro x d a e; cases e
 | succ n ih =>
  intro x d a e hv
  have all : ∀ (xs : List V) (ds : List PyData) (vs : List Value), optAll (dataOf σ n) xs = some ds → All2 (VR (adr os)) xs vs → (∃ as, ReadsAll h vs ds as) ∧ PyData.canLayAll0 ds = true ∧ PyData.depthAll ds ≤ n := by
   intro xs
   induction xs with
   | nil => intro ds vs e h2; cases e; cases h2; exact ⟨⟨_, .nil⟩, rfl, Nat.zero_le _⟩
   | cons y ys ihy =>
    intro ds vs e h2
    unfold optAll at e
    split at e
    ·rename_i d' ds' e1 e2
     cases e
     cases h2 with
     | cons h1 h2 =>
      obtain ⟨⟨as, r1⟩, c1, p1⟩ := ih _ _ _ e1 h1
      obtain ⟨⟨bs, r2⟩, c2, p2⟩ := ihy _ _ e2 h2
      exact ⟨⟨_, .cons r1 r2⟩, by simp only [PyData.canLayAll0, c1, c2, Bool.and_self], by simp only [PyData.depthAll]; lia⟩
    ·cases e
  unfold dataOf at e
  cases x with
  | none => cases hv; cases e; exact ⟨⟨_, .none⟩, rfl, by simp [PyData.depth]⟩
  | bool b => cases hv; cases e; exact ⟨⟨_, .bool b⟩, rfl, by simp [PyData.depth]⟩
  | int i => obtain ⟨t, rfl⟩ := hv; cases e; exact ⟨⟨_, .int i t⟩, rfl, by simp [PyData.depth]⟩
  | str st => obtain ⟨t, rfl, hk⟩ := hv; cases e; exact ⟨⟨_, .str st t⟩, okS_ok hk, by simp [PyData.depth]⟩
  | ref b =>
   dsimp only at e
   split at e
   ·rename_i xs ha
    obtain ⟨ds, e1, rfl⟩ := Option.map_eq_some_iff.mp e
    obtain ⟨A, o1, rfl, _, _, ⟨vs, k, rfl, hvs, _⟩, h1, _⟩ := l.ref List.prefix_rfl ha hv
    obtain ⟨⟨as, r⟩, c1, p1⟩ := all _ _ _ e1 hvs
    exact ⟨⟨_, .list h1 rfl rfl (by simpa using r)⟩, c1, by simp only [PyData.depth]; lia⟩
   ·rename_i xs ha
    obtain ⟨ds, e1, rfl⟩ := Option.map_eq_some_iff.mp e
    obtain ⟨A, o1, rfl, _, _, ⟨vs, k, rfl, hvs, _⟩, h1, _⟩ := l.ref List.prefix_rfl ha hv
    obtain ⟨⟨as, r⟩, c1, p1⟩ := all _ _ _ e1 hvs
    exact ⟨⟨_, .tuple h1 rfl rfl (by simpa using r)⟩, c1, by simp only [PyData.depth]; lia⟩
   ·cases e
noncomputable def Room (c : Cx) : Prop := c.A.units + 100 < cLine
inductive BindI {α β : Type} (m : X α) (f : α → X β) (σ σ' : H) (r : R β) : Prop
 | ok (a : α) (σ₁ : H) (e1 : m σ = some (.ok a, σ₁)) (e2 : f a σ₁ = some (r, σ')) : BindI m f σ σ' r
 | err (k : Nat) (e1 : m σ = some (.err k, σ')) (e2 : r = .err k) : BindI m f σ σ' r
theorem X.bind_inv {α β : Type} {m : X α} {f : α → X β} {σ σ' : H} {r : R β} (h : X.bind m f σ = some (r, σ')) : BindI m f σ σ' r := by
 unfold X.bind at h
 split at h
 ·rename_i a σ₁ e; exact .ok a σ₁ e h
 ·rename_i k σ₁ e; cases h; exact .err k e rfl
 ·cases h
theorem key_is {ρ : List Addr} {x : V} {a : Value} (h : VR ρ x a) (hk : (isKey x || decide (x = .none)) = true) : keyIs x a = true := by
 cases x with
 | none => cases h; rfl
 | int i => obtain ⟨t, rfl⟩ := h; simp [keyIs, Value.isInt]
 | str st => obtain ⟨t, rfl, _⟩ := h; simp [keyIs, Value.isStrOf]
 | _ => simp [isKey] at hk
theorem valueAt_dget {ρ : List Addr} {es : List (V × V)} {kvs : List (V × Value)} (ha : All2 (PR ρ) es kvs) (k : V) : (valueAt kvs k = none ∧ dget es k = none) ∨ ∃ v x, dget es k = some v ∧ valueAt kvs k = some x ∧ VR ρ v x := by
 induction ha with
 | nil => exact .inl ⟨rfl, rfl⟩
 | @cons kv kx es kvs h hr ih =>
  obtain ⟨k1, v1⟩ := kv
  obtain ⟨k2, x2⟩ := kx
  obtain ⟨h1, h2⟩ := h
  dsimp only at h1 h2
  subst h1
  by_cases hk : k1 = k
  ·exact .inr ⟨v1, x2, by simp [dget, hk], by simp [valueAt, hk], h2⟩
  ·rcases ih with ⟨e1, e2⟩ | ⟨v, x, e1, e2, e3⟩
   ·exact .inl ⟨by simpa [valueAt, List.find?_cons, hk] using e1, by simpa [dget, hk] using e2⟩
   ·exact .inr ⟨v, x, by simpa [dget, hk] using e1, by simpa [valueAt, List.find?_cons, hk] using e2, e3⟩
inductive ConI (σ : H) (x : V) : V → Bool → Prop
 | list (k : Nat) (ys : List V) (d : PyData) (ds : List PyData) (hk : σ.get k = some (.list ys)) (e1 : dataOf σ 5 x = some d) (e2 : optAll (dataOf σ 4) ys = some ds) : ConI σ x (.ref k) (ds.any fun y => PyData.eqv y d)
 | tup (k : Nat) (ys : List V) (d : PyData) (ds : List PyData) (hk : σ.get k = some (.tup ys)) (e1 : dataOf σ 5 x = some d) (e2 : optAll (dataOf σ 4) ys = some ds) : ConI σ x (.ref k) (ds.any fun y => PyData.eqv y d)
 | dict (k : Nat) (es : List (V × V)) (hk : σ.get k = some (.dict es)) (key : (isKey x || decide (x = .none)) = true) : ConI σ x (.ref k) (dget es x).isSome
 | str (s y : Str) (c : Nat) (e1 : x = .str s) (e2 : s.cps.toList = [c]) : ConI σ x (.str y) (y.cps.toList.any fun d => decide (d = c))
inductive ConR (σ : H) (x y : V) (r : R Bool) (σ' : H) : Prop
 | mk (q : Bool) (e1 : r = .ok q) (e2 : σ' = σ) (h : ConI σ x y q) : ConR σ x y r σ'
inductive InI (σ : H) (x : V) (ys : List V) (q : Bool) : Prop
 | mk (d : PyData) (ds : List PyData) (e1 : dataOf σ 5 x = some d) (e2 : optAll (dataOf σ 4) ys = some ds) (e : q = ds.any fun y => PyData.eqv y d) : InI σ x ys q
theorem in_inv {σ σ' : H} {x y : V} {ys : List V} {r : R Bool} (h : ((inList σ x ys).map fun b => ((.ok b : R Bool), σ)) = some (r, σ')) (g : ∀ q, InI σ x ys q → ConR σ x y (.ok q) σ) : ConR σ x y r σ' := by
 unfold inList at h
 cases e1 : dataOf σ 5 x with
 | none => rw [e1] at h; cases h
 | some d =>
  cases e2 : optAll (dataOf σ 4) ys with
  | none => rw [e1, e2] at h; cases h
  | some ds => rw [e1, e2] at h; cases h; exact g _ ⟨d, ds, e1, e2, rfl⟩
theorem contains_inv {P : Prog} {ρ : List Addr} {x y : V} {b : Value} {σ σ' : H} {r : R Bool} (hy : VR ρ y b) (h : contains P x y σ = some (r, σ')) : ConR σ x y r σ' := by
 unfold contains at h
 cases y with
 | ref k =>
  dsimp only at h
  cases hk : σ.get k with
  | none => rw [hk] at h; cases h
  | some o =>
   rw [hk] at h
   cases o with
   | list ys => exact in_inv h fun q i => by cases i with | mk d ds e1 e2 e => cases e; exact ⟨_, rfl, rfl, .list k ys d ds hk e1 e2⟩
   | tup ys => exact in_inv h fun q i => by cases i with | mk d ds e1 e2 e => cases e; exact ⟨_, rfl, rfl, .tup k ys d ds hk e1 e2⟩
   | dict es =>
    dsimp only at h
    by_cases key : (isKey x || decide (x = .none)) = true
    ·rw [if_pos key] at h; cases h; exact ⟨_, rfl, rfl, .dict k es hk key⟩
    ·rw [if_neg key] at h; cases h
   | _ => cases h
 | str y =>
  obtain ⟨s, e1, h⟩ := onStr_eq h
  obtain ⟨b', h1, h⟩ := Option.map_eq_some_iff.mp h
  obtain ⟨c, e2, h1⟩ := onOne_eq h1
  cases h; cases h1
  exact ⟨_, rfl, rfl, .str s y c e1 e2⟩
 | _ => cases h
theorem sm_contains (hr : Room c) {x y : V} {a b : Value} (hx : VR ρ x a) (hy : VR ρ y b) {neg : Bool} :
  SM S c ρ VR (compareOp (if neg then .NotIn else .In) a b) (X.bind (contains S.P x y) fun r => X.pure (.bool (neg ^^ r))) := by
 intro os σ s r σ' hp hl he Q E hQ
 have hx' := hx.mono hp
 have hy' := hy.mono hp
 cases X.bind_inv he with
 | err k e1 e2 => cases contains_inv hy e1 with | mk q f1 f2 i => cases f1
 | ok b' σ₁ e1 e2 =>
  cases contains_inv hy e1 with
  | mk q f1 f2 i =>
   cases f1; cases f2; cases e2
   have fin : ∀ tk, Q (.bool (neg ^^ b')) { s with toks := tk } := fun tk => hQ os _ tk _ List.prefix_rfl hl rfl
   clear hQ he e1
   cases i with
   | list k ys d ds hk e1 e2 =>
    obtain ⟨A, o1, rfl, _, _, ⟨vs, n, rfl, hvs, _⟩, h1, _⟩ := hl.ref hp hk hy
    obtain ⟨⟨as, r1⟩, c1, p1⟩ := reads_data hl _ _ _ _ e1 hx'
    have ed : dataOf σ 5 (.ref k) = some (.list ds) := by unfold dataOf; simp only [hk, e2]; rfl
    obtain ⟨⟨bs, r2⟩, c2, p2⟩ := reads_data hl _ _ _ _ ed hy'
    have hu : c.A.units + 1 + min (PyData.depthAll ds) d.depth < cLine := by unfold Room at hr; have := Nat.min_le_right (PyData.depthAll ds) d.depth; lia
    cases neg with
    | true => exact SeqAt.notIn_list_reads r2 r1 c2 c1 hu (by simpa using fin s.toks)
    | false => exact SeqAt.in_list_reads r2 r1 c2 c1 hu (by simpa using fin s.toks)
   | tup k ys d ds hk e1 e2 =>
    obtain ⟨A, o1, rfl, _, _, ⟨vs, n, rfl, hvs, _⟩, h1, _⟩ := hl.ref hp hk hy
    obtain ⟨⟨as, r1⟩, c1, p1⟩ := reads_data hl _ _ _ _ e1 hx'
    have ed : dataOf σ 5 (.ref k) = some (.tuple ds) := by unfold dataOf; simp only [hk, e2]; rfl
    obtain ⟨⟨bs, r2⟩, c2, p2⟩ := reads_data hl _ _ _ _ ed hy'
    have hu : c.A.units + 1 + min (PyData.depthAll ds) d.depth < cLine := by unfold Room at hr; have := Nat.min_le_right (PyData.depthAll ds) d.depth; lia
    cases neg with
    | true => exact SeqAt.notIn_tuple_reads r2 r1 c2 c1 hu (by simpa using fin s.toks)
    | false => exact SeqAt.in_tuple_reads r2 r1 c2 c1 hu (by simpa using fin s.toks)
   | dict k es hk hkey =>
    obtain ⟨A, o1, rfl, _, _, ⟨es', n, kvs, rfl, k1, k2, k3, k4, hz⟩, h1, hL, hn, hb⟩ := hl.ref hp hk hy
    have hd : s.heap.DictOf (vKind S.prog S.w) A kvs := dict_of h1 k1 k2 k3
    have hq : (valueAt kvs x).isSome = (dget es x).isSome := by rcases valueAt_dget k4 x with ⟨e1, e2⟩ | ⟨v, x, e1, e2, e3⟩ <;> rw [e1, e2] <;> rfl
    cases neg with
    | true => exact wpAny_notIn_of (knd := vKind S.prog S.w) (key_is hx hkey) hb hd.mapOf (by rw [hq]; simpa using fin (s.toks + 1))
    | false => exact wpAny_in_of (knd := vKind S.prog S.w) (key_is hx hkey) hb hd.mapOf (by rw [hq]; simpa using fin (s.toks + 1))
   | str st y cc e1 e2 =>
    rw [e1] at hx
    obtain ⟨t, rfl, _⟩ := hx
    obtain ⟨u, rfl, _⟩ := hy
    cases neg with
    | true => exact PySem.P.notIn_str (by rw [in_one e2]; simpa using fin s.toks)
    | false => exact PySem.P.in_str (by rw [in_one e2]; simpa using fin s.toks)
theorem deq_inv {h₀ h : Heap} {L : Addr} {m : Str → Option Value} {fs : Fs} {kp os : List (Addr × Obj)} {σ : H} (hl : Led S h₀ L m fs kp os σ h) {x y : V} {a b : Value} (hx' : VR (adr os) x a) (hy' : VR (adr os) y b) {q : Bool} (he : deq σ x y = some q) :
  ∃ d d2 as bs, Reads h a d as ∧ Reads h b d2 bs ∧ SeqAt.shaped d = true ∧ SeqAt.shaped d2 = true ∧ q = PyData.eqv d d2 := by
 unfold deq at he
 cases e1 : dataOf σ 5 x with
 | none => rw [e1] at he; cases he
 | some d =>
  cases e2 : dataOf σ 5 y with
  | none => rw [e1, e2] at he; cases he
  | some d2 =>
   rw [e1, e2] at he
   cases he
   obtain ⟨⟨as, r1⟩, c1, p1⟩ := reads_data hl _ _ _ _ e1 hx'
   obtain ⟨⟨bs, r2⟩, c2, p2⟩ := reads_data hl _ _ _ _ e2 hy'
   have s1 : SeqAt.shaped d = true := by simp only [SeqAt.shaped, c1, Bool.true_and, decide_eq_true_eq]; lia
   have s2 : SeqAt.shaped d2 = true := by simp only [SeqAt.shaped, c2, Bool.true_and, decide_eq_true_eq]; lia
   exact ⟨d, d2, as, bs, r1, r2, s1, s2, rfl⟩
theorem sm_cmpop (hr : Room c) {op : CmpOp} {x y : V} {a b : Value} (hx : VR ρ x a) (hy : VR ρ y b) : SM S c ρ VR (compareOp op a b) (cmpop S.P op x y) := by
 have hu : c.A.units + 64 < cLine := by unfold Room at hr; lia
 cases op with
 | In =>
  refine (sm_contains (neg := false) hr hx hy).eqx ?_
  funext σ; show X.bind _ _ σ = X.bind _ _ σ; congr 1
  funext b; simp
 | NotIn =>
  refine (sm_contains (neg := true) hr hx hy).eqx ?_
  funext σ; show X.bind _ _ σ = X.bind _ _ σ; congr 1
  funext b; simp
 | Eq =>
  intro os σ s r σ' hp hl he Q E hQ
  obtain ⟨q, e, he⟩ := Option.map_eq_some_iff.mp (show (deq σ x y).map _ = _ from he)
  cases he
  obtain ⟨d, d2, as, bs, r1, r2, s1, s2, rfl⟩ := deq_inv hl (hx.mono hp) (hy.mono hp) e
  exact eq_dataH r1 r2 s1 s2 hu (hQ os _ _ _ List.prefix_rfl hl rfl)
 | NotEq =>
  intro os σ s r σ' hp hl he Q E hQ
  obtain ⟨q, e, he⟩ := Option.map_eq_some_iff.mp (show (deq σ x y).map _ = _ from he)
  cases he
  obtain ⟨d, d2, as, bs, r1, r2, s1, s2, rfl⟩ := deq_inv hl (hx.mono hp) (hy.mono hp) e
  exact ne_dataH r1 r2 s1 s2 hu (hQ os _ _ _ List.prefix_rfl hl rfl)
 | Lt =>
  intro os σ s r σ' hp hl he Q E hQ
  have hq := twoInts_eq (show twoInts x y _ = some (r, σ') from he)
  clear he
  obtain ⟨x, y, rfl, rfl, he⟩ := hq
  obtain ⟨t, rfl⟩ := hx; obtain ⟨u, rfl⟩ := hy
  cases he
  exact PySem.P.lt_int (hQ os _ _ _ List.prefix_rfl hl rfl)
 | LtE =>
  intro os σ s r σ' hp hl he Q E hQ
  have hq := twoInts_eq (show twoInts x y _ = some (r, σ') from he)
  clear he
  obtain ⟨x, y, rfl, rfl, he⟩ := hq
  obtain ⟨t, rfl⟩ := hx; obtain ⟨u, rfl⟩ := hy
  cases he
  exact PySem.P.le_int (hQ os _ _ _ List.prefix_rfl hl rfl)
 | Gt =>
  intro os σ s r σ' hp hl he Q E hQ
  have hq := twoInts_eq (show twoInts x y _ = some (r, σ') from he)
  clear he
  obtain ⟨x, y, rfl, rfl, he⟩ := hq
  obtain ⟨t, rfl⟩ := hx; obtain ⟨u, rfl⟩ := hy
  cases he
  exact PySem.P.gt_int (hQ os _ _ _ List.prefix_rfl hl rfl)
 | GtE =>
  intro os σ s r σ' hp hl he Q E hQ
  have hq := twoInts_eq (show twoInts x y _ = some (r, σ') from he)
  clear he
  obtain ⟨x, y, rfl, rfl, he⟩ := hq
  obtain ⟨t, rfl⟩ := hx; obtain ⟨u, rfl⟩ := hy
  cases he
  exact PySem.P.ge_int (hQ os _ _ _ List.prefix_rfl hl rfl)
 | Is =>
  intro os σ s r σ' hp hl he Q E hQ
  obtain ⟨rfl, he⟩ := onN_eq (show onN y _ = some (r, σ') from he)
  cases hy
  cases he
  refine is_none_gen (hQ os _ _ _ List.prefix_rfl hl ?_)
  rw [hx.ne_none]; rfl
 | IsNot =>
  intro os σ s r σ' hp hl he Q E hQ
  obtain ⟨rfl, he⟩ := onN_eq (show onN y _ = some (r, σ') from he)
  cases hy
  cases he
  refine isnot_none_gen (hQ os _ _ _ List.prefix_rfl hl ?_)
  rw [hx.ne_none]
  show Value.bool _ = Value.bool _
  simp
end Mine.Internal
set_option autoImplicit false
namespace Mine.Internal
open PySem PySem.W PySem.Calls PyProof.Rows
variable {S : Sig} {c : Cx} {ρ : List Addr}
theorem idx_some {i : Int} {n j : Nat} (h : idx i n = some j) : (0 ≤ i ∧ i < n ∧ j = i.toNat) ∨ (i < 0 ∧ 0 ≤ i + n ∧ j = (i + n).toNat) := by
 unfold idx at h
 split at h
 ·rename_i hc; cases h; exact .inl ⟨hc.1, hc.2, rfl⟩
 ·split at h
  ·rename_i hc; cases h; exact .inr ⟨hc.1, hc.2, rfl⟩
  ·cases h
theorem idx_seq {i : Int} {n j : Nat} (h : idx i n = some j) : seqIndex? i n = some j ∧ j < n ∧ -(n : Int) ≤ i ∧ i < n := by
 rcases idx_some h with ⟨h0, h1, rfl⟩ | ⟨h0, h1, rfl⟩
 ·exact ⟨seqIndex_of h0 h1, by lia, by lia, h1⟩
 ·exact ⟨PySem.seqIndex_neg h0 (by lia), by lia, by lia, by lia⟩
theorem put_at {prog : Program} {w : World} {A : Around} {E : Value → Shared → Prop} {s : Shared} {a : Addr} {vs : Array Value} {n : Nat} {i : Int} {t : Tok} {v : Value} {Q : Unit → Shared → Prop} (ho : s.heap.get? a = some (listOf vs n)) (h0 : 0 ≤ i) (hb : i < 2 ^ 63) (hi : i < vs.size)
  (hQ : Q () { s with heap := s.heap.update a (Obj.mapSeq (·.setIfInBounds i.toNat v)) }) : wpAny (model prog w) A (PySem.setItem (.ref a) (.int i t) v) Q E s := by
 have ty : s.TypeIs (.ref a) "list" := (PySem.IsL.isList (n := n) ho).typeIs
 have fits := fitsIndex_of h0 hb
 clear hb
 unfold PySem.setItem
 try with_reducible refine wpAny_holding ?_
 first | refine wpAny_bind (wpAny_pure ?_) | skip
 refine wpAny_bind (wpAny_sequenceKey ty (by decide) ?_)
 refine wpAny_bind (wpAny_callSpecial?_slot (name := Str.ofString "__setitem__") ty slot_list_setitem (wpAny_call_entry slot_list_setitem ty entry_list_setitem ?_ (args_list_setitem _ _ _)))
 show wpAny _ _ (Builtin.List.listSubscript? (.int i t) >>= _) _ _ s
 refine wpAny_bind (wpAny_listSubscript_int fits ?_)
 clear fits
 obtain ⟨j, rfl⟩ := Int.eq_ofNat_of_zero_le h0
 have there : vs[j]? = some vs[j] := Array.getElem?_eq_getElem (by lia)
 show wpAny _ _ ((seqItemAt a j >>= fun r => pure (r.map (j, ·))) >>= _) _ _ s
 refine wpAny_bind (wpAny_bind (wpAny_seqItemAt ho rfl (wpAny_pure ?_)))
 rw [there]
 show wpAny _ _ (setSeqItemAt a j v >>= _) _ _ s
 refine wpAny_bind (wpAny_setSeqItemAt ho rfl ?_)
 first
  | exact wpAny_pure ⟨.none, rfl, wpAny_pure hQ⟩
  | exact wpAny_bind (wpAny_pure (wpAny_pure ⟨.none, rfl, wpAny_pure hQ⟩))
theorem put_neg {prog : Program} {w : World} {A : Around} {E : Value → Shared → Prop} {s : Shared} {a : Addr} {vs : Array Value} {n : Nat} {k : Int} {t : Tok} {v : Value} {Q : Unit → Shared → Prop} (ho : s.heap.get? a = some (listOf vs n)) (h0 : k < 0) (h1 : -(vs.size : Int) ≤ k) (hfit : -(2 ^ 63) ≤ k)
  (hQ : Q () { s with heap := s.heap.update a (Obj.mapSeq (·.setIfInBounds (k + vs.size).toNat v)) }) : wpAny (model prog w) A (PySem.setItem (.ref a) (.int k t) v) Q E s := by
 have ty : s.TypeIs (.ref a) "list" := (PySem.IsL.isList (n := n) ho).typeIs
 have hidx := PySem.seqIndex_neg h0 h1
 obtain ⟨y, there⟩ : ∃ y, vs[(k + vs.size).toNat]? = some y := ⟨_, Array.getElem?_eq_getElem (by lia)⟩
 unfold PySem.setItem
 try with_reducible refine wpAny_holding ?_
 first | refine wpAny_bind (wpAny_pure ?_) | skip
 refine wpAny_bind (wpAny_sequenceKey ty (by decide) ?_)
 refine wpAny_bind (wpAny_callSpecial?_slot (name := Str.ofString "__setitem__") ty slot_list_setitem (wpAny_call_entry slot_list_setitem ty entry_list_setitem ?_ (args_list_setitem _ _ _)))
 show wpAny _ _ (Builtin.List.listSubscript? (.int k t) >>= _) _ _ s
 refine wpAny_bind (wpAny_listSubscript_int (fitsIndex_neg h0 hfit) ?_)
 clear hfit
 generalize (k + vs.size).toNat = i at *
 obtain ⟨j, rfl⟩ : ∃ j : Nat, k = Int.negSucc j := by
  cases k with
  | ofNat n => exact absurd h0 (Int.not_lt.mpr (Int.natCast_nonneg n))
  | negSucc n => exact ⟨n, rfl⟩
 show wpAny _ _ ((Builtin.List.listItems (.ref a) >>= fun xs => pure ((seqIndex? (Int.negSucc j) xs.size).bind fun i => xs[i]?.map (i, ·))) >>= _) _ _ s
 refine wpAny_bind (wpAny_bind ?_)
 show wpAny _ _ (seqItems? (.ref a) >>= _) _ _ s
 refine wpAny_bind (wpAny_seqItems ho rfl (wpAny_pure (wpAny_pure ?_)))
 rw [hidx]
 simp only [Option.bind_some, there, Option.map_some]
 refine wpAny_bind (wpAny_setSeqItemAt ho rfl ?_)
 first
  | exact wpAny_pure ⟨.none, rfl, wpAny_pure hQ⟩
  | exact wpAny_bind (wpAny_pure (wpAny_pure ⟨.none, rfl, wpAny_pure hQ⟩))
theorem lim63 : (lim : Int) < 2 ^ 63 := by decide
theorem sm_getItem {value slice : Expr} {x y : V} {a b : Value} (hx : VR ρ x a) (hy : VR ρ y b)
  (hs : ∀ o i, subscripted slice false o i = operate [o, i] (PySem.getItem o i)) : SM S c ρ VR (subscriptTail value slice a b) (getItem S.P x y) := by
 intro os σ s r σ' hp hl he Q E hQ
 unfold getItem at he
 cases x with
 | ref k =>
  dsimp only at he
  cases hk : σ.get k with
  | none => rw [hk] at he; cases he
  | some o =>
   rw [hk] at he
   cases o with
   | list xs =>
    obtain ⟨A, o1, rfl, _, _, ⟨vs, n, rfl, hvs, hz⟩, h1, _⟩ := hl.ref hp hk hx
    cases y with
    | int i =>
     dsimp only at he
     obtain ⟨v, e, he⟩ := Option.map_eq_some_iff.mp he
     cases he
     obtain ⟨j, e1, e2⟩ := Option.bind_eq_some_iff.mp e
     obtain ⟨w, hw, hr⟩ := hvs.get e2
     obtain ⟨t, rfl⟩ := hy
     have hL : s.heap.IsList A vs.toArray := PySem.IsL.isList (n := n) h1
     have := lim63
     have hlen := hvs.length
     have fin := hQ os _ s.toks _ List.prefix_rfl hl hr
     rcases idx_some e1 with ⟨i0, i1, rfl⟩ | ⟨i0, i1, rfl⟩
     ·exact tail_any hL.typeIs slot_list_getitem.lookup (wpAny_getItem_list hL i0 (by lia) (by simpa using hw) fin) (hs _ _)
     ·exact tail_any hL.typeIs slot_list_getitem.lookup (wpAny_getItem_list_neg hL i0 (by rw [List.size_toArray]; lia) (by lia) (by rw [List.size_toArray, ← hlen]; simpa using hw) fin) (hs _ _)
    | _ => cases he
   | tup xs =>
    obtain ⟨A, o1, rfl, _, _, ⟨vs, n, rfl, hvs, hz⟩, h1, _⟩ := hl.ref hp hk hx
    cases y with
    | int i =>
     dsimp only at he
     obtain ⟨v, e, he⟩ := Option.map_eq_some_iff.mp he
     cases he
     obtain ⟨j, e1, e2⟩ := Option.bind_eq_some_iff.mp e
     obtain ⟨w, hw, hr⟩ := hvs.get e2
     obtain ⟨t, rfl⟩ := hy
     have hL : IsTup s.heap A vs.toArray := ⟨_, h1, rfl, n, rfl⟩
     have := lim63
     have hlen := hvs.length
     obtain ⟨hj, _, _, _⟩ := idx_seq e1
     rw [hlen] at hj
     exact item_tupleT hL (by lia) (by lia) hj hw (hQ os _ _ _ List.prefix_rfl hl hr) (hs _ _)
    | _ => cases he
   | dict es =>
    obtain ⟨A, o1, rfl, _, _, ⟨es', n, kvs, rfl, k1, k2, k3, k4, hz⟩, h1, hL, hn, hb⟩ := hl.ref hp hk hx
    have he : (if isKey y = true then Option.map (fun v => (R.ok v, σ)) (dget es y) else none) = some (r, σ') := by cases y <;> exact he
    split at he
    ·rename_i hkey
     obtain ⟨v, e, he⟩ := Option.map_eq_some_iff.mp he
     cases he
     have hd : s.heap.DictOf (vKind S.prog S.w) A kvs := dict_of h1 k1 k2 k3
     rcases valueAt_dget k4 y with ⟨_, e2⟩ | ⟨v', w, e1, e2, e3⟩
     ·rw [e2] at e; cases e
     ·rw [e] at e1; cases e1
      have hm := hd.mapOf
      exact tail_any hm.typeIs slot_dict_getitem.lookup (wpAny_getItem_of (knd := vKind S.prog S.w) (key_is hy (by rw [hkey]; rfl)) hm e2 (hQ os _ _ _ List.prefix_rfl hl e3)) (hs _ _)
    ·cases he
   | _ => cases y <;> cases he
 | str st =>
  obtain ⟨i, rfl, he⟩ := onInt_eq he
  obtain ⟨cc, e, he⟩ := Option.map_eq_some_iff.mp he
  cases he
  obtain ⟨j, e1, e2⟩ := Option.bind_eq_some_iff.mp e
  obtain ⟨hj, _, _, _⟩ := idx_seq e1
  obtain ⟨t, rfl, hk⟩ := hx
  obtain ⟨u, rfl⟩ := hy
  have h63 := lim63
  have hlen := okS_len hk
  rw [len_toList] at hlen
  have hc : (seqIndex? i st.length).bind (st.cps[·]?) = some cc := by rw [len_toList, hj, Option.bind_some]; simpa using e2
  refine tail_any (typeIs_str _ _ _) PySem.F.slot_str_getitem.lookup (PySem.P.getItem_str (by rw [Bool.or_eq_false_iff]; exact ⟨decide_eq_false (by lia), decide_eq_false (by lia)⟩) hc ?_) (hs _ _)
  exact hQ os _ _ _ List.prefix_rfl hl ⟨_, rfl, okS_sub (l := [cc]) hk (Nat.succ_le_of_lt (Nat.lt_of_le_of_lt (Nat.zero_le _) (List.getElem?_eq_some_iff.mp e2).1)) fun d hd => by rw [List.mem_singleton.mp hd]; exact List.mem_of_getElem? e2⟩
 | _ => cases he
theorem dset_stored {ρ : List Addr} {k w : V} {x : Value} (hw : VR ρ w x) {es : List (V × V)} {kvs : List (V × Value)} (ha : All2 (PR ρ) es kvs) : (kvs.map (·.1)).Nodup → All2 (PR ρ) (dset es k w) (stored kvs k x) := by
 induction ha with
 | nil =>
  intro _
  simp only [dset, stored, List.any_nil, Bool.false_eq_true, if_false, List.nil_append]
  exact .one ⟨rfl, hw⟩
 | @cons kv kx es kvs h hr ih =>
  obtain ⟨k1, v1⟩ := kv
  obtain ⟨k2, x2⟩ := kx
  obtain ⟨h1, h2⟩ := h
  intro nd
  dsimp only at h1 h2
  subst h1
  rw [List.map_cons, List.nodup_cons] at nd
  by_cases hk : k1 = k
  ·subst hk
   have e : stored ((k1, x2) :: kvs) k1 x = (k1, x) :: kvs := by
    unfold stored
    rw [if_pos (by simp)]
    simp only [List.map_cons, if_true]
    rw [map_store_of_not_mem _ _ _ nd.1]
   rw [e]; simp only [dset, if_true]
   exact .cons ⟨rfl, hw⟩ hr
  ·have ih := ih nd.2
   have e : stored ((k1, x2) :: kvs) k x = (k1, x2) :: stored kvs k x := by
    unfold stored
    simp only [List.any_cons, hk, decide_false, Bool.false_or, List.map_cons, if_false]
    split <;> simp
   rw [e]; simp only [dset, hk, if_false]
   exact .cons ⟨rfl, h2⟩ ih
theorem mapSeq_set {vs : List Value} {n j : Nat} {v : Value} : Obj.mapSeq (·.setIfInBounds j v) (listOf vs.toArray n) = listOf (vs.set j v).toArray n := by
 simp [Obj.mapSeq]
noncomputable abbrev Any {α β : Type} : List Addr → β → α → Prop := fun _ _ _ => True
theorem sm_setItem {x y w : V} {a b v : Value} (hx : VR ρ x a) (hy : VR ρ y b) (hw : VR ρ w v) : SM S c ρ Any (PySem.setItem a b v) (setItem S.P x y w) := by
 intro os σ s r σ' hp hl he Q E hQ
 unfold setItem at he
 cases x with
 | ref k =>
  dsimp only at he
  cases hk : σ.getM S.P k with
  | none => rw [hk] at he; cases he
  | some o =>
   rw [hk] at he
   obtain ⟨hk', hnf⟩ := getM_inv hk
   cases o with
   | list xs =>
    obtain ⟨A, o1, rfl, eA, _, ⟨vs, n, rfl, hvs, hz⟩, h1, _⟩ := hl.ref hp hk' hx
    cases y with
    | int i =>
     dsimp only at he
     obtain ⟨j, e1, he⟩ := Option.map_eq_some_iff.mp he
     cases he
     obtain ⟨t, rfl⟩ := hy
     have := lim63
     have hlen := hvs.length
     rcases idx_some e1 with ⟨i0, i1, rfl⟩ | ⟨i0, i1, rfl⟩
     rotate_left
     ·refine put_neg h1 i0 (by rw [List.size_toArray]; lia) (by lia) (hQ (os.set k (A, listOf (vs.set (i + xs.length).toNat v).toArray n)) _ s.toks () ?_ (hl.upd hnf eA (Heap.SameBut.update ..) ?_ ?_) trivial)
      ·rw [adr_set eA]; exact List.prefix_rfl
      ·rw [← mapSeq_set, List.size_toArray, ← hlen]; exact Heap.get?_update_self _ h1 rfl
      ·exact ⟨vs.set (i + xs.length).toNat v, n, rfl, hvs.set (hw.mono hp) _, by simpa using hz⟩
     refine put_at h1 i0 (by lia) (by simp; lia) (hQ (os.set k (A, listOf (vs.set i.toNat v).toArray n)) _ s.toks () ?_ (hl.upd hnf eA (Heap.SameBut.update ..) ?_ ?_) trivial)
     ·rw [adr_set eA]; exact List.prefix_rfl
     ·rw [← mapSeq_set]; exact Heap.get?_update_self _ h1 rfl
     ·exact ⟨vs.set i.toNat v, n, rfl, hvs.set (hw.mono hp) _, by simpa using hz⟩
    | _ => cases he
   | dict es =>
    obtain ⟨A, o1, rfl, eA, _, ⟨es', n, kvs, rfl, k1, k2, k3, k4, hz⟩, h1, hL, hn, hb⟩ := hl.ref hp hk' hx
    have he : (if isKey y = true then (if okO (.dict (dset es y w)) = true then some (R.ok (), σ.put k (.dict (dset es y w))) else none) else none) = some (r, σ') := by cases y <;> exact he
    split at he
    ·rename_i hkey
     split at he
     ·rename_i hok
      cases he
      have hok : (dset es y w).length ≤ lim := of_decide_eq_true hok
      have hd : s.heap.DictOf (vKind S.prog S.w) A kvs := dict_of h1 k1 k2 k3
      refine wpAny_setItem_pairs (knd := vKind S.prog S.w) (key_is hy (by rw [hkey]; rfl)) hd (fun h' hd' hs' => ?_) ?_
      ·obtain ⟨es'', n', g1, g2, g3, g4⟩ := of_dict hd'
       refine hQ (os.set k (A, dictOf es'' n')) _ _ () ?_ (hl.upd hnf eA hs' g1 ?_) trivial
       ·rw [adr_set eA]; exact List.prefix_rfl
       ·exact ⟨es'', n', _, rfl, g2, g3, g4, dset_stored (hw.mono hp) k4 k3, hok⟩
      ·have := k4.length; exact Nat.le_trans (by lia) lim_le
     ·cases he
    ·cases he
   | _ => cases y <;> cases he
 | _ => cases he
theorem sm_newList {xs : List V} {vs : List Value} (h : All2 (VR ρ) xs vs) : SM S c ρ VR (newList vs) (alloc (.list xs)) := by
 intro os σ s r σ' hp hl he Q E hQ
 unfold alloc at he
 split at he
 ·rename_i hk
  cases he
  have hk : xs.length ≤ lim := of_decide_eq_true hk
  refine wpAny_newObj_type (hQ (os ++ [(_, listOf vs.toArray 0)]) _ s.toks _ adr_new (hl.pushed (o := .list xs) ⟨vs, 0, rfl, VRs.mono hp h, hk⟩) (hl.ref_new (p := (_, _)))) ?_
  show vs.toArray.size ≤ sizeLine
  rw [List.size_toArray, ← h.length]; exact Nat.le_trans hk lim_le
 ·cases he
theorem sm_newTuple {xs : List V} {vs : List Value} (h : All2 (VR ρ) xs vs) : SM S c ρ VR (newTuple vs) (alloc (.tup xs)) := by
 intro os σ s r σ' hp hl he Q E hQ
 unfold alloc at he
 split at he
 ·rename_i hk
  cases he
  have hk : xs.length ≤ lim := of_decide_eq_true hk
  refine wpAny_newObj_type (hQ (os ++ [(_, tupOf vs.toArray 0)]) _ s.toks _ adr_new (hl.pushed (o := .tup xs) ⟨vs, 0, rfl, VRs.mono hp h, hk⟩) (hl.ref_new (p := (_, _)))) ?_
  show vs.toArray.size ≤ sizeLine
  rw [List.size_toArray, ← h.length]; exact Nat.le_trans hk lim_le
 ·cases he
theorem keysOf_nil : KeysOf (vKind S.prog S.w) (#[] : Array DictEntry) := fun e he => by simp at he
theorem sm_newDict : SM S c ρ VR newDict (alloc (.dict [])) := by
 intro os σ s r σ' hp hl he Q E hQ
 cases he
 unfold newDict
 exact wpAny_newObj_type (hQ (os ++ [(_, dictOf [] 0)]) _ s.toks _ adr_new (hl.pushed (o := .dict []) ⟨[], 0, [], rfl, keysOf_nil, .nil, by simp, .nil, by decide⟩) (hl.ref_new (p := (_, _))))
end Mine.Internal
set_option autoImplicit false
namespace Mine.Internal
open PySem PySem.W PySem.Calls PyProof.Rows
variable {S : Sig} {c : Cx} {ρ : List Addr}
noncomputable def NsObj (o : Obj) (m : Str → Option Value) : Prop := ∃ es ep, o.data = .dict es ep ∧ StrKeys es ∧ ∀ name, nsFind es name = m name
theorem ns_obj {h : Heap} {a : Addr} {m : Str → Option Value} (x : h.Ns a m) : ∃ o, h.get? a = some o ∧ NsObj o m := let ⟨o, es, ep, h1, h2, h3, h4⟩ := x; ⟨o, h1, es, ep, h2, h3, h4⟩
theorem NsObj.ns {h : Heap} {a : Addr} {m : Str → Option Value} {o : Obj} (x : NsObj o m) (e : h.get? a = some o) : h.Ns a m := let ⟨es, ep, h2, h3, h4⟩ := x; ⟨o, es, ep, e, h2, h3, h4⟩
theorem Led.frames {h₀ h : Heap} {L : Addr} {m : Str → Option Value} {fs : Fs} {kp os : List (Addr × Obj)} {σ : H} (l : Led S h₀ L m fs kp os σ h) :
  ∃ F : List (Addr × Obj), (∀ f ∈ fs, ∃ o, (f.1, o) ∈ F ∧ NsObj o f.2) ∧ ∀ p ∈ F, h.get? p.1 = some p.2 ∧ p.1 ≠ L ∧ h₀.get? p.1 = none ∧ p.1 ∉ adr (kp ++ os) := by
 have hO := l.outs
 clear l
 induction fs with
 | nil => exact ⟨[], (fun f hf => (nomatch hf)), (fun p hp => (nomatch hp))⟩
 | cons f fs ih =>
  obtain ⟨F, h1, h2⟩ := ih fun g hg => hO g (.tail _ hg)
  have hf := hO f (.head _)
  obtain ⟨o, ho, hn⟩ := ns_obj hf.1
  refine ⟨(f.1, o) :: F, fun g hg => ?_, fun p hp => ?_⟩
  ·rcases List.mem_cons.mp hg with rfl | hg
   ·exact ⟨o, .head _, hn⟩
   ·obtain ⟨o', h3, h4⟩ := h1 g hg
    exact ⟨o', .tail _ h3, h4⟩
  ·rcases List.mem_cons.mp hp with rfl | hp
   ·exact ⟨ho, hf.2⟩
   ·exact h2 p hp
theorem Led.wide {h₀ h : Heap} {L : Addr} {m : Str → Option Value} {fs : Fs} {kp os : List (Addr × Obj)} {σ : H} (l : Led S h₀ L m fs kp os σ h) :
  ∃ F : List (Addr × Obj), News h₀ L h (kp ++ os ++ F) ∧ (∀ p ∈ F, p.1 ∉ adr (kp ++ os)) ∧ ∀ {h' : Heap} {os' : List (Addr × Obj)} {σ' : H}, Fr h₀ L h' m → News h₀ L h' (kp ++ os' ++ F) → adr os' = adr os → S.fz <+: os' →
   All2 (fun o p => OR S (adr os) o p.2) σ' os' → Led S h₀ L m fs kp os' σ' h' := by
 obtain ⟨F, h1, h2⟩ := l.frames
 refine ⟨F, fun p hp => ?_, fun p hp => (h2 p hp).2.2.2, fun {h'} {os'} {σ'} fr nw ad fz ob => ?_⟩
 ·rcases List.mem_append.mp hp with hp | hp
  ·exact l.news p hp
  ·exact ⟨(h2 p hp).1, (h2 p hp).2.1, (h2 p hp).2.2.1⟩
 ·have adk : adr (kp ++ os') = adr (kp ++ os) := by
   have : os'.map (·.1) = os.map (·.1) := ad
   simp only [adr, List.map_append, this]
  refine ⟨fr, fun p hp => nw p (List.mem_append_left _ hp), by rw [adk]; exact l.nd, by rw [ad]; exact ob, fun f hf => ?_, l.top, by rw [adk]; exact l.big, fz, l.frz.2⟩
  obtain ⟨o, h3, h4⟩ := h1 f hf
  have := nw _ (List.mem_append_right _ h3)
  exact ⟨h4.ns this.1, this.2.1, this.2.2, by rw [adk]; exact (l.outs f hf).2.2.2⟩
structure AttrOK (S : Sig) (C : Addr) (nm : Str) : Prop where
 g : plainGet S.K C nm = true
 h : hasDictIn S.K C = true
 f : findIn S.K (.ref C) nm = some none
 s : findIn S.K (.ref C) "__setattr__" = some (some (.builtin "object.__setattr__"))
 p : plainOver S.K C = true
 t : takerIn S.K C nm = some none
structure TabOK (S : Sig) : Prop where
 nodup : S.T.Nodup
 attrs : ∀ n ∈ S.P.attrs, ∃ nm, S.T[n]? = some nm ∧ ∀ k C, S.cls k = some C → AttrOK S C nm
theorem T_inj (TV : TabOK S) {i j : Nat} {nm : Str} (h1 : S.T[i]? = some nm) (h2 : S.T[j]? = some nm) : i = j :=
 (List.getElem?_inj (List.getElem?_eq_some_iff.mp h1).1 TV.nodup).mp (h1.trans h2.symm)
theorem attrs_get (TV : TabOK S) {n : Nat} {nm : Str} (hn : S.T[n]? = some nm) {es : List (Nat × V)} {es' : List DictEntry} (ha : All2 (AR S ρ) es es') :
  (aget es n = none ∧ getL nm es' = some none) ∨ ∃ v x, aget es n = some v ∧ getL nm es' = some (some x) ∧ VR ρ v x := by
 induction ha with
 | nil => exact .inl ⟨rfl, rfl⟩
 | @cons kv e es es' h hr ih =>
  obtain ⟨k, v⟩ := kv
  obtain ⟨h1, nm', t, h2, h3, h4⟩ := h
  dsimp only at h1 h2 h4
  have hk : e.key.isStr nm = decide (k = n) := by
   rw [h3]
   show (nm' == nm) = _
   by_cases hkn : k = n
   ·subst hkn; rw [h2] at hn; cases hn; simp
   ·have : nm' ≠ nm := fun q => hkn (T_inj TV h2 (q ▸ hn))
    simp [hkn, this]
  have hrk : e.refKey = false := by unfold DictEntry.refKey; rw [h3]
  by_cases hkn : k = n
  ·refine .inr ⟨v, e.val, by simp [aget, hkn], ?_, h4⟩
   simp [getL, hk, hkn]
  ·rcases ih with ⟨e1, e2⟩ | ⟨v', x, e1, e2, e3⟩
   ·refine .inl ⟨by simpa [aget, hkn] using e1, ?_⟩
    unfold getL at e2 ⊢
    simp only [List.find?_cons, hk, decide_eq_false hkn, List.any_cons, hrk, Bool.false_or]
    exact e2
   ·refine .inr ⟨v', x, by simpa [aget, hkn] using e1, ?_, e3⟩
    unfold getL at e2 ⊢
    simp only [List.find?_cons, hk, decide_eq_false hkn, List.any_cons, hrk, Bool.false_or]
    exact e2
theorem attrs_set (TV : TabOK S) {n : Nat} {nm : Str} {hsh : Int} {t : Tok} {w : V} {x : Value} (hn : S.T[n]? = some nm) (hm : n ∈ S.P.attrs) (hw : VR ρ w x) : ∀ {es : List (Nat × V)} {es' : List DictEntry}, All2 (AR S ρ) es es' →
  All2 (AR S ρ) (aset es n w) (putL nm hsh (.str nm t) x es')
 | _, _, .nil => .one ⟨hm, nm, t, hn, rfl, hw⟩
 | _, _, .cons (a := (k, v)) (b := e) (as := es) (bs := es') ⟨h1, nm', t', h2, h3, h4⟩ hr => by
  dsimp only at h1 h2 h4
  have ih := attrs_set TV (hsh := hsh) (t := t) hn hm hw hr
  have hk : e.key.isStr nm = decide (k = n) := by
   rw [h3]
   show (nm' == nm) = _
   by_cases hkn : k = n
   ·subst hkn; rw [h2] at hn; cases hn; simp
   ·have : nm' ≠ nm := fun q => hkn (T_inj TV h2 (q ▸ hn))
    simp [hkn, this]
  by_cases hkn : k = n
  ·subst hkn
   simp only [aset, if_true, putL, hk, decide_true]
   exact .cons ⟨h1, nm', t', h2, h3, hw⟩ hr
  ·simp only [aset, if_neg hkn, putL, hk, decide_eq_false hkn, Bool.false_eq_true, if_false]
   exact .cons ⟨h1, nm', t', h2, h3, h4⟩ ih
theorem VR.handed {v : V} {x : Value} (h : VR ρ v x) : handedIn x = true := by
 cases v with
 | none => cases h; rfl
 | bool b => cases h; rfl
 | int i => obtain ⟨t, rfl⟩ := h; rfl
 | str s => obtain ⟨t, rfl, _⟩ := h; rfl
 | ref a => obtain ⟨A, _, rfl⟩ := h; rfl
theorem attrs_mem {n : Nat} {v : V} {es : List (Nat × V)} {es' : List DictEntry} (ha : All2 (AR S ρ) es es') (e : aget es n = some v) : n ∈ S.P.attrs := by
 induction ha with
 | nil => cases e
 | @cons kw _ _ _ h hr ih =>
  by_cases q : kw.1 = n
  ·exact q ▸ h.1
  ·exact ih ((if_neg q : aget (kw :: _) n = _).symm.trans e)
theorem upd_split {d : Addr} {o o' : Obj} : ∀ {pre post : List (Addr × Obj)}, (∀ p ∈ pre, p.1 ≠ d) → (∀ p ∈ post, p.1 ≠ d) → Upd d o o' (pre ++ (d, o) :: post) (pre ++ (d, o') :: post)
 | [], _, _, h2 => .head h2
 | p :: _, _, h1, h2 => .tail (h1 p (.head _)) (upd_split (fun q hq => h1 q (.tail _ hq)) h2)
noncomputable def TopIn (S : Sig) (c : Cx) : Prop := S.K.In c.h₀
theorem sm_getAttr (TV : TabOK S) (KX : TopIn S c) {x : V} {a : Value} {n : Nat} {nm : Str} {ex : Bool} (hn : S.T[n]? = some nm) (hx : VR ρ x a) : SM S c ρ VR (PySem.getAttr a nm ex) (getAttr x n) := by
 intro os σ s r σ' hp hl he Q E hQ
 unfold getAttr at he
 cases x with
 | ref k =>
  dsimp only at he
  cases hk : σ.get k with
  | none => rw [hk] at he; cases he
  | some o =>
   rw [hk] at he
   cases o with
   | inst cl d =>
    dsimp only at he
    obtain ⟨A, o1, rfl, _, _, ⟨C, D, hC, hD, rfl⟩, h1, _⟩ := hl.ref hp hk hx
    cases hd : σ.get d with
    | none => rw [hd] at he; cases he
    | some od =>
     rw [hd] at he
     cases od with
     | attrs es =>
      dsimp only at he
      obtain ⟨v, e, he⟩ := Option.map_eq_some_iff.mp he
      cases he
      obtain ⟨D', o2, _, eD, ⟨es', n', rfl, hes, hz⟩, h2, _⟩ := hl.at hd
      rw [hD] at eD; cases eD
      have hm : n ∈ S.P.attrs := attrs_mem hes e
      obtain ⟨nm', hn', hA⟩ := TV.attrs n hm
      rw [hn] at hn'; cases hn'
      have ok := hA _ _ hC
      rcases attrs_get TV hn hes with ⟨e1, _⟩ | ⟨v', w, e1, e2, e3⟩
      ·rw [e1] at e; cases e
      ·rw [e] at e1; cases e1
       have I : InstAt s.heap A ⟨.ref C, some D, .plain, #[]⟩ C (some (dictOf es' n')) := ⟨h1, rfl, rfl, h2⟩
       exact get_own (attr := none) hl.fr KX I ok.g ok.h ok.f rfl e2 e3.handed (hQ os _ _ _ List.prefix_rfl hl e3)
     | _ => cases he
   | _ => cases he
 | _ => cases he
theorem split_at {os : List (Addr × Obj)} {a : Nat} {p : Addr × Obj} (e : os[a]? = some p) : os = os.take a ++ p :: os.drop (a + 1) := by
 have h := (List.getElem?_eq_some_iff.mp e)
 obtain ⟨h1, h2⟩ := h
 rw [← h2, List.getElem_cons_drop, List.take_append_drop]
theorem nodup_split {pre post : List (Addr × Obj)} {D : Addr} {x : Obj} (h : (adr (pre ++ (D, x) :: post)).Nodup) : (∀ p ∈ pre, p.1 ≠ D) ∧ ∀ p ∈ post, p.1 ≠ D := by
 rw [adr, List.map_append, List.map_cons] at h
 obtain ⟨h1, h2, h3⟩ := List.nodup_append.mp h
 refine ⟨fun p hp q => h3 p.1 (List.mem_map_of_mem hp) D (.head _) q, fun p hp q => ?_⟩
 exact (List.nodup_cons.mp h2).1 (List.mem_map.mpr ⟨p, hp, q⟩)
theorem set_split {os : List (Addr × Obj)} {a : Nat} {p q : Addr × Obj} (e : os[a]? = some p) : os.set a q = os.take a ++ q :: os.drop (a + 1) := by
 rw [List.set_eq_take_append_cons_drop, if_pos (List.getElem?_eq_some_iff.mp e).1]
theorem sm_setAttr (TV : TabOK S) (KX : TopIn S c) {x w : V} {a v : Value} {n : Nat} {nm : Str} (hn : S.T[n]? = some nm) (hx : VR ρ x a) (hw : VR ρ w v) : SM S c ρ Any (PySem.setAttr a nm v) (setAttr S.P x n w) := by
 intro os σ s r σ' hp hl he Q E hQ
 unfold setAttr at he
 cases x with
 | ref k =>
  dsimp only at he
  cases hk : σ.get k with
  | none => rw [hk] at he; cases he
  | some o =>
   rw [hk] at he
   cases o with
   | inst cl d =>
    dsimp only at he
    obtain ⟨A, o1, rfl, _, _, ⟨C, D, hC, hD, rfl⟩, h1, _⟩ := hl.ref hp hk hx
    cases hd : σ.getM S.P d with
    | none => rw [hd] at he; cases he
    | some od =>
     rw [hd] at he
     obtain ⟨hd', hnf⟩ := getM_inv hd
     cases od with
     | attrs es =>
      dsimp only at he
      split at he
      ·rename_i hmem
       cases he
       have hm : n ∈ S.P.attrs := by simpa using (Bool.and_eq_true_iff.mp hmem).1
       obtain ⟨D', o2, eD', eD, ⟨es', n', rfl, hes, hz⟩, h2, hDL, _⟩ := hl.at hd'
       rw [hD] at eD; cases eD
       obtain ⟨nm', hn', hA⟩ := TV.attrs n hm
       rw [hn] at hn'; cases hn'
       have ok := hA _ _ hC
       have I : InstAt s.heap A ⟨.ref C, some D, .plain, #[]⟩ C (some (dictOf es' n')) := ⟨h1, rfl, rfl, h2⟩
       obtain ⟨F, N, NF, back⟩ := hl.wide
       have hlk : (getL nm es').isSome = true := by rcases attrs_get TV hn hes with ⟨_, e2⟩ | ⟨v', w, _, e2, _⟩ <;> rw [e2] <;> rfl
       have hlen := hes.length
       have hmem' := Bool.and_eq_true_iff.mp hmem
       have hz' : (aset es n w).length ≤ 100 := of_decide_eq_true hmem'.2
       have hset := attrs_set TV (hsh := PyData.keyHash S.w.params nm) (t := s.toks + 1) hn hm (hw.mono hp) hes
       have hlen' := hset.length
       have hsp : ∀ q : Obj, c.kp ++ os.set d (D, q) ++ F = (c.kp ++ os.take d) ++ (D, q) :: (os.drop (d + 1) ++ F) := fun q => by
        rw [set_split eD']; simp
       have hsp0 : c.kp ++ os ++ F = (c.kp ++ os.take d) ++ (D, dictOf es' n') :: (os.drop (d + 1) ++ F) := by
        conv => lhs; rw [split_at eD']
        simp
       have nd := hl.nd
       rw [split_at eD', ← List.append_assoc] at nd
       obtain ⟨nd1, nd2⟩ := nodup_split nd
       have hDm : D ∈ adr (c.kp ++ os) := List.mem_map.mpr ⟨_, List.mem_append_right _ (List.mem_of_getElem? eD'), rfl⟩
       have U : Upd D (dictOf es' n') (dictOf (putL nm (PyData.keyHash S.w.params nm) (.str nm (s.toks + 1)) v es') (putN nm es' n')) (c.kp ++ os ++ F) (c.kp ++ os.set d (D, dictOf (putL nm (PyData.keyHash S.w.params nm) (.str nm (s.toks + 1)) v es') (putN nm es' n')) ++ F) := by
        rw [hsp, hsp0]
        refine upd_split nd1 fun p hp => ?_
        rcases List.mem_append.mp hp with hp | hp
        ·exact nd2 p hp
        ·exact fun q => NF p hp (q ▸ hDm)
       refine set_dict hl.fr KX N I rfl ok.s ok.p ok.t ok.h hlk rfl U (by lia) fun h' F' N' => ?_
       refine hQ _ _ _ () ?_ (back F' N' (adr_set eD') (prefix_set hl.frz.1 (Nat.le_trans hl.frz.2 hnf)) (hl.objs.set (a := .attrs (aset es n w)) (b := (D, dictOf (putL nm (PyData.keyHash S.w.params nm) (.str nm (s.toks + 1)) v es') (putN nm es' n'))) ⟨_, _, rfl, hset, hz'⟩ d)) trivial
       rw [adr_set eD']; exact List.prefix_rfl
      ·cases he
     | _ => cases he
   | _ => cases he
 | _ => cases he
end Mine.Internal
set_option autoImplicit false
namespace Mine.Internal
open PySem PySem.W PySem.Calls PyProof.Rows
variable {S : Sig} {c : Cx} {ρ : List Addr}
theorem vr_ints {ρ : List Addr} {vs : List Value} {ns : List Int} (h : IntsAre vs ns) : All2 (VR ρ) (ns.map V.int) vs := by
 induction h with
 | nil => exact .nil
 | cons n t h ih => exact .cons ⟨t, rfl⟩ ih
theorem intsOf_length : ∀ {xs : List V} {ns : List Int}, intsOf xs = some ns → ns.length = xs.length
 | [], _, e => by cases e; rfl
 | x :: xs, ns, e => by
  cases x with
  | int i =>
   simp only [intsOf] at e
   obtain ⟨ms, e1, rfl⟩ := Option.map_eq_some_iff.mp e
   simp [intsOf_length e1]
  | _ => cases e
noncomputable def biVal : Bi → Value
 | .len => .builtin "len"
 | .sorted => .builtin "sorted"
 | .list => .type "list"
 | .range => .type "range"
 | .min => .builtin "min"
 | .tuple => .type "tuple"
 | .str => .type "str"
 | .int => .type "int"
theorem sort_new {A : Around} {E : Value → Shared → Prop} {s : Shared} {vs : List Value} {ns : List Int} {Q : Value → Shared → Prop} (hI : IntsAre vs ns) (h64 : vs.length < 64)
  (h : ∀ h' (out : List Value) n, (∀ b o, s.heap.get? b = some o → h'.get? b = some o) → h'.get? s.heap.objs.size = some (W.listOf out.toArray n) → IntsAre out (sortI ns) → Q (.ref s.heap.objs.size) { s with heap := h' }) :
  wpAny (model S.prog S.w) A (call (.builtin "list.sort") [.ref s.heap.objs.size]) (fun _ s' => Q (.ref s.heap.objs.size) s') E { s with heap := s.heap.push (W.listOf vs.toArray 0) } := by
 have hoL : (s.heap.push (W.listOf vs.toArray 0)).get? s.heap.objs.size = some (seqObj "list" vs.toArray 0) := Heap.get?_push_size _ rfl
 refine wpAny_call_entry slot_list_sort ⟨_, hoL, rfl⟩ entry_list_sort (list_sort_tree hoL hI h64 fun out ns' a1 a2 a3 => ⟨_, rfl, ?_⟩) (args_list_sort _)
 have e : ns' = sortI ns := sorted_unique (a2.trans (sortI_perm ns).symm) a3 (sortI_sorted ns)
 subst e
 obtain ⟨n, hn⟩ := sortedHeap_at (h := s.heap.push (W.listOf vs.toArray 0)) (out := out) hoL
 refine h _ out.toList n (fun b o hb => ?_) (by simpa using hn) a1
 have hlt := Heap.lt_size hb
 rw [sortedHeap_old (Nat.ne_of_lt hlt) (by rw [Heap.size_push]; exact Nat.lt_succ_of_lt hlt)]
 exact Heap.get?_push_of_some _ hb
theorem dict_hint {prog : Program} {w : World} {A : Around} {E : Value → Shared → Prop} {s : Shared} {d : Addr} {Q : Bool → Shared → Prop} (ty : s.TypeIs (.ref d) "dict") (h : Q false s) : wpAny (model prog w) A (Builtin.List.listLengthHint (.ref d)) Q E s := by
 unfold Builtin.List.listLengthHint
 refine wpAny_bind (wpAny_specialOf ty PySem.F.slot_dict_len.lookup ?_)
 generalize hid : ("dict.__len__" : String) = id0
 wp_delta
 rw [show splitId id0 = some ("dict", "__len__") from by subst hid; decide +kernel]
 subst hid
 refine wpAny_bind (wpAny_isInstance (T := "dict") (b := true) ty (by rw [isSubtype_type]; kernel_rfl) ?_)
 refine wpAny_ite_split (fun q => absurd q (by decide)) fun _ => ?_
 refine wpAny_ite_split (fun _ => wpAny_bind (wpAny_typeOf ty (wpAny_pure h))) fun q => absurd (by decide +kernel) q
theorem gather_dict {prog : Program} {w : World} {K : Type} [DecidableEq K] {knd : KeyKind prog w K} {A : Around} {E : Value → Shared → Prop} {s : Shared} {d : Addr} {kvs : List (K × Value)} {ep : Nat} {R : List Value → Shared → Prop} (lo : (d == sysModules) = false) (hh : A.handled = none) (hat : s.heap.DictAt knd d kvs ep) (hn : kvs.length ≤ sizeLine)
  (h : ∀ (h' : Heap) (tk : Nat) (acc : Array Value), (∀ b o, s.heap.get? b = some o → h'.get? b = some o) → ItemsOf (fun i v => ∃ k x, kvs[i]? = some (k, x) ∧ knd.is k v = true) acc kvs.length → R acc.toList { s with heap := h', toks := tk }) :
  wpAny (model prog w) A (collect (.ref d)) R E s := by
 have old : d < s.heap.objs.size := hat.lt_size
 unfold collect
 refine wpAny_bind (wpAny_runValue (codeAny_builtin entry_proto_collect' ?_))
 rw [Around.under_plainId PySem.F.plain_proto_collect _]
 show wpAny _ A.in1 (newList [] >>= fun l => again (.builtin "list.__iadd__" ⟨[l, .ref d], []⟩)) _ _ s
 refine wpAny_bind (wpAny_newObj_type ?_)
 refine wpAny_pure ⟨plainId_quiet PySem.F.plain_list_iadd _, codeAny_builtin entry_list_iadd' ?_⟩
 rw [Around.under_plainId PySem.F.plain_list_iadd _]
 generalize hN : s.heap.objs.size = N
 have hN1 : (s.heap.push { cls := .type "list", data := .seq ([] : List Value).toArray }).get? N = some { cls := .type "list", data := .seq #[] } := by rw [← hN]; exact Heap.get?_push_size _ rfl
 have keep1 : ∀ b o, s.heap.get? b = some o → (s.heap.push { cls := .type "list", data := .seq ([] : List Value).toArray }).get? b = some o := fun b o e => Heap.get?_push_of_some _ e
 have hat1 := hat.push { cls := .type "list", data := .seq ([] : List Value).toArray }
 generalize s.heap.push { cls := .type "list", data := .seq ([] : List Value).toArray } = g1 at *
 show wpAny _ A.in1 (Builtin.List.listExtendWith (.ref N) (.ref d) (.ref N)) _ _ _
 have hdN : N ≠ d := hN ▸ Nat.ne_of_gt old
 unfold Builtin.List.listExtendWith
 refine wpAny_bind (wpAny_typeOf (T := "dict") (s := { s with heap := g1 }) hat1.dictOf.typeIs ?_)
 have h1 : Builtin.List.listSameRef (.ref N) (.ref d) = false := by simp [Builtin.List.listSameRef, hdN]
 have n1 : (Value.type "dict" == Value.type "list") = false := by decide
 have n2 : (Value.type "dict" == Value.type "tuple") = false := by decide
 simp only [h1, n1, n2, Bool.or_false, Bool.false_eq_true, if_false]
 refine wpAny_bind (wpAny_pyIter_dict (s := { s with heap := g1 }) lo hat1 ?_)
 generalize hI : g1.objs.size = I
 have hIN : N ≠ I := hI ▸ Nat.ne_of_lt (Heap.lt_size hN1)
 have hId : d ≠ I := hI ▸ Nat.ne_of_lt hat1.lt_size
 have W := Walks.dictKeys (prog := prog) (w := w) (A := A.in1) (knd := knd) hh I d hId kvs ep
 have hN2 := Heap.get?_push_of_some { cls := .type "dict_keyiterator", data := .fields #[.ref d, .int 0 0, .int kvs.length 0, .int ep 0] } hN1
 have hat2 := hat1.push { cls := .type "dict_keyiterator", data := .fields #[.ref d, .int 0 0, .int kvs.length 0, .int ep 0] }
 have st2 : (g1.push { cls := .type "dict_keyiterator", data := .fields #[.ref d, .int 0 0, .int kvs.length 0, .int ep 0] }).IsKeyIter I d 0 kvs.length ep := ⟨_, by rw [← hI]; exact Heap.get?_push_size _ rfl, rfl, rfl⟩
 have keep2 : ∀ b o, g1.get? b = some o → (g1.push { cls := .type "dict_keyiterator", data := .fields #[.ref d, .int 0 0, .int kvs.length 0, .int ep 0] }).get? b = some o := fun b o e => Heap.get?_push_of_some _ e
 generalize g1.push { cls := .type "dict_keyiterator", data := .fields #[.ref d, .int 0 0, .int kvs.length 0, .int ep 0] } = g2 at *
 have hNf : N ∉ [I, d] := by simp only [List.mem_cons, List.not_mem_nil, or_false, not_or]; exact ⟨hIN, hdN⟩
 have loop : ∀ (R' : Result → Shared → Prop) (g : Heap) (c₁ tk : Nat), (∀ (h' : Heap) (tk : Nat) (acc : Array Value) (c' : Nat), (∀ b o, s.heap.get? b = some o → h'.get? b = some o) → h'.get? N = some { cls := .type "list", dict := none, data := .seq acc c', slots := #[] } → ItemsOf (fun i v => ∃ k x, kvs[i]? = some (k, x) ∧ knd.is k v = true) acc kvs.length → R' (.ok (.ret (.ref N))) { s with heap := h', toks := tk }) →
   g.IsKeyIter I d 0 kvs.length ep → g.DictAt knd d kvs ep → (∀ b o, b ≠ N → g2.get? b = some o → g.get? b = some o) → g.get? N = some { cls := .type "list", data := .seq #[] c₁ } →
   codeAny (model prog w) A (.builtin "list.extend.loop" ⟨[.ref N, .ref I, .ref N], []⟩) R' { s with heap := g, toks := tk } := by
  intro R' g c₁ tk hR i1 i2 kg gN
  refine codeAny_extend_loopS W.toS hn N hNf (.ref N) kvs.length 0 _ #[] c₁ rfl (Nat.zero_le _) ⟨i1, i2⟩ gN (ItemsOf.nil _) fun s' acc c' hm hS' hacc => ?_
  rw [Moved.eq_with hm]
  refine hR s'.heap s'.toks acc c' (fun b o e => hm.heap b o (fun hmem => ?_) (kg b o (fun q => ?_) (keep2 b o (keep1 b o e)))) hS' hacc
  ·rcases List.mem_cons.mp hmem with q | hmem
   ·exact absurd (Heap.lt_size e) (by rw [hN, q]; exact Nat.lt_irrefl _)
   ·exact absurd (Heap.lt_size (keep1 b o e)) (by rw [hI, List.mem_singleton.mp hmem]; exact Nat.lt_irrefl _)
  ·exact absurd (Heap.lt_size e) (by rw [hN, q]; exact Nat.lt_irrefl _)
 refine wpAny_bind (wpAny_holding (dict_hint (s := { s with heap := g2 }) hat2.dictOf.typeIs ?_))
 refine wpAny_ite_split (fun _ => ?_) fun _ => wpAny_pure ⟨plainId_quiet PySem.F.plain_extend_loop _, loop _ g2 0 s.toks (fun h' tk acc c' hk hS' hacc => ?_) st2 hat2 (fun _ _ _ e => e) hN2⟩
 ·refine wpAny_bind (wpAny_rule (wpAny_bind ?_))
  show wpAny _ _ (updateSeq N (·.push .none) >>= fun _ => updateSeq N (·.pop)) _ _ _
  refine wpAny_bind (wpAny_updateSeq hN2 rfl ?_)
  have hN3 := Heap.get?_update_self (Obj.mapSeq (·.push Value.none)) hN2 rfl
  refine wpAny_updateSeq (hz := by seq_fits) hN3 rfl ?_
  have hN4 := Heap.get?_update_self (Obj.mapSeq (·.pop)) hN3 rfl
  have kp4 : ∀ b o, b ≠ N → g2.get? b = some o → ((g2.update N (Obj.mapSeq (·.push Value.none))).update N (Obj.mapSeq (·.pop))).get? b = some o := fun b o hb e => (Heap.get?_update_other _ _ (Ne.symm hb)).trans ((Heap.get?_update_other _ _ (Ne.symm hb)).trans e)
  refine wpAny_pure ⟨plainId_quiet PySem.F.plain_extend_loop _, loop _ _ _ s.toks (fun h' tk acc c' hk hS' hacc => ?_) ?_ ?_ kp4 hN4⟩
  ·show wpAny _ A (load N >>= _) _ _ _
   exact wpAny_bind (wpAny_load hS' (wpAny_pure (h h' tk acc hk hacc)))
  ·exact st2.at fun o e => kp4 I o (Ne.symm hIN) e
  ·exact hat2.at' fun o e => kp4 d o (Ne.symm hdN) e
 ·show wpAny _ A (load N >>= _) _ _ _
  exact wpAny_bind (wpAny_load hS' (wpAny_pure (h h' tk acc hk hacc)))
theorem sorted_by {A : Around} {E : Value → Shared → Prop} {s : Shared} {r : Addr} {Q : Value → Shared → Prop}
  (hc : ∀ R : List Value → Shared → Prop, (∀ h' tk vs, (∀ b o, s.heap.get? b = some o → h'.get? b = some o) → (∃ ns, IntsAre vs ns ∧ vs.length < 64 ∧ ∀ h'' out n, (∀ b o, h'.get? b = some o → h''.get? b = some o) → h''.get? h'.objs.size = some (W.listOf (List.toArray out) n) → IntsAre out (sortI ns) → Q (.ref h'.objs.size) { s with heap := h'', toks := tk }) → R vs { s with heap := h', toks := tk }) → wpAny (model S.prog S.w) A.in1 (collect (.ref r)) R (fun e s' => E e s') s) :
  wpAny (model S.prog S.w) A (call (.builtin "sorted") [.ref r]) Q E s := by
 refine call_function_entry kind_sorted plain_sorted entry_sorted (args_sorted1 _) ?_
 unfold Builtin.«sorted»
 refine wpAny_bind (m := checkCount "sorted" 1 1 _) (wpAny_pure ?_)
 refine wpAny_bind (hc _ fun h' tk vs hk hv => ?_)
 obtain ⟨ns, hI, h64, hq⟩ := hv
 refine wpAny_bind (wpAny_newList ?_ (by rw [sizeLine_eq]; lia))
 refine wpAny_bind (wpAny_holding (wpAny_mono (sort_new (s := { s with heap := h', toks := tk }) (Q := Q) hI h64 fun h'' out n k1 k2 k3 => hq h'' out n k1 k2 k3) (fun _ s' x => ?_) fun _ _ e => e))
 exact wpAny_pure ⟨_, rfl, x⟩
theorem All2.inv1 {α β : Type} {R : α → β → Prop} {a : α} {bs : List β} (h : All2 R [a] bs) : ∃ b, bs = [b] ∧ R a b := by
 cases h with
 | cons h1 h2 => cases h2; exact ⟨_, rfl, h1⟩
theorem All2.inv2 {α β : Type} {R : α → β → Prop} {a a' : α} {bs : List β} (h : All2 R [a, a'] bs) : ∃ b b', bs = [b, b'] ∧ R a b ∧ R a' b' := by
 cases h with
 | cons h1 h2 => obtain ⟨b', rfl, h3⟩ := h2.inv1; exact ⟨_, _, rfl, h1, h3⟩
theorem sortI_length (l : List Int) : (sortI l).length = l.length := (sortI_perm l).length_eq
theorem Led.keepNew {h₀ h h' h'' : Heap} {L : Addr} {m : Str → Option Value} {fs : Fs} {kp os : List (Addr × Obj)} {σ : H} (l : Led S h₀ L m fs kp os σ h) {x : Obj} {o : O} (k1 : ∀ b o, h.get? b = some o → h'.get? b = some o)
  (k2 : ∀ b o, h'.get? b = some o → h''.get? b = some o) (hx : h''.get? h'.objs.size = some x) (hr : OR S (adr os) o x) : Led S h₀ L m fs kp (os ++ [(h'.objs.size, x)]) (σ.push o) h'' :=
 (l.keep k1).new k2 (get_size h') (l.keep k1).room hx hr
theorem keys_ints {ρ : List Addr} {es : List (V × V)} {kvs : List (V × Value)} (ha : All2 (PR ρ) es kvs) : ∀ {vs : List Value} {ns : List Int}, vs.length = kvs.length → (∀ (j : Nat) v, vs[j]? = some v → ∃ k x, kvs[j]? = some (k, x) ∧ keyIs k v = true) →
  intsOf (es.map (·.1)) = some ns → IntsAre vs ns := by
 induction ha with
 | nil => intro vs ns hl _ e; cases e; cases vs with | nil => exact .nil | cons _ _ => simp at hl
 | @cons kv kx es kvs h hr ih =>
  obtain ⟨k1, v1⟩ := kv
  obtain ⟨k2, x2⟩ := kx
  intro vs ns hl hk e
  obtain ⟨h1, _⟩ := h
  dsimp only at h1
  subst h1
  cases vs with
  | nil => simp at hl
  | cons v vs =>
   simp only [List.map_cons] at e
   cases k1 with
   | int i =>
    simp only [intsOf] at e
    obtain ⟨ms, e1, rfl⟩ := Option.map_eq_some_iff.mp e
    obtain ⟨k, x, h2, h3⟩ := hk 0 v rfl
    simp only [List.getElem?_cons_zero, Option.some.injEq, Prod.mk.injEq] at h2
    obtain ⟨rfl, rfl⟩ := h2
    obtain ⟨t, rfl⟩ := keyIs_int h3
    exact .cons _ _ (ih (by simpa using hl) (fun j w hw => hk (j + 1) w (by simpa using hw)) e1)
   | _ => cases e
theorem sortedI_eq {o : Option (List Int)} {h : H} {r : R V × H} (e : sortedI o h = some r) : ∃ ns, o = some ns ∧ ns.length < 64 ∧ r = (.ok (.ref h.length), h.push (.list ((sortI ns).map .int))) := by
 cases o with
 | none => cases e
 | some ns =>
  have e : (if ns.length < 64 then some (R.ok (V.ref h.length), h.push (.list ((sortI ns).map .int))) else none) = some r := e
  split at e
  ·rename_i h64; cases e; exact ⟨ns, rfl, h64, rfl⟩
  ·cases e
theorem sm_sorted (hh : c.A.handled = none) {x : V} {v : Value} (hv : VR ρ x v) : SM S c ρ VR (call (.builtin "sorted") [v]) (biSorted x) := by
 intro os σ s r σ' hp hl he Q E hQ
 have hq := onRef_eq he
 clear he
 obtain ⟨a, rfl, he⟩ := hq
 split at he
 ·rename_i es ha
  obtain ⟨A, o1, rfl, _, _, ⟨es', n, kvs, rfl, k1, k2, k3, k4, hz⟩, h1, hL, hn, hb⟩ := hl.ref hp ha hv
  obtain ⟨ns, hns, h64, e⟩ := sortedI_eq he
  cases e
  have hlen := k4.length
  have hlen2 := intsOf_length hns
  rw [List.length_map] at hlen2
  have hat : s.heap.DictAt (vKind S.prog S.w) A kvs n := ⟨_, _, h1, ⟨rfl, rfl, rfl⟩, rfl, k1, by simpa using k2, k3⟩
  refine sorted_by fun R hR => gather_dict (knd := vKind S.prog S.w) (kvs := kvs) (ep := n) hb hh hat (by rw [sizeLine_eq]; lia) fun h' tk acc hk hacc => hR h' tk acc.toList hk ⟨ns, ?_, ?_, fun h'' out n' k1 k2 k3 => ?_⟩
  ·exact keys_ints k4 (by rw [Array.length_toList]; exact hacc.1) (fun j v e => hacc.2 j v (by rw [← Array.getElem?_toList]; exact e)) hns
  ·have := hacc.1; rw [Array.length_toList]; lia
  ·exact hQ (os ++ [(_, _)]) _ _ _ adr_new (hl.keepNew (o := .list ((sortI ns).map .int)) hk k1 k2 ⟨out, n', rfl, vr_ints k3, by rw [List.length_map, sortI_length]; unfold lim; lia⟩) (hl.ref_new (p := (_, _)))
 ·cases he
theorem sm_biLen {x : V} {v : Value} (hv : VR ρ x v) : SM S c ρ VR (call (.builtin "len") [v]) (biLen x) := by
 intro os σ s r σ' hp hl he Q E hQ
 have h63 := lim63
 cases x with
 | ref a =>
  unfold biLen at he
  dsimp only at he
  split at he
  ·rename_i xs' ha
   obtain ⟨A, o1, rfl, _, _, ⟨vs, n, rfl, hvs, hz⟩, h1, _⟩ := hl.ref hp ha hv
   cases he
   have hlen := hvs.length
   exact call_len_list (PySem.IsL.isList (n := n) h1) (by simp; lia) (hQ os _ _ _ List.prefix_rfl hl ⟨s.toks + 1, by rw [List.size_toArray, ← hlen]⟩)
  ·rename_i xs' ha
   obtain ⟨A, o1, rfl, _, _, ⟨vs, n, rfl, hvs, hz⟩, h1, _⟩ := hl.ref hp ha hv
   cases he
   have hlen := hvs.length
   exact PySem.P.len_tuple h1 (by simp; lia) (hQ os _ _ _ List.prefix_rfl hl ⟨s.toks + 1, by rw [List.size_toArray, ← hlen]⟩)
  ·rename_i es ha
   obtain ⟨A, o1, rfl, _, _, ⟨es', n, kvs, rfl, k1, k2, k3, k4, hz⟩, h1, hL, hn, hb⟩ := hl.ref hp ha hv
   cases he
   have hlen := k4.length
   exact call_len_dict (knd := vKind S.prog S.w) hb (dict_of h1 k1 k2 k3) (by lia) (hQ os _ _ _ List.prefix_rfl hl ⟨s.toks + 1, by rw [hlen]⟩)
  ·cases he
 | str st =>
  obtain ⟨t, rfl, hz⟩ := hv
  cases he
  have hz' := okS_len hz
  exact PySem.P.len_str (by lia) (hQ os _ _ _ List.prefix_rfl hl ⟨_, rfl⟩)
 | _ => cases he
theorem sm_biList {x : V} {v : Value} (hv : VR ρ x v) : SM S c ρ VR (call (.type "list") [v]) (biList x) := by
 intro os σ s r σ' hp hl he Q E hQ
 have hq := onRef_eq he
 clear he
 obtain ⟨a, rfl, he⟩ := hq
 split at he
 ·rename_i xs' ha
  obtain ⟨A, o1, rfl, _, _, ⟨vs, n, rfl, hvs, hz⟩, h1, _⟩ := hl.ref hp ha hv
  unfold alloc at he
  split at he
  ·rename_i hk
   cases he
   have hlen := hvs.length
   exact call_list_seq A (.inl rfl) h1 rfl rfl (fun h' c' k1 k2 => hQ (os ++ [(_, _)]) _ _ _ adr_new (hl.keepNew (o := .list xs') (fun _ _ e => e) k1 k2 ⟨vs, c', rfl, hvs, hz⟩) (hl.ref_new (p := (_, _)))) (by rw [List.size_toArray, ← hlen]; exact Nat.le_trans hz lim_le)
  ·cases he
 ·rename_i xs' ha
  obtain ⟨A, o1, rfl, _, _, ⟨vs, n, rfl, hvs, hz⟩, h1, _⟩ := hl.ref hp ha hv
  unfold alloc at he
  split at he
  ·rename_i hk
   cases he
   have hlen := hvs.length
   exact call_list_seq A (.inr rfl) h1 rfl rfl (fun h' c' k1 k2 => hQ (os ++ [(_, _)]) _ _ _ adr_new (hl.keepNew (o := .list xs') (fun _ _ e => e) k1 k2 ⟨vs, c', rfl, hvs, hz⟩) (hl.ref_new (p := (_, _)))) (by rw [List.size_toArray, ← hlen]; exact Nat.le_trans hz lim_le)
  ·cases he
 ·cases he
theorem sm_biRange {xs : List V} {vs : List Value} (h : All2 (VR ρ) xs vs) : SM S c ρ VR (call (.type "range") vs) (biRange xs) := by
 intro os σ s r σ' hp hl he Q E hQ
 match xs, h, he with
 | [x], h, he =>
  have hq := onInt_eq (show onInt x _ = some (r, σ') from he)
  clear he
  obtain ⟨n, rfl, he⟩ := hq
  obtain ⟨v, rfl, t, rfl⟩ := h.inv1
  cases he
  exact call_range_1 (hQ (os ++ [(_, _)]) _ _ _ adr_new (hl.pushed (o := .rng 0 _ 1) ⟨_, _, _, rfl⟩) (hl.ref_new (p := (_, _))))
 | [], _, he => cases he
 | _ :: _ :: _ :: _ :: _, _, he => cases he
theorem sm_biTuple {x : V} {v : Value} (hv : VR ρ x v) : SM S c ρ VR (call (.type "tuple") [v]) (biTuple x) := by
 intro os σ s r σ' hp hl he Q E hQ
 obtain ⟨a, rfl, he⟩ := onRef_eq he
 obtain ⟨xs, ha, he⟩ := onL_eq he
 obtain ⟨A, o1, rfl, _, _, ⟨vs, n, rfl, hvs, hz⟩, h1, _⟩ := hl.ref hp ha hv
 unfold alloc at he
 split at he
 ·cases he
  have hlen := hvs.length
  refine call_tuple_list (PySem.IsL.isList (n := n) h1) (fun h' hk => hQ (os ++ [(_, tupOf vs.toArray 0)]) _ s.toks _ adr_new ((hl.keep hk).pushed (o := .tup xs) ⟨vs, 0, rfl, hvs, hz⟩) (hl.ref_new (p := (_, _)))) (by rw [List.size_toArray, ← hlen]; exact Nat.le_trans hz lim_le)
 ·cases he
theorem sm_biStr {x : V} {v : Value} (hv : VR ρ x v) : SM S c ρ VR (call (.type "str") [v]) (biStr x) := by
 intro os σ s r σ' hp hl he Q E hQ
 cases x with
 | str st =>
  obtain ⟨t, rfl, hk⟩ := hv
  cases he
  exact PySem.P.str_of_str (hQ os _ s.toks _ List.prefix_rfl hl ⟨_, rfl, hk⟩)
 | int i =>
  obtain ⟨t, rfl⟩ := hv
  unfold biStr at he
  dsimp only at he
  split at he
  ·rename_i hk
   cases he
   refine PySem.P.str_of_int (Nat.lt_of_le_of_lt (Nat.le_of_ble_eq_true hk.1) (by decide)) (hQ os _ _ _ List.prefix_rfl hl ⟨_, rfl, hk.2⟩)
  ·cases he
 | _ => cases he
theorem sm_biInt {x : V} {v : Value} (hv : VR ρ x v) : SM S c ρ VR (call (.type "int") [v]) (biInt x) := by
 intro os σ s r σ' hp hl he Q E hQ
 have hq := onStr_eq he
 clear he
 obtain ⟨st, rfl, he⟩ := hq
 obtain ⟨t, rfl, hk⟩ := hv
 split at he
 ·rename_i hf
  cases he
  unfold figs at hf
  simp only [Bool.and_eq_true, Bool.not_eq_true', decide_eq_true_eq] at hf
  obtain ⟨⟨h1, h2⟩, h3⟩ := hf
  have hl' : st.length ≤ 100 := by rw [len_toList]; exact h2
  have hne : st.cps.toList ≠ [] := fun e => by rw [e] at h1; cases h1
  have hd : NumText.AllDigits st.cps.toList := fun c hc => by
   have := List.all_eq_true.mp h3 c hc
   rw [Bool.and_eq_true, decide_eq_true_eq, decide_eq_true_eq] at this
   exact this
  exact PySem.W.KIN.call_text (PySem.intText_digits hd hne (Nat.le_trans hl' (by decide))) (Nat.le_trans hl' (by decide)) (hQ os _ _ _ List.prefix_rfl hl ⟨_, rfl⟩)
 ·cases he
theorem sm_one {xs : List V} {vs : List Value} {f : Value} {g : V → X V} (h : All2 (VR ρ) xs vs) (hg : ∀ x v, VR ρ x v → SM S c ρ VR (call f [v]) (g x)) : SM S c ρ VR (call f vs) (fun σ => on1 xs fun x => g x σ) := by
 intro os σ s r σ' hp hl he Q E hQ
 have hq := on1_eq he
 clear he
 obtain ⟨x, rfl, he⟩ := hq
 obtain ⟨v, rfl, hv⟩ := h.inv1
 exact hg x v hv os σ s r σ' hp hl he Q E hQ
theorem sm_builtin (hh : c.A.handled = none) {b : Bi} {xs : List V} {vs : List Value} (h : All2 (VR ρ) xs vs) : SM S c ρ VR (call (biVal b) vs) (builtin b xs) := by
 cases b with
 | len => exact sm_one h fun x v hv => sm_biLen hv
 | sorted => exact sm_one h fun x v hv => sm_sorted hh hv
 | list => exact sm_one h fun x v hv => sm_biList hv
 | range => exact sm_biRange h
 | min =>
  intro os σ s r σ' hp hl he Q E hQ
  have hq := on2_eq he
  clear he
  obtain ⟨x, y, rfl, he⟩ := hq
  have hq := twoInts_eq he
  clear he
  obtain ⟨m, n, rfl, rfl, he⟩ := hq
  obtain ⟨v, v', rfl, ⟨t, rfl⟩, ⟨t', rfl⟩⟩ := h.inv2
  cases he
  refine min_two_ints hh fun h' tk hk => hQ os _ _ _ List.prefix_rfl (hl.keep hk) ?_
  split <;> exact ⟨_, rfl⟩
 | tuple => exact sm_one h fun x v hv => sm_biTuple hv
 | str => exact sm_one h fun x v hv => sm_biStr hv
 | int => exact sm_one h fun x v hv => sm_biInt hv
end Mine.Internal
set_option autoImplicit false
namespace Mine.Internal
open PySem PySem.W PySem.Calls PyProof.Rows
variable {S : Sig} {c : Cx} {ρ : List Addr}
noncomputable def clsName : Nat → String
 | 0 => "int"
 | 1 => "bool"
 | 2 => "list"
 | 3 => "tuple"
 | _ => "str"
inductive I4 : Nat → Prop
 | a : I4 0
 | b : I4 1
 | c : I4 2
 | d : I4 3
 | e : I4 4
theorem le4 {k : Nat} (h : k ≤ isB) : I4 k := match k, h with
 | 0, _ => .a
 | 1, _ => .b
 | 2, _ => .c
 | 3, _ => .d
 | 4, _ => .e
inductive IsV (h : H) : V → (Nat → Bool) → Prop
 | none : IsV h .none fun _ => false
 | bool (b : Bool) : IsV h (.bool b) fun c => c == idBool || c == idInt
 | int (i : Int) : IsV h (.int i) fun c => c == idInt
 | str (s : Str) : IsV h (.str s) fun c => c == idStr
 | list (a : Nat) (xs : List V) (e : h.get a = some (.list xs)) : IsV h (.ref a) fun c => c == idList
 | tup (a : Nat) (xs : List V) (e : h.get a = some (.tup xs)) : IsV h (.ref a) fun c => c == idTuple
inductive IsR (h : H) (x : V) (k : Nat) (r : R Bool) (h' : H) : Prop
 | mk (f : Nat → Bool) (i : IsV h x f) (e1 : r = .ok (f k)) (e2 : h' = h) : IsR h x k r h'
theorem isinst_inv {P : Prog} {x : V} {k : Nat} {σ σ' : H} {r : R Bool} (h : isinst P x k σ = some (r, σ')) : IsR σ x k r σ' := by
 unfold isinst at h
 cases x with
 | none => cases h; exact ⟨_, .none, rfl, rfl⟩
 | bool b => cases h; exact ⟨_, .bool b, rfl, rfl⟩
 | int i => cases h; exact ⟨_, .int i, rfl, rfl⟩
 | str s => cases h; exact ⟨_, .str s, rfl, rfl⟩
 | ref a =>
  dsimp only at h
  cases ha : σ.get a with
  | none => rw [ha] at h; cases h
  | some o =>
   rw [ha] at h
   cases o with
   | list xs => cases h; exact ⟨_, .list a xs ha, rfl, rfl⟩
   | tup xs => cases h; exact ⟨_, .tup a xs ha, rfl, rfl⟩
   | _ => cases h
theorem sm_isi {k : Nat} {x : V} {v : Value} (hv : VR ρ x v) (hk : k ≤ isB) : SM S c ρ VR (call (.builtin "isinstance") [v, .type (clsName k)]) (X.bind (isinsts S.P x [k]) fun b => X.pure (.bool b)) := by
 intro os σ s r σ' hp hl he Q E hQ
 have hi : isinsts S.P x [k] = isinst S.P x k := if_pos hk
 rw [hi] at he
 cases X.bind_inv he with
 | err k' e1 e2 => cases isinst_inv e1 with | mk f i f1 f2 => cases f1
 | ok b' σ₁ e1 e2 =>
  cases isinst_inv e1 with
  | mk f i f1 f2 =>
   cases f1; cases f2; cases e2
   have fin : ∀ tk, Q (.bool (f k)) { s with toks := tk } := fun tk => hQ os _ tk _ List.prefix_rfl hl rfl
   clear hQ he e1 hi
   cases i with
   | none =>
    cases hv
    cases le4 hk with
    | a => exact IsiPair.NoneType_int (fin _)
    | b => exact IsiPair.NoneType_bool (fin _)
    | c => exact IsiPair.NoneType_list (fin _)
    | d => exact IsiPair.NoneType_tuple (fin _)
    | e => exact IsiPair.NoneType_str (fin _)
   | bool b =>
    cases hv
    cases le4 hk with
    | a => exact IsiPair.bool_int (fin _)
    | b => exact IsiPair.bool_bool (fin _)
    | c => exact IsiPair.bool_list (fin _)
    | d => exact IsiPair.bool_tuple (fin _)
    | e => exact IsiPair.bool_str (fin _)
   | int i =>
    obtain ⟨t, rfl⟩ := hv
    cases le4 hk with
    | a => exact IsiPair.int_int (fin _)
    | b => exact IsiPair.int_bool (fin _)
    | c => exact IsiPair.int_list (fin _)
    | d => exact IsiPair.int_tuple (fin _)
    | e => exact IsiPair.int_str (fin _)
   | str st =>
    obtain ⟨t, rfl, _⟩ := hv
    cases le4 hk with
    | a => exact IsiPair.str_int (fin _)
    | b => exact IsiPair.str_bool (fin _)
    | c => exact IsiPair.str_list (fin _)
    | d => exact IsiPair.str_tuple (fin _)
    | e => exact IsiPair.str_str (fin _)
   | list a xs ha =>
    obtain ⟨A, o1, rfl, _, _, ⟨vs, n, rfl, hvs, hz⟩, h1, _⟩ := hl.ref hp ha hv
    cases le4 hk with
    | a => exact IsiPair.list_int h1 rfl (fin _)
    | b => exact IsiPair.list_bool h1 rfl (fin _)
    | c => exact IsiPair.list_list h1 rfl (fin _)
    | d => exact IsiPair.list_tuple h1 rfl (fin _)
    | e => exact IsiPair.list_str h1 rfl (fin _)
   | tup a xs ha =>
    obtain ⟨A, o1, rfl, _, _, ⟨vs, n, rfl, hvs, hz⟩, h1, _⟩ := hl.ref hp ha hv
    cases le4 hk with
    | a => exact IsiPair.tuple_int h1 rfl (fin _)
    | b => exact IsiPair.tuple_bool h1 rfl (fin _)
    | c => exact IsiPair.tuple_list h1 rfl (fin _)
    | d => exact IsiPair.tuple_tuple h1 rfl (fin _)
    | e => exact IsiPair.tuple_str h1 rfl (fin _)
theorem cut_eq {α : Type} (l : List α) (a b : Nat) : cut l a b = (l.drop a).take (b - a) := by
 unfold cut; rw [List.drop_take]
theorem part_of {ρ : List Addr} {v : V} {x : Value} {n d a : Nat} (h : VR ρ v x) (e : clip v n d = some a) : ∃ p, IsPart x p ∧ (p = none ∧ a = d ∨ ∃ i : Int, p = some i ∧ a = if 0 ≤ i then min i.toNat n else (i + n).toNat) := by
 cases v with
 | none => cases h; cases e; exact ⟨_, .none, .inl ⟨rfl, rfl⟩⟩
 | int i => obtain ⟨t, rfl⟩ := h; cases e; exact ⟨_, .int i t, .inr ⟨i, rfl, rfl⟩⟩
 | _ => cases e
theorem pick_cut {vs : List Value} {lo hi : Option Int} {a b : Nat} (ha : lo = none ∧ a = 0 ∨ ∃ i : Int, lo = some i ∧ a = if 0 ≤ i then min i.toNat vs.length else (i + vs.length).toNat)
  (hb : hi = none ∧ b = vs.length ∨ ∃ i : Int, hi = some i ∧ b = if 0 ≤ i then min i.toNat vs.length else (i + vs.length).toNat) : slicePick vs.toArray lo hi none = (cut vs a b).toArray := by
 have e : sliceBounds lo hi none vs.toArray.size = ((a : Int), (b : Int), 1) := by
  simp only [sliceBounds, Option.getD_none, show (1 : Int) > 0 by decide, if_true, List.size_toArray]
  rcases ha with ⟨rfl, rfl⟩ | ⟨i, rfl, rfl⟩ <;> rcases hb with ⟨rfl, rfl⟩ | ⟨j, rfl, rfl⟩ <;> dsimp only
  ·rfl
  ·congr 2
   split <;> split <;> lia
  ·congr 1
   split <;> split <;> lia
  ·congr 1
   ·split <;> split <;> lia
   ·congr 1
    split <;> split <;> lia
 rw [cut_eq]
 unfold slicePick
 rw [e]
 simp only [sliceRange_one, pick_run]
theorem cut_le {α : Type} {xs : List α} {p q : Nat} : (cut xs p q).length ≤ xs.length := by
 unfold cut
 rw [List.length_drop]
 exact Nat.le_trans (Nat.sub_le _ _) (by rw [List.length_take]; exact Nat.min_le_right _ _)
noncomputable def parV : Option (Int × Tok) → Value
 | none => .none
 | some (i, t) => .int i t
theorem slp_of {ρ : List Addr} {v : V} {x : Value} {n d a : Nat} (h : VR ρ v x) (e : clip v n d = some a) : ∃ p : Option (Int × Tok), x = parV p ∧ ((p = none ∧ a = d) ∨ ∃ i t, p = some (i, t) ∧ a = if 0 ≤ i then min i.toNat n else (i + n).toNat) := by
 cases v with
 | none => cases h; cases e; exact ⟨none, rfl, .inl ⟨rfl, rfl⟩⟩
 | int i => obtain ⟨t, rfl⟩ := h; cases e; exact ⟨some (i, t), rfl, .inr ⟨i, t, rfl, rfl⟩⟩
 | _ => cases e
theorem ind_cut {n a b : Nat} {lo hi : Option (Int × Tok)} (ha : (lo = none ∧ a = 0) ∨ ∃ i t, lo = some (i, t) ∧ a = if 0 ≤ i then min i.toNat n else (i + n).toNat) (hb : (hi = none ∧ b = n) ∨ ∃ i t, hi = some (i, t) ∧ b = if 0 ≤ i then min i.toNat n else (i + n).toNat) :
  Builtin.Str.strSliceIndices (lo.map (·.1)) (hi.map (·.1)) 1 n = sliceRange (a : Int) (b : Int) 1 := by
 unfold Builtin.Str.strSliceIndices
 simp only [show (1 : Int) > 0 by decide, if_true]
 rcases ha with ⟨rfl, rfl⟩ | ⟨i, t, rfl, rfl⟩ <;> rcases hb with ⟨rfl, rfl⟩ | ⟨j, u, rfl, rfl⟩ <;> dsimp only [Option.map_none, Option.map_some]
 ·rfl
 ·congr 1
  split <;> split <;> lia
 ·congr 1
  split <;> split <;> lia
 ·congr 1
  ·split <;> split <;> lia
  ·split <;> split <;> lia
theorem slice_cut {x : Str} {a b : Nat} {lo hi : Option (Int × Tok)} (ha : (lo = none ∧ a = 0) ∨ ∃ i t, lo = some (i, t) ∧ a = if 0 ≤ i then min i.toNat x.cps.toList.length else (i + x.cps.toList.length).toNat) (hb : (hi = none ∧ b = x.cps.toList.length) ∨ ∃ i t, hi = some (i, t) ∧ b = if 0 ≤ i then min i.toNat x.cps.toList.length else (i + x.cps.toList.length).toNat) :
  Txt.slice x (lo.map (·.1)) (hi.map (·.1)) = strL (cut x.cps.toList a b) := by
 have e := ind_cut ha hb
 rw [sliceRange_one] at e
 have hb' : b ≤ x.cps.toList.length := by
  rcases hb with ⟨_, rfl⟩ | ⟨j, u, _, rfl⟩
  ·exact Nat.le_refl _
  ·split <;> lia
 have eq : (((List.range (b - a)).map (a + ·)).filterMap (x.cps[·]?)) = cut x.cps.toList a b := by
  rw [cut_eq]
  by_cases hab : a ≤ b
  ·have := StrLaws.picks x.cps.toList (b - a) a (by lia)
   rw [← this]
   congr 1
   funext k
   simp
  ·have h0 : b - a = 0 := by lia
   rw [h0]; rfl
 unfold Txt.slice
 rw [len_toList, e]
 split
 ·rename_i hf
  simp only [beq_self_eq_true, Bool.true_and, List.length_map, List.length_range, beq_iff_eq] at hf
  have h2 : a = 0 ∨ x.cps.toList.length = 0 := by lia
  refine ext_str ?_
  show x.cps.toList = cut x.cps.toList a b
  rw [cut_eq, hf]
  rcases h2 with h2 | h2
  ·rw [h2, List.drop_zero, List.take_length]
  ·have : x.cps.toList = [] := List.length_eq_zero_iff.mp h2
   rw [this]; rfl
 ·rw [eq]; rfl
theorem sm_slice {value slice : Expr} {x lo hi : V} {a l u : Value} (hx : VR ρ x a) (hlo : VR ρ lo l) (hhi : VR ρ hi u)
  (hs : ∀ o i, subscripted slice false o i = operate [i, o] (PySem.getItem o i)) {os : List (Addr × Obj)} {σ σ' : H} {s : Shared} {r : R V} (hp : ρ <+: adr os) (hl : c.led S os σ s.heap) (he : getSlice x lo hi σ = some (r, σ')) {Q : Value → Shared → Prop} {E : Value → Shared → Prop}
  (hQ : ∀ b, r = .ok b → ∀ os' h' tk a, adr os <+: adr os' → c.led S os' σ' h' → VR (adr os') b a → Q a { s with heap := h', toks := tk }) :
  wpAny (model S.prog S.w) c.A (newFields "slice" [l, u, .none]) (fun i s' => wpAny (model S.prog S.w) c.A (subscriptTail value slice a i) Q E s') E s := by
 unfold getSlice at he
 cases x with
 | ref k =>
  dsimp only at he
  cases hk : σ.get k with
  | none => rw [hk] at he; cases he
  | some o =>
   rw [hk] at he
   cases o with
   | list xs =>
    dsimp only at he
    obtain ⟨A, o1, rfl, _, _, ⟨vs, n, rfl, hvs, hz⟩, h1, _⟩ := hl.ref hp hk hx
    split at he
    ·rename_i p q e1 e2
     cases he
     obtain ⟨p1, pp, hp1⟩ := part_of hlo e1
     obtain ⟨q1, qq, hq1⟩ := part_of hhi e2
     have hlen := hvs.length
     rw [hlen] at hp1 hq1
     refine wpAny_newObj_type ?_
     have k1 : ∀ b o, s.heap.get? b = some o → (s.heap.push { cls := .type "slice", data := .fields #[l, u, .none] }).get? b = some o := fun b o e => Heap.get?_push_of_some _ e
     have hL : (s.heap.push { cls := .type "slice", data := .fields #[l, u, .none] }).IsList A vs.toArray := PySem.IsL.isList (n := n) (k1 _ _ h1)
     have hL' : Shared.TypeIs { s with heap := s.heap.push { cls := .type "slice", data := .fields #[l, u, .none] } } (.ref A) "list" := ⟨_, k1 _ _ h1, rfl⟩
     refine tail_any hL' slot_list_getitem.lookup (wpAny_getItem_list_slice hL (Heap.IsSliceOf.new ..) pp qq .none (by simp) ?_ (by rw [List.size_toArray, ← hlen]; exact Nat.le_trans hz lim_le)) (hs _ _)
     rw [pick_cut hp1 hq1]
     refine hQ _ rfl (os ++ [(_, _)]) _ _ _ adr_new ((hl.keep k1).pushed (o := .list (cut xs p q)) ⟨cut vs p q, 0, rfl, (hvs.take _).drop _, ?_⟩) (hl.ref_new (p := (_, _)))
     exact Nat.le_trans cut_le hz
    ·cases he
   | tup xs =>
    obtain ⟨A, o1, rfl, _, _, ⟨vs, n, rfl, hvs, hz⟩, h1, _⟩ := hl.ref hp hk hx
    have hq := onN_eq he
    clear he
    obtain ⟨rfl, he⟩ := hq
    have hq := onInt_eq he
    clear he
    obtain ⟨i, rfl, he⟩ := hq
    cases hhi
    obtain ⟨t, rfl⟩ := hlo
    split at he
    ·rename_i hc
     cases he
     have hlen := hvs.length
     obtain ⟨a, rfl⟩ : ∃ a : Nat, i = (a : Int) := ⟨i.toNat, by lia⟩
     refine wpAny_newObj_type ?_
     have k1 : ∀ b o, s.heap.get? b = some o → (s.heap.push { cls := .type "slice", data := .fields #[Value.int (a : Int) t, .none, .none] }).get? b = some o := fun b o e => Heap.get?_push_of_some _ e
     have hT : IsTup (s.heap.push { cls := .type "slice", data := .fields #[Value.int (a : Int) t, .none, .none] }) A vs.toArray := ⟨_, k1 _ _ h1, rfl, n, rfl⟩
     have hT' : Shared.TypeIs { s with heap := s.heap.push { cls := .type "slice", data := .fields #[Value.int (a : Int) t, .none, .none] } } (.ref A) "tuple" := ⟨_, k1 _ _ h1, rfl⟩
     refine tail_any hT' slot_tuple_getitem.lookup (getItem_tuple_from hT (Heap.IsSliceOf.new ..) (by lia) (by rw [List.size_toArray]; lia) ?_ (by rw [List.size_toArray, ← hlen]; exact Nat.le_trans hz lim_le)) (hs _ _)
     refine hQ _ rfl (os ++ [(_, tupOf (vs.drop a).toArray 0)]) _ _ _ adr_new ((hl.keep k1).pushed (o := .tup (xs.drop ((a : Int)).toNat)) ⟨vs.drop a, 0, rfl, by rw [Int.toNat_natCast]; exact hvs.drop _, ?_⟩) (hl.ref_new (p := (_, _)))
     rw [List.length_drop]; lia
    ·cases he
   | _ => cases he
 | str st =>
  dsimp only at he
  split at he
  ·rename_i p q e1 e2
   cases he
   obtain ⟨t, rfl, hk⟩ := hx
   obtain ⟨pl, hpl, hp1⟩ := slp_of hlo e1
   obtain ⟨qu, hqu, hq1⟩ := slp_of hhi e2
   have hlen := okS_len hk
   refine wpAny_newObj_type ?_
   have k1 : ∀ b o, s.heap.get? b = some o → (s.heap.push { cls := .type "slice", data := .fields #[l, u, .none] }).get? b = some o := fun b o e => Heap.get?_push_of_some _ e
   refine tail_any (typeIs_str _ _ _) PySem.F.slot_str_getitem.lookup (wpAny_getItem_str_slice (l := pl) (u := qu) (st := none) ⟨_, Heap.get?_push_size _ rfl, rfl, by rw [hpl, hqu]; rfl⟩ rfl (post_val_or_str ⟨Nat.le_trans (Txt.slice_le st _ _) (Nat.le_trans hlen lim_le), fun t' tk => ?_⟩)) (hs _ _)
   have e := slice_cut (x := st) hp1 hq1
   refine hQ _ rfl os _ tk _ List.prefix_rfl (hl.keep k1) ⟨t', ?_, okS_sub hk cut_le fun d hd => List.mem_of_mem_take (List.mem_of_mem_drop hd)⟩
   rw [← e]; rfl
  ·cases he
 | _ => cases he
end Mine.Internal
set_option autoImplicit false
namespace Mine.Internal
open PySem PySem.W PySem.Calls PyProof.Rows
variable {S : Sig} {c : Cx} {ρ : List Addr}
noncomputable abbrev VRs : List Addr → List V → List Value → Prop := fun ρ => All2 (VR ρ)
theorem sm_append {x : V} {a : Value} {xs : List V} {vs : List Value} (hx : VR ρ x a) (hs : All2 (VR ρ) xs vs) : SM S c ρ VR (call (.builtin "list.append") (a :: vs)) (listMeth S.P x idAppend xs) := by
 intro os σ s r σ' hp hl he Q E hQ
 unfold listMeth at he
 split at he
 ·rename_i k
  split at he
  ·rename_i ys hk
   obtain ⟨hk, hnf⟩ := getM_inv hk
   rw [if_pos rfl] at he
   split at he
   ·obtain ⟨v, rfl, hv⟩ := hs.inv1
    obtain ⟨A, o1, rfl, eA, _, ⟨ws, n, rfl, hws, hz⟩, h1, _⟩ := hl.ref hp hk hx
    unfold grow at he
    split at he
    ·rename_i hok
     cases he
     have hok : (ys ++ [_]).length ≤ lim := of_decide_eq_true hok
     have hlen := hws.length
     refine append_at h1 (fun h' hs' ho' => hQ (os.set k (A, _)) _ _ _ ?_ (hl.upd hnf eA hs' ho' ?_) rfl) (by rw [List.size_toArray, ← hlen]; exact Nat.le_trans hz lim_le)
     ·rw [adr_set eA]; exact List.prefix_rfl
     ·exact ⟨ws ++ [v], n + 1, by simp, hws.append (.one (hv.mono hp)), hok⟩
    ·cases he
   ·cases he
  ·cases he
 ·cases he
theorem sm_pop {x : V} {a : Value} {xs : List V} {vs : List Value} (hx : VR ρ x a) (hs : All2 (VR ρ) xs vs) : SM S c ρ VR (call (.builtin "list.pop") (a :: vs)) (listMeth S.P x idPop xs) := by
 intro os σ s r σ' hp hl he Q E hQ
 unfold listMeth at he
 split at he
 ·split at he <;> cases he
 ·cases he
theorem strs_of {xs : List V} {vs : List Value} (h : All2 (VR ρ) xs vs) : ∀ {ss : List Str}, strsOf xs = some ss → ∃ l : List (Str × Tok), vs = strValues l ∧ l.map (·.1) = ss := by
 induction h with
 | nil => intro ss e; cases e; exact ⟨[], rfl, rfl⟩
 | @cons x v xs vs hx _ ih =>
  intro ss e
  cases x with
  | str st =>
   obtain ⟨r, e1, rfl⟩ := Option.map_eq_some_iff.mp (show (strsOf xs).map (st :: ·) = some ss from e)
   obtain ⟨l, rfl, h2⟩ := ih e1
   obtain ⟨t, rfl, _⟩ := hx
   exact ⟨(st, t) :: l, rfl, by rw [List.map_cons, h2]⟩
  | _ => cases e
theorem vr_strs : ∀ (ws : List (List Nat)) (tk : Nat), (∀ w ∈ ws, okS (strL w) = true) → All2 (VR ρ) (ws.map fun l => V.str (strL l)) (strsFrom tk (ws.map strL))
 | [], _, _ => .nil
 | w :: ws, tk, h => .cons ⟨tk, rfl, h w (.head _)⟩ (vr_strs ws (tk + 1) fun u hu => h u (.tail _ hu))
theorem joinS_eq (sep : Str) : ∀ ss : List Str, joinS sep ss = Str.join sep ss
 | [] => rfl
 | [_] => rfl
 | s :: v :: r => by
  show s ++ sep ++ joinS sep (v :: r) = s ++ sep ++ Str.join sep (v :: r)
  rw [joinS_eq sep (v :: r)]
theorem join_tot (sep : Str) : ∀ ss : List Str, (ss.map (·.length)).sum + ss.length * sep.length ≤ (Str.join sep ss).length + sep.length
 | [] => by simp
 | [s] => by show (s.length + 0) + 1 * sep.length ≤ s.length + sep.length; lia
 | s :: v :: r => by
  have ih := join_tot sep (v :: r)
  have e : (Str.join sep (s :: v :: r)).length = s.length + sep.length + (Str.join sep (v :: r)).length := by
   show (s ++ sep ++ Str.join sep (v :: r)).length = _
   rw [Str.length_append, Str.length_append]
  rw [e, List.map_cons, List.sum_cons, show (s :: v :: r).length = (v :: r).length + 1 from rfl, Nat.succ_mul]
  lia
theorem sm_split {x : V} {a : Value} {xs : List V} {vs : List Value} (hx : VR ρ x a) (hs : All2 (VR ρ) xs vs) : SM S c ρ VR (call (.builtin "str.split") (a :: vs)) (strMeth x idSplit xs) := by
 intro os σ s r σ' hp hl he Q E hQ
 unfold strMeth at he
 have hq := onStr_eq he
 clear he
 obtain ⟨st, rfl, he⟩ := hq
 rw [if_pos rfl] at he
 have hq := on1_eq he
 clear he
 obtain ⟨y, rfl, he⟩ := hq
 have hq := onStr_eq he
 clear he
 obtain ⟨sep, rfl, he⟩ := hq
 obtain ⟨cc, e1, he⟩ := onOne_eq he
 obtain ⟨v, rfl, u, rfl, _⟩ := hs.inv1
 obtain ⟨t, rfl, hk⟩ := hx
 split at he
 ·rename_i h256
  unfold alloc at he
  split at he
  ·rename_i hok
   cases he
   have hok : ((splitC cc st.cps.toList).map fun l => V.str (strL l)).length ≤ lim := of_decide_eq_true hok
   have hlen := okS_len hk
   have hy1 : sep.length = 1 := by rw [len_toList, e1]; rfl
   have ky : Builtin.Str.strKind sep = 1 := by
    unfold Builtin.Str.strKind
    rw [if_pos]
    rw [← Array.all_toList, e1]
    show (decide (cc < 256) && true) = true
    rw [decide_eq_true h256]; rfl
   have kx : 1 ≤ Builtin.Str.strKind st := by
    unfold Builtin.Str.strKind
    split
    ·decide
    ·split <;> decide
   have okw : ∀ w ∈ splitC cc st.cps.toList, okS (strL w) = true := fun w hw => okS_sub hk (split_sub' hw).1 (split_sub' hw).2
   have fin : ∀ (ws : List Value) (tk : Nat), All2 (VR (adr os)) ((splitC cc st.cps.toList).map fun l => V.str (strL l)) ws → Q (.ref s.heap.objs.size) { s with toks := tk, heap := s.heap.push { cls := .type "list", data := .seq ws.toArray } } := fun ws tk hw =>
    hQ (os ++ [(_, listOf ws.toArray 0)]) _ _ _ adr_new (hl.pushed (o := .list ((splitC cc st.cps.toList).map fun l => V.str (strL l))) ⟨ws, 0, rfl, hw, hok⟩) (hl.ref_new (p := (_, _)))
   have self : splitC cc st.cps.toList = [st.cps.toList] → All2 (VR (adr os)) ((splitC cc st.cps.toList).map fun l => V.str (strL l)) [Value.str st t] := fun e => by
    rw [e]
    exact .one ⟨t, by rw [show strL st.cps.toList = st from ext_str rfl], by rw [show strL st.cps.toList = st from ext_str rfl]; exact hk⟩
   cases h1 : (decide (st.length < sep.length) || decide (Builtin.Str.strKind st < Builtin.Str.strKind sep)) with
   | true =>
    refine call_meets PySem.F.slot_str_split (typeIs_str _ _ _) PySem.F.entry_str_split (PySem.F.args_str_split_2 _ _) (meets_str_split_cannot_occur st sep t u h1) (fin [.str st t] s.toks (self ?_))
    rw [ky, decide_eq_false (show ¬ Builtin.Str.strKind st < 1 by lia), Bool.or_false, decide_eq_true_eq, hy1, len_toList] at h1
    rw [show st.cps.toList = [] from List.length_eq_zero_iff.mp (by lia)]; rfl
   | false =>
    cases hf : (Builtin.Str.occurrences st sep 0 st.length (st.length + 1)).isEmpty with
    | true =>
     refine call_meets PySem.F.slot_str_split (typeIs_str _ _ _) PySem.F.entry_str_split (PySem.F.args_str_split_2 _ _) (meets_str_split_not_found st sep t u h1 (by rw [hy1]; rfl) hf) (fin [.str st t] s.toks (self ?_))
     rw [occ_one e1, List.take_of_length_le (by have := pos_len (c := cc) st.cps.toList 0; rw [← len_toList] at this; lia)] at hf
     exact split_none hf
    | false =>
     have ep := split_parts (s := st) e1
     have hn : (Builtin.Str.partsBetween st (Builtin.Str.occurrences st sep 0 st.length (st.length + 1)) sep.length).length ≤ sizeLine := by
      rw [ep, List.length_map]; rw [List.length_map] at hok; exact Nat.le_trans hok lim_le
     refine call_meets PySem.F.slot_str_split (typeIs_str _ _ _) PySem.F.entry_str_split (PySem.F.args_str_split_2 _ _) (meets_str_split_sep st sep t u h1 (by rw [hy1]; rfl) hf (Nat.le_trans hlen lim_le) hn) ?_
     rw [ep]
     exact fin _ _ (vr_strs _ _ okw)
  ·cases he
 ·cases he
theorem sm_join {x : V} {a : Value} {xs : List V} {vs : List Value} (hx : VR ρ x a) (hs : All2 (VR ρ) xs vs) : SM S c ρ VR (call (.builtin "str.join") (a :: vs)) (strMeth x idJoin xs) := by
 intro os σ s r σ' hp hl he Q E hQ
 unfold strMeth at he
 have hq := onStr_eq he
 clear he
 obtain ⟨sep, rfl, he⟩ := hq
 rw [if_neg (by decide), if_pos rfl] at he
 have hq := on1_eq he
 clear he
 obtain ⟨y, rfl, he⟩ := hq
 have hq := onRef_eq he
 clear he
 obtain ⟨k, rfl, he⟩ := hq
 obtain ⟨ys, hy, he⟩ := onL_eq he
 obtain ⟨v, rfl, hv⟩ := hs.inv1
 obtain ⟨t, rfl, hk⟩ := hx
 obtain ⟨A, o1, rfl, _, _, ⟨ws, n, rfl, hws, hz⟩, h1, _⟩ := hl.ref hp hy hv
 cases hss : strsOf ys with
 | none => rw [hss] at he; cases he
 | some ss =>
  rw [hss] at he
  dsimp only at he
  split at he
  ·rename_i hok
   cases he
   obtain ⟨l, rfl, e2⟩ := strs_of hws hss
   have hlen := okS_len hk
   have hj := okS_len hok
   rw [joinS_eq] at hj hok
   refine SC.join (PySem.IsL.isList (n := n) h1) e2 ?_ fun t' tk => ?_
   ·unfold JoinOk
    rw [StrLaws.joinTotal]
    have := join_tot sep ss
    have h24 : lim + lim ≤ sizeLine := by rw [sizeLine_eq]; decide
    unfold Builtin.Str.tooLong
    rw [decide_eq_false (by lia)]; rfl
   ·refine hQ os _ tk _ List.prefix_rfl hl ⟨t', ?_, by rw [joinS_eq]; exact hok⟩
    rw [joinS_eq]
    show Value.str (Builtin.Str.glued sep ss) t' = _
    rw [StrLaws.glued_eq_join]
  ·cases he
theorem ddel_without {ρ : List Addr} {k : V} {es : List (V × V)} {kvs : List (V × Value)} (ha : All2 (PR ρ) es kvs) : (kvs.map (·.1)).Nodup → All2 (PR ρ) (ddel es k) (without kvs k) := by
 induction ha with
 | nil => exact fun _ => .nil
 | @cons kv kx es kvs h hr ih =>
  obtain ⟨k1, v1⟩ := kv
  obtain ⟨k2, x2⟩ := kx
  obtain ⟨h1, h2⟩ := h
  intro nd
  dsimp only at h1 h2
  subst h1
  rw [List.map_cons, List.nodup_cons] at nd
  by_cases hk : k1 = k
  ·subst hk
   have : without ((k1, x2) :: kvs) k1 = kvs := by
    simp only [without, List.filter_cons, ne_eq, not_true_eq_false, decide_false, Bool.false_eq_true, if_false]
    exact without_of_not_mem kvs _ nd.1
   rw [this]; simp only [ddel, if_true]; exact hr
  ·have : without ((k1, x2) :: kvs) k = (k1, x2) :: without kvs k := by simp only [without, List.filter_cons, ne_eq, hk, not_false_eq_true, decide_true, if_true]
   rw [this]; simp only [ddel, hk, if_false]
   exact .cons ⟨rfl, h2⟩ (ih nd.2)
theorem ddel_length (es : List (V × V)) (k : V) : (ddel es k).length ≤ es.length := by
 induction es with
 | nil => simp [ddel]
 | cons p r ih => obtain ⟨a, b⟩ := p; simp only [ddel]; split <;> simp; exact ih
theorem keyPart_key {k : V} {v : Value} (h : keyIs k v = true) : (keyPart v).isSome = true := by
 cases keyIs_shape h <;> rfl
theorem sm_dpop {x : V} {a : Value} {xs : List V} {vs : List Value} (hx : VR ρ x a) (hs : All2 (VR ρ) xs vs) : SM S c ρ VR (call (.builtin "dict.pop") (a :: vs)) (dictMeth S.P x idPop xs) := by
 intro os σ s r σ' hp hl he Q E hQ
 unfold dictMeth at he
 split at he
 ·rename_i k
  split at he
  ·rename_i es hk
   obtain ⟨hk, hnf⟩ := getM_inv hk
   rw [if_pos rfl] at he
   obtain ⟨A, o1, rfl, eA, _, ⟨es', n, kvs, rfl, k1, k2, k3, k4, hz⟩, h1, hL, hn, hb⟩ := hl.ref hp hk hx
   have hd : s.heap.DictOf (vKind S.prog S.w) A kvs := dict_of h1 k1 k2 k3
   have hlen := k4.length
   have hsz : kvs.length ≤ sizeLine := by rw [← hlen]; exact Nat.le_trans hz lim_le
   have there : ∀ {y : V} {key : Value} {w : V} {rest : List Value}, VR ρ y key → isKey y = true → dget es y = some w → (rest = [] ∨ ∃ d, rest = [d]) → argsOk "dict.pop" ⟨.ref A :: key :: rest, []⟩ →
     (∀ os' h' tk a, adr os <+: adr os' → c.led S os' (σ.put k (.dict (ddel es y))) h' → VR (adr os') w a → Q a { s with heap := h', toks := tk }) → wpAny (model S.prog S.w) c.A (call (.builtin "dict.pop") (.ref A :: key :: rest)) Q E s := by
    intro y key w rest hy hkey hw hrest hargs hq
    have hki := key_is hy (by rw [hkey]; rfl)
    rcases valueAt_dget k4 y with ⟨_, e2⟩ | ⟨v', x', e1, e2, e3⟩
    ·rw [e2] at hw; cases hw
    ·rw [hw] at e1; cases e1
     refine call_meetsIn F.slot_dict_pop hd.typeIs F.entry_dict_pop hargs (meets_dict_pop_there (vKind S.prog S.w) A hki rest hrest (keyPart_key hki)) ⟨kvs, x', hd, hsz, e2, fun h' hd' hs' => ?_⟩
     obtain ⟨es'', n', g1, g2, g3, g4⟩ := of_dict hd'
     refine hq (os.set k (A, dictOf es'' n')) _ _ _ ?_ (hl.upd hnf eA hs' g1 ?_) ?_
     ·rw [adr_set eA]; exact List.prefix_rfl
     ·exact ⟨es'', n', _, rfl, g2, g3, g4, ddel_without k4 k3, Nat.le_trans (ddel_length ..) hz⟩
     ·rw [adr_set eA]; exact e3
   split at he
   ·obtain ⟨key, rfl, hkey⟩ := hs.inv1
    split at he
    ·rename_i hik
     split at he
     ·rename_i w hw
      cases he
      exact there hkey hik hw (.inl rfl) (F.args_dict_pop_2 _ _) hQ
     ·cases he
    ·cases he
   ·obtain ⟨key, dv, rfl, hkey, hdv⟩ := hs.inv2
    split at he
    ·rename_i hik
     split at he
     ·rename_i w hw
      cases he
      exact there hkey hik hw (.inr ⟨_, rfl⟩) (F.args_dict_pop_3 _ _ _) hQ
     ·rename_i hw
      cases he
      have hki := key_is hkey (by rw [hik]; rfl)
      rcases valueAt_dget k4 _ with ⟨e1, _⟩ | ⟨v', x', e1, _, _⟩
      ·exact call_meetsIn F.slot_dict_pop hd.typeIs F.entry_dict_pop (F.args_dict_pop_3 _ _ _) (meets_dict_pop_default (vKind S.prog S.w) A hki hb (keyPart_key hki) dv) ⟨kvs, hd, e1, hQ os _ _ _ List.prefix_rfl hl (hdv.mono hp)⟩
      ·rw [hw] at e1; cases e1
    ·cases he
   ·cases he
  ·cases he
 ·cases he
end Mine.Internal
set_option autoImplicit false
namespace Mine.Internal
open PySem PySem.W PySem.Calls PyProof.Rows
variable {S : Sig} {c : Cx} {ρ : List Addr}
set_option genInjectivity false in
structure Nam where
 T : List Str
 fn : Nat → Option Addr
 me : Nat → Option Addr
 cls : Nat → Option Addr
 ex : Nat → Option Addr
noncomputable def Sig.nam (S : Sig) : Nam := ⟨S.T, S.fn, S.me, S.cls, S.ex⟩
noncomputable def biName : Bi → Str
 | .len => "len" | .sorted => "sorted" | .list => "list" | .range => "range" | .min => "min"
 | .tuple => "tuple" | .str => "str" | .int => "int"
noncomputable def isGlob (sc : Scope) (nm : Str) : Bool := decide (sc.names.lookup nm = some .globalImplicit) && !(nm == ("__debug__" : Str))
noncomputable def nameIs (N : Nam) (i : Nat) (nm : Str) : Bool := decide (N.T[i]? = some nm)
noncomputable def isNone : Ex → Bool
 | .cnone => true
 | _ => false
noncomputable def inScope (sc : Scope) (nm : Str) : Bool := match sc.names.lookup nm with
 | some .local => true
 | some .cell => true
 | some .free => true
 | _ => false
noncomputable def isCell (sc : Scope) (nm : Str) : Bool := match sc.names.lookup nm with
 | some .cell => true
 | some .free => true
 | _ => false
noncomputable def compScope (N : Nam) (sc sc' : Scope) (nms : List Str) : Bool :=
 decide (sc'.kind = .function) && sc'.names.all (fun x => decide (x.2 ≠ .cell) && (!decide (x.2 = .local) || (decide (sc'.names.lookup x.1 = some .local) && (decide (x.1 ∈ nms) || !N.T.contains x.1))) && (!decide (x.2 = .free) || isCell sc x.1)) && nms.all (fun nm => decide (sc'.names.lookup nm = some .local))
/- parts of expressions -/
noncomputable def tagE : Expr → Nat
 | .BoolOp .. => 0 | .NamedExpr .. => 1 | .BinOp .. => 2 | .UnaryOp .. => 3 | .Lambda .. => 4 | .IfExp .. => 5 | .Dict .. => 6 | .Set .. => 7 | .ListComp .. => 8 | .SetComp .. => 9 | .DictComp .. => 10 | .GeneratorExp .. => 11 | .Await .. => 12 | .Yield .. => 13
 | .YieldFrom .. => 14 | .Compare .. => 15 | .Call .. => 16 | .FormattedValue .. => 17 | .JoinedStr .. => 18 | .Constant .. => 19 | .Attribute .. => 20 | .Subscript .. => 21 | .Starred .. => 22 | .Name .. => 23 | .List .. => 24 | .Tuple .. => 25 | .Slice .. => 26
noncomputable def plainBase (e : Expr) : Bool := !Nat.beq (tagE e) 16
noncomputable def isSet (e : Expr) : Bool := Nat.beq (tagE e) 7
noncomputable def isSlice (e : Expr) : Bool := Nat.beq (tagE e) 26
set_option genInjectivity false in
structure Pt where
 x : Expr
 y : Expr
 xs : List Expr
 pos : Pos
 nm : Str
 k : Nat
 bop : PySem.Operator := .Add
 uop : UnaryOp := .Not
 lop : BoolOp := .And
 cops : List CmpOp := []
 cst : Const := .none
 ds : List (Option Expr) := []
 kws : List Keyword := []
 gs : List Comprehension := []
 sc : Scope := ⟨.function, [], false, false, []⟩
 lo : Option Expr := none
 hi : Option Expr := none
 st : Option Expr := none
noncomputable def noPos : Pos := ⟨0, 0, 0, 0⟩
noncomputable def ptE (e : Expr) : Pt := match e with
 | .BoolOp o xs p => { x := e, y := e, xs := xs, pos := p, nm := "", k := 0, lop := o }
 | .BinOp l o r p => { x := l, y := r, xs := [], pos := p, nm := "", k := 0, bop := o }
 | .UnaryOp o x p => { x := x, y := x, xs := [], pos := p, nm := "", k := 0, uop := o }
 | .Dict ks vs p => { x := e, y := e, xs := vs, pos := p, nm := "", k := 0, ds := ks }
 | .ListComp x gs sc p => { x := x, y := x, xs := [], pos := p, nm := "", k := 0, gs := gs, sc := sc }
 | .Compare l os rs p => { x := l, y := l, xs := rs, pos := p, nm := "", k := 0, cops := os }
 | .Call f xs ks p => { x := f, y := f, xs := xs, pos := p, nm := "", k := 0, kws := ks }
 | .Constant v k p => { x := e, y := e, xs := [], pos := p, nm := "", k := k, cst := v }
 | .Attribute x nm p => { x := x, y := x, xs := [], pos := p, nm := nm, k := 0 }
 | .Subscript x y p => { x := x, y := y, xs := [], pos := p, nm := "", k := 0 }
 | .Name nm p => { x := e, y := e, xs := [], pos := p, nm := nm, k := 0 }
 | .List xs p => { x := e, y := e, xs := xs, pos := p, nm := "", k := 0 }
 | .Tuple xs k p => { x := e, y := e, xs := xs, pos := p, nm := "", k := k }
 | .Slice l u s p => { x := e, y := e, xs := [], pos := p, nm := "", k := 0, lo := l, hi := u, st := s }
 | _ => { x := e, y := e, xs := [], pos := noPos, nm := "", k := 0 }
noncomputable def isC (v w : Const) : Bool := match v, w with
 | .none, .none => true
 | .bool b, .bool b' => b == b'
 | .int i, .int j => decide (i = j)
 | .str s, .str s' => decide (s = s') && okS s
 | _, _ => false
noncomputable def onO {α : Type} (o : Option α) (f : α → Bool) : Bool := match o with
 | some a => f a
 | none => false
theorem onO_eq {α : Type} {o : Option α} {f : α → Bool} (h : onO o f = true) : ∃ a, o = some a ∧ f a = true := by
 cases o with
 | none => exact nomatch (show false = true from h)
 | some a => exact ⟨a, rfl, h⟩
noncomputable def one {α : Type} : List α → Option α
 | [a] => some a
 | _ => none
noncomputable def two {α : Type} : List α → Option (α × α)
 | [a, b] => some (a, b)
 | _ => none
noncomputable def nil? {α : Type} : List α → Bool
 | [] => true
 | _ => false
noncomputable def exsNil : Exs → Bool
 | .nil => true
 | _ => false
noncomputable def isT (e : Expr) (n : Nat) : Bool := decide (tagE e = n)
noncomputable def isCallN (e : Expr) : Bool := isT e 16 && (nil? (ptE e).kws && isT (ptE e).x 23)
noncomputable def cN (e : Expr) : Str := (ptE (ptE e).x).nm
noncomputable def cA (e : Expr) : List Expr := (ptE e).xs
noncomputable def ckTg (N : Nam) (tg : List Nat) (tup : Bool) (e : Expr) : Bool := match tup with
 | false => onO (one tg) fun i => isT e 23 && nameIs N i (ptE e).nm
 | true => onO (two tg) fun is => onO (two (ptE e).xs) fun xs => isT e 25 && (isT xs.1 23 && (isT xs.2 23 && (nameIs N is.1 (ptE xs.1).nm && (nameIs N is.2 (ptE xs.2).nm && decide ((ptE xs.1).nm ≠ (ptE xs.2).nm)))))
noncomputable def tgNms (tup : Bool) (e : Expr) : List Str := bif tup then (ptE e).xs.map fun x => (ptE x).nm else [(ptE e).nm]
mutual
noncomputable def ckE (N : Nam) : Scope → Ex → Expr → Bool
 | _, .cnone, e => isT e 19 && isC .none (ptE e).cst
 | _, .cbool b, e => isT e 19 && isC (.bool b) (ptE e).cst
 | _, .cint i, e => isT e 19 && isC (.int i) (ptE e).cst
 | _, .cstr s, e => isT e 19 && isC (.str s) (ptE e).cst
 | sc, .loc i, e => isT e 23 && (nameIs N i (ptE e).nm && (inScope sc (ptE e).nm && (!((ptE e).nm == ("__debug__" : Str)) && !((ptE e).nm == ("__classdict__" : Str)))))
 | sc, .glo i, e => isT e 23 && (nameIs N i (ptE e).nm && isGlob sc (ptE e).nm)
 | sc, .bin op a b, e => isT e 2 && (decide (op = (ptE e).bop) && (ckE N sc a (ptE e).x && ckE N sc b (ptE e).y))
 | sc, .neg a, e => isT e 3 && (decide ((ptE e).uop = .USub) && ckE N sc a (ptE e).x)
 | sc, .not a, e => isT e 3 && (decide ((ptE e).uop = .Not) && ckE N sc a (ptE e).x)
 | sc, .band es, e => isT e 0 && (decide ((ptE e).lop = .And) && ckEs N sc es (ptE e).xs)
 | sc, .bor es, e => isT e 0 && (decide ((ptE e).lop = .Or) && ckEs N sc es (ptE e).xs)
 | sc, .cmp op a b, e => isT e 15 && onO (one (ptE e).cops) fun o => onO (one (ptE e).xs) fun r => decide (op = o) && (!behindInMarks o r && (ckE N sc a (ptE e).x && ckE N sc b r))
 | sc, .cmp2 o1 o2 a b d, e => isT e 15 && onO (two (ptE e).cops) fun o => onO (two (ptE e).xs) fun r => decide (o1 = o.1) && (decide (o2 = o.2) && (!behindInMarks o.2 r.2 && (ckE N sc a (ptE e).x && (ckE N sc b r.1 && ckE N sc d r.2))))
 | sc, .list es, e => isT e 24 && ckEs N sc es (ptE e).xs
 | sc, .tup es, e => isT e 25 && ckEs N sc es (ptE e).xs
 | _, .dict ks vs, e => isT e 6 && (exsNil ks && (exsNil vs && (nil? (ptE e).ds && nil? (ptE e).xs)))
 | sc, .attr a n, e => isT e 20 && (nameIs N n (ptE e).nm && (plainBase (ptE e).x && ckE N sc a (ptE e).x))
 | sc, .sub a i, e => isT e 21 && (!isSlice (ptE e).y && (ckE N sc a (ptE e).x && ckE N sc i (ptE e).y))
 | sc, .slice a lo hi, e => isT e 21 && (isT (ptE e).y 26 && ((ptE (ptE e).y).st.isNone && (ckE N sc a (ptE e).x && ((match (ptE (ptE e).y).lo with | none => isNone lo | some y => ckE N sc lo y) && (match (ptE (ptE e).y).hi with | none => isNone hi | some y => ckE N sc hi y)))))
 | sc, .call f args, e => isCallN e && (nameIs N f (cN e) && (isGlob sc (cN e) && ((N.fn f).isSome && ckEs N sc args (cA e))))
 | sc, .new k, e => isCallN e && (nil? (cA e) && (nameIs N k (cN e) && (isGlob sc (cN e) && (N.cls k).isSome)))
 | sc, .meth o n args, e => isT e 16 && (nil? (ptE e).kws && (isT (ptE e).x 20 && (nameIs N n (ptE (ptE e).x).nm && (plainBase (ptE (ptE e).x).x && (((ptE (ptE e).x).pos.endLine == (ptE e).pos.line) && (decide ((cA e).length < 30) && ((decide (n ≤ 12) || (N.me n).isSome) && (ckE N sc o (ptE (ptE e).x).x && ckEs N sc args (cA e)))))))))
 | sc, .bi b args, e => isCallN e && (decide (cN e = biName b) && (isGlob sc (cN e) && ckEs N sc args (cA e)))
 | sc, .isi a ks, e => isCallN e && onO (one ks) fun k => onO (two (cA e)) fun xs => isT xs.2 23 && (decide (cN e = "isinstance") && (isGlob sc (cN e) && (isGlob sc (ptE xs.2).nm && (decide (k ≤ isB) && (decide ((ptE xs.2).nm = (clsName k : Str)) && ckE N sc a xs.1)))))
 | sc, .comp elt tg tup it conds, e => isT e 8 && onO (one (ptE e).gs) fun g => decide (g.is_async = 0) && (ckTg N tg tup g.target && (compScope N sc (ptE e).sc (tgNms tup g.target) && (!isSet g.iter && (ckE N sc it g.iter && (ckE N (ptE e).sc elt (ptE e).x && ckEs N (ptE e).sc conds g.ifs)))))
termination_by structural _ x => x
noncomputable def ckEs (N : Nam) : Scope → Exs → List Expr → Bool
 | _, .nil, xs => nil? xs
 | sc, .cons e es, xs => match xs with
  | x :: xs => ckE N sc e x && ckEs N sc es xs
  | [] => false
termination_by structural _ x => x
end
theorem and_t {a b : Bool} (h : (a && b) = true) : a = true ∧ b = true := (Bool.and_eq_true a b).mp h
theorem not_t {a : Bool} (h : (!a) = true) : a = false := (Bool.not_eq_true' a).mp h
theorem dec_t {p : Prop} [Decidable p] (h : decide p = true) : p := of_decide_eq_true h
theorem one_eq {α : Type} {l : List α} {a : α} (h : one l = some a) : l = [a] := by
 match l, h with
 | [b], h => cases h; rfl
theorem two_eq {α : Type} {l : List α} {a b : α} (h : two l = some (a, b)) : l = [a, b] := by
 match l, h with
 | [c, d], h => cases h; rfl
theorem nil_eq {α : Type} {l : List α} (h : nil? l = true) : l = [] := by
 cases l with
 | nil => rfl
 | cons _ _ => cases h
theorem exsNil_eq {l : Exs} (h : exsNil l = true) : l = .nil := by
 cases l with
 | nil => rfl
 | cons _ _ => cases h
noncomputable def rebE (n : Nat) (e : Expr) : Expr := match n with
 | 19 => .Constant (ptE e).cst (ptE e).k (ptE e).pos
 | 23 => .Name (ptE e).nm (ptE e).pos
 | 2 => .BinOp (ptE e).x (ptE e).bop (ptE e).y (ptE e).pos
 | 3 => .UnaryOp (ptE e).uop (ptE e).x (ptE e).pos
 | 0 => .BoolOp (ptE e).lop (ptE e).xs (ptE e).pos
 | 15 => .Compare (ptE e).x (ptE e).cops (ptE e).xs (ptE e).pos
 | 24 => .List (ptE e).xs (ptE e).pos
 | 25 => .Tuple (ptE e).xs (ptE e).k (ptE e).pos
 | 6 => .Dict (ptE e).ds (ptE e).xs (ptE e).pos
 | 20 => .Attribute (ptE e).x (ptE e).nm (ptE e).pos
 | 21 => .Subscript (ptE e).x (ptE e).y (ptE e).pos
 | 26 => .Slice (ptE e).lo (ptE e).hi (ptE e).st (ptE e).pos
 | 16 => .Call (ptE e).x (ptE e).xs (ptE e).kws (ptE e).pos
 | 8 => .ListComp (ptE e).x (ptE e).gs (ptE e).sc (ptE e).pos
 | _ => e
theorem exp_all (e : Expr) : e = rebE (tagE e) e := by cases e <;> rfl
theorem exp_of {e : Expr} {n : Nat} (h : isT e n = true) : e = rebE n e := by
 have h2 := exp_all e
 rw [dec_t h] at h2
 exact h2
theorem t_const {e : Expr} (h : isT e 19 = true) : e = .Constant (ptE e).cst (ptE e).k (ptE e).pos := exp_of h
theorem t_name {e : Expr} (h : isT e 23 = true) : e = .Name (ptE e).nm (ptE e).pos := exp_of h
theorem t_bin {e : Expr} (h : isT e 2 = true) : e = .BinOp (ptE e).x (ptE e).bop (ptE e).y (ptE e).pos := exp_of h
theorem t_un {e : Expr} (h : isT e 3 = true) : e = .UnaryOp (ptE e).uop (ptE e).x (ptE e).pos := exp_of h
theorem t_bool {e : Expr} (h : isT e 0 = true) : e = .BoolOp (ptE e).lop (ptE e).xs (ptE e).pos := exp_of h
theorem t_cmp {e : Expr} (h : isT e 15 = true) : e = .Compare (ptE e).x (ptE e).cops (ptE e).xs (ptE e).pos := exp_of h
theorem t_list {e : Expr} (h : isT e 24 = true) : e = .List (ptE e).xs (ptE e).pos := exp_of h
theorem t_tup {e : Expr} (h : isT e 25 = true) : e = .Tuple (ptE e).xs (ptE e).k (ptE e).pos := exp_of h
theorem t_dict {e : Expr} (h : isT e 6 = true) : e = .Dict (ptE e).ds (ptE e).xs (ptE e).pos := exp_of h
theorem t_attr {e : Expr} (h : isT e 20 = true) : e = .Attribute (ptE e).x (ptE e).nm (ptE e).pos := exp_of h
theorem t_sub {e : Expr} (h : isT e 21 = true) : e = .Subscript (ptE e).x (ptE e).y (ptE e).pos := exp_of h
theorem t_slice {e : Expr} (h : isT e 26 = true) : e = .Slice (ptE e).lo (ptE e).hi (ptE e).st (ptE e).pos := exp_of h
theorem t_call {e : Expr} (h : isT e 16 = true) : e = .Call (ptE e).x (ptE e).xs (ptE e).kws (ptE e).pos := exp_of h
theorem t_comp {e : Expr} (h : isT e 8 = true) : e = .ListComp (ptE e).x (ptE e).gs (ptE e).sc (ptE e).pos := exp_of h
end Mine.Internal
set_option autoImplicit false
namespace Mine.Internal
open PySem PySem.W PySem.Calls PyProof.Rows
variable {S : Sig} {c : Cx} {ρ : List Addr}
structure Ctx0 (S : Sig) (n : Nat) (c : Cx) : Prop where
 units : c.A.units + 2 * n + 200 < cLine
 depth : c.A.depth + n < recursionLimit
 kin : S.K.In c.h₀
 top : ∃ mg mb, c.h₀.Ns mainGlobals mg ∧ c.h₀.Ns builtinsNs mb ∧ ∀ x : Str, x ≠ "__name__" → mb x = bootBuiltins x
 lim : c.h₀.NoLimit
 kind : c.env.scope.kind = .function
 glob : c.env.globals = mainGlobals
 blt : c.env.builtins = builtinsNs
 locs : c.env.locals = c.L
 frs : ∃ l, c.A.frames = some l ∧ ∀ e ∈ l, e.scope.kind ≠ .module ∧ ∃ b, e.frame = some b ∧ b ∈ c.L :: c.fs.map (·.1)
 own : ∃ e outer L, c.A.frames = some (e :: outer) ∧ e.frame = some L ∧ c.env.frame = some L
structure CtxOK (S : Sig) (n : Nat) (c : Cx) : Prop extends Ctx0 S n c where
 hand : c.A.handled = none
theorem CtxOK.le {n k : Nat} (h : CtxOK S n c) (e : k ≤ n) : CtxOK S k c :=
 ⟨⟨by have := h.units; lia, by have := h.depth; lia, h.kin, h.top, h.lim, h.kind, h.glob, h.blt, h.locs, h.frs, h.own⟩, h.hand⟩
theorem Ctx0.room {n : Nat} (h : Ctx0 S n c) : Room c := by unfold Room; have := h.units; lia
noncomputable def VarAt (c : Cx) (nm : Str) (x : Value) : Prop :=
 (c.env.kindOf nm = some .local ∧ c.m nm = some x) ∨
 ((c.env.kindOf nm = some .cell ∨ c.env.kindOf nm = some .free) ∧ ∃ a o, c.env.cells.lookup nm = some a ∧ (a, o) ∈ c.kp ∧ o.data = .cell (some x))
noncomputable def VarsOK (S : Sig) (c : Cx) (sc : Scope) (ρ : List Addr) (loc : Loc) : Prop := ∀ i v nm, loc i = some v → S.T[i]? = some nm → inScope sc nm = true → ∃ x, VarAt c nm x ∧ VR ρ v x
theorem VarsOK.mono {sc : Scope} {loc : Loc} {ρ' : List Addr} (h : VarsOK S c sc ρ loc) (k : ρ <+: ρ') : VarsOK S c sc ρ' loc := fun i v nm e h1 h2 =>
 let ⟨x, h3, h4⟩ := h i v nm e h1 h2; ⟨x, h3, h4.mono k⟩
structure ScOK (sc : Scope) (env : Env) : Prop where
 glob : ∀ nm, sc.names.lookup nm = some .globalImplicit → env.kindOf nm = some .globalImplicit
 loc : ∀ nm, sc.names.lookup nm = some .local → env.kindOf nm = some .local
 cell : ∀ nm, isCell sc nm = true → (env.kindOf nm = some .cell ∨ env.kindOf nm = some .free) ∧ ∃ a, env.cells.lookup nm = some a
section
variable {α β : Type} {RV : List Addr → β → α → Prop}
theorem SM.operate {t : Sem Value} {x : X V} {vs : List Value} {RV : List Addr → V → Value → Prop} (h : SM S c ρ RV t x) : SM S c ρ RV (operate vs t) x :=
 fun os σ s r σ' hp hl hx Q E hQ => wpAny_operate' (h os σ s r σ' hp hl hx Q E hQ)
theorem SM.release {t : Sem α} {x : X β} {vs ws : List Value} (h : SM S c ρ RV t x) : SM S c ρ RV (do release vs ws; t) x :=
 fun os σ s r σ' hp hl hx Q E hQ => wpAny_bind (wpAny_release' (h os σ s r σ' hp hl hx Q E hQ))
theorem SM.via {t t' : Sem α} {x : X β} (h : SM S c ρ RV t x) (k : ∀ Q E s, wpAny (model S.prog S.w) c.A t Q E s → wpAny (model S.prog S.w) c.A t' Q E s) : SM S c ρ RV t' x :=
 fun os σ s r σ' hp hl hx Q E hQ => k _ _ _ (h os σ s r σ' hp hl hx Q E hQ)
end
theorem T_eq {i : Nat} {nm : Str} (h : nameIs S.nam i nm = true) : S.T[i]? = some nm := of_decide_eq_true h
theorem sm_local {n : Nat} (K : Ctx0 S n c) {loc : Loc} {sc : Scope} (V : VarsOK S c sc ρ loc) {i : Nat} {nm : Str} {pos : Pos} (hn : S.T[i]? = some nm) (hsc : inScope sc nm = true) (hd : (nm == ("__debug__" : Str)) = false) (hc : (nm == ("__classdict__" : Str)) = false) :
  SM S c ρ VR (eval (.Name nm pos) c.env) (X.lift (loc i)) := by
 intro os σ s r σ' hp hl he Q E hQ
 unfold X.lift at he
 split at he
 ·rename_i v hv
  cases he
  obtain ⟨x, h2, h3⟩ := V i v nm hv hn hsc
  have fin := hQ os s.heap s.toks x List.prefix_rfl hl (h3.mono hp)
  refine wpAny_Name ?_ hd
  rcases h2 with ⟨k1, k2⟩ | ⟨k1 | k1, a, o, k2, k3, k4⟩
  ·exact wpAny_loadName_local K.kind k1 (K.locs ▸ hl.fr.ns) k2 fin
  ·exact wpAny_loadName_cell K.kind k1 k2 ⟨o, (hl.news _ (List.mem_append_left _ k3)).1, k4⟩ fin
  ·exact wpAny_loadName_free K.kind k1 k2 ⟨o, (hl.news _ (List.mem_append_left _ k3)).1, k4⟩ fin hc
 ·cases he
theorem sm_top {n : Nat} (K : Ctx0 S n c) {nm : Str} {pos : Pos} {v : Value} {x : V} {RV : List Addr → V → Value → Prop} (hk : c.env.kindOf nm = some .globalImplicit) (hd : (nm == ("__debug__" : Str)) = false) (e : nsIn S.K mainGlobals nm = some (some v)) (h : ∀ ρ, RV ρ x v) :
  SM S c ρ RV (eval (.Name nm pos) c.env) (X.pure x) := by
 intro os σ s r σ' hp hl he Q E hQ
 cases he
 obtain ⟨mg, mb, h1, h2, h3⟩ := K.top
 exact Name_function_global K.kind hk (loadGlobal_global (K.glob ▸ h1.keeps hl.fr.keep) (mg_of K.kin h1 e) (hQ os s.heap s.toks v List.prefix_rfl hl (h _))) hd
theorem sm_boot {n : Nat} (K : Ctx0 S n c) {nm : Str} {pos : Pos} {v : Value} {x : V} {RV : List Addr → V → Value → Prop} (hk : c.env.kindOf nm = some .globalImplicit) (hd : (nm == ("__debug__" : Str)) = false) (e : nsIn S.K mainGlobals nm = some none)
  (hv : bootBuiltins nm = some v) (hn : nm ≠ "__name__") (h : ∀ ρ, RV ρ x v) : SM S c ρ RV (eval (.Name nm pos) c.env) (X.pure x) := by
 intro os σ s r σ' hp hl he Q E hQ
 cases he
 obtain ⟨mg, mb, h1, h2, h3⟩ := K.top
 exact Name_function_global K.kind hk (loadGlobal_builtin (K.glob ▸ h1.keeps hl.fr.keep) (mg_none_of K.kin h1 e) (K.blt ▸ h2.keeps hl.fr.keep) ((h3 nm hn).trans hv) (hQ os s.heap s.toks v List.prefix_rfl hl (h _))) hd
theorem X.pure_bind {α β : Type} (a : α) (f : α → X β) : X.bind (X.pure a) f = f a := by funext σ; rfl
theorem X.bind_assoc {α β γ : Type} (m : X α) (f : α → X β) (g : β → X γ) : X.bind (X.bind m f) g = X.bind m fun a => X.bind (f a) g := by
 funext σ
 unfold X.bind
 cases m σ with
 | none => rfl
 | some p => obtain ⟨r, σ'⟩ := p; cases r <;> rfl
theorem sm_bin {op : Operator} {l r : Expr} {pos : Pos} {x y : X V} (hx : SM S c ρ VR (eval l c.env) x) (hy : SM S c ρ VR (eval r c.env) y) :
  SM S c ρ VR (eval (.BinOp l op r pos) c.env) (X.bind x fun a => X.bind y fun b => binop op a b) := by
 rw [arm_eval_BinOp]
 exact hx.bind fun ρ' a v k ha => (SM.hold (hy.mono k)).bind fun ρ'' b w k' hb => (SM.operate (sm_binop (ha.mono k') hb)).stand
theorem sm_neg {e : Expr} {pos : Pos} {x : X V} (hx : SM S c ρ VR (eval e c.env) x) : SM S c ρ VR (eval (.UnaryOp .USub e pos) c.env) (X.bind x fun a => match a with | .int i => X.pure (.int (-i)) | _ => X.none) := by
 rw [arm_eval_UnaryOp]
 refine hx.bind fun ρ' a v k ha => SM.stand (SM.hold ?_)
 cases a with
 | int i =>
  obtain ⟨t, rfl⟩ := ha
  intro os σ s r σ' hp hl he Q E hQ
  cases he
  exact PySem.P.neg_int (hQ os _ _ _ List.prefix_rfl hl ⟨_, rfl⟩)
 | _ => exact SM.none
theorem sm_not {e : Expr} {pos : Pos} {x : X V} (hx : SM S c ρ VR (eval e c.env) x) : SM S c ρ VR (eval (.UnaryOp .Not e pos) c.env) (X.bind x fun a => X.bind (truth a) fun t => X.pure (.bool (!t))) := by
 rw [arm_eval_UnaryOp]
 refine hx.bind fun ρ' a v k ha => SM.stand (SM.hold ?_)
 refine SM.via (t := truthy v >>= fun b => Pure.pure (.bool (!b))) ((sm_truth ha).bind fun ρ'' b b' k' hb => ?_) fun Q E s h => ?_
 ·subst hb; exact SM.pure fun _ _ => rfl
 ·unfold unaryOp
  exact wpAny_holding h
theorem sm_cmp (hr : Room c) {op : CmpOp} {l r : Expr} {pos : Pos} {x y : X V} (hm : behindInMarks op r = false) (hx : SM S c ρ VR (eval l c.env) x) (hy : SM S c ρ VR (eval r c.env) y) :
  SM S c ρ VR (eval (.Compare l [op] [r] pos) c.env) (X.bind x fun a => X.bind y fun b => cmpop S.P op a b) := by
 rw [arm_eval_Compare]
 refine hx.bind fun ρ' a v k ha => ?_
 have e : markedEach [op] [r] (evalEach [r] c.env) = [eval r c.env] := by simp only [arm_evalEach_cons, arm_evalEach_nil, markedEach, markedBehindIn_of_false hm]
 rw [e]
 exact (SM.hold (hy.mono k)).bind fun ρ'' b w k' hb => (SM.operate (sm_cmpop hr (ha.mono k') hb)).stand
theorem sm_cmp_test (hr : Room c) {op : CmpOp} {l r : Expr} {pos : Pos} {x y : X V} {whole : Sem Value} (hm : behindInMarks op r = false) (hx : SM S c ρ VR (eval l c.env) x) (hy : SM S c ρ VR (eval r c.env) y) :
  SM S c ρ EqR (isTrue (.Compare l [op] [r] pos) c.env whole) (X.bind (X.bind x fun a => X.bind y fun b => cmpop S.P op a b) truth) := by
 rw [arm_isTrue_Compare, X.bind_assoc]
 refine hx.bind fun ρ' a v k ha => ?_
 have e : markedEach [op] [r] (evalEach [r] c.env) = [eval r c.env] := by simp only [arm_evalEach_cons, arm_evalEach_nil, markedEach, markedBehindIn_of_false hm]
 rw [e, X.bind_assoc]
 exact (SM.hold (hy.mono k)).bind fun ρ'' b w k' hb => SM.stand ((SM.operate (sm_cmpop hr (ha.mono k') hb)).bind fun _ _ _ _ h => SM.hold (sm_truth h))
theorem marked2 {o1 o2 : CmpOp} {r1 r2 : Expr} {env : Env} (hm : behindInMarks o2 r2 = false) : markedEach [o1, o2] [r1, r2] (evalEach [r1, r2] env) = [eval r1 env, eval r2 env] := by
 simp only [arm_evalEach_cons, arm_evalEach_nil, markedEach, markedBehindIn_of_false hm]
theorem sm_cmp2 (hr : Room c) {o1 o2 : CmpOp} {l r1 r2 : Expr} {pos : Pos} {x y z : X V} (hm : behindInMarks o2 r2 = false) (hx : SM S c ρ VR (eval l c.env) x) (hy : SM S c ρ VR (eval r1 c.env) y) (hz : SM S c ρ VR (eval r2 c.env) z) :
  SM S c ρ VR (eval (.Compare l [o1, o2] [r1, r2] pos) c.env) (X.bind x fun a => X.bind y fun b => X.bind (cmpop S.P o1 a b) fun r => X.bind (truth r) fun t => if t then X.bind z fun d => cmpop S.P o2 b d else X.pure r) := by
 rw [arm_eval_Compare]
 refine hx.bind fun ρ' a v k ha => ?_
 rw [marked2 hm]
 show SM S c ρ' VR (do
  let rv ← holding [v] (eval r1 c.env)
  standAt pos
  let cv ← holding [v, rv] (compareOp o1 v rv)
  release [v, rv] [cv]
  if ← holding [cv, rv] (truthy cv) then compareChain pos rv [o2] [eval r2 c.env] else pure cv) _
 refine (SM.hold (hy.mono k)).bind fun ρ'' b w k' hb => SM.stand ((SM.hold (sm_cmpop hr (ha.mono k') hb)).bind fun ρ₃ q qv k₃ hq => SM.release ((SM.hold (sm_truth hq)).bind fun ρ₄ t t' k₄ ht => ?_))
 subst ht
 cases t
 ·exact SM.pure fun ρ₅ k₅ => (hq.mono k₄).mono k₅
 ·exact (SM.hold (hz.mono (k.trans (k'.trans (k₃.trans k₄))))).bind fun ρ₅ d dv k₅ hd => (SM.operate (sm_cmpop hr (hb.mono (k₃.trans (k₄.trans k₅))) hd)).stand
theorem cmpop_bool {P : Prog} {op : CmpOp} {a b v : V} {σ σ' : H} (h : cmpop P op a b σ = some (.ok v, σ')) : ∃ q, v = .bool q := by
 have two : ∀ {f : Int → Int → Bool}, (twoInts a b fun x y => some (.ok (.bool (f x y)), σ)) = some (.ok v, σ') → ∃ q, v = .bool q := fun e => by
  obtain ⟨x, y, _, _, e⟩ := twoInts_eq e; cases e; exact ⟨_, rfl⟩
 have eq : ∀ {f : Bool → Bool}, (deq σ a b).map (fun r => ((.ok (.bool (f r)) : R V), σ)) = some (.ok v, σ') → ∃ q, v = .bool q := fun e => by
  obtain ⟨q, _, e⟩ := Option.map_eq_some_iff.mp e; cases e; exact ⟨_, rfl⟩
 have is : ∀ {q : Bool}, onN b (some ((.ok (.bool q) : R V), σ)) = some (.ok v, σ') → ∃ q, v = .bool q := fun e => by
  obtain ⟨_, e⟩ := onN_eq e; cases e; exact ⟨_, rfl⟩
 have con : ∀ {f : Bool → Bool}, X.bind (contains P a b) (fun r => X.pure (.bool (f r))) σ = some (.ok v, σ') → ∃ q, v = .bool q := fun e => by
  rcases X.bind_inv e with ⟨q, σ₁, _, e⟩ | ⟨k, _, e⟩
  ·cases e; exact ⟨_, rfl⟩
  ·cases e
 cases op with
 | Eq => exact eq (f := id) h
 | NotEq => exact eq (f := not) h
 | Lt => exact two (f := fun x y => decide (x < y)) h
 | LtE => exact two (f := fun x y => decide (x ≤ y)) h
 | Gt => exact two (f := fun x y => decide (x > y)) h
 | GtE => exact two (f := fun x y => decide (x ≥ y)) h
 | Is => exact is h
 | IsNot => exact is h
 | In => exact con (f := id) h
 | NotIn => exact con (f := not) h
theorem sm_cmp2_test (hr : Room c) {o1 o2 : CmpOp} {l r1 r2 : Expr} {pos : Pos} {x y z : X V} {whole : Sem Value} (hm : behindInMarks o2 r2 = false) (hx : SM S c ρ VR (eval l c.env) x) (hy : SM S c ρ VR (eval r1 c.env) y) (hz : SM S c ρ VR (eval r2 c.env) z) :
  SM S c ρ EqR (isTrue (.Compare l [o1, o2] [r1, r2] pos) c.env whole) (X.bind (X.bind x fun a => X.bind y fun b => X.bind (cmpop S.P o1 a b) fun r => X.bind (truth r) fun t => if t then X.bind z fun d => cmpop S.P o2 b d else X.pure r) truth) := by
 rw [arm_isTrue_Compare, X.bind_assoc]
 refine hx.bind fun ρ' a v k ha => ?_
 rw [marked2 hm, X.bind_assoc]
 show SM S c ρ' EqR (do
  let rv ← holding [v] (eval r1 c.env)
  standAt pos
  let cv ← holding [v, rv] (compareOp o1 v rv)
  release [v, rv] [cv]
  if ← holding [cv, rv] (truthy cv) then testChain pos rv [o2] [eval r2 c.env] else pure false) _
 refine (SM.hold (hy.mono k)).bind fun ρ'' b w k' hb => SM.stand ?_
 have e : (X.bind (X.bind (cmpop S.P o1 a b) fun r => X.bind (truth r) fun t => if t then X.bind z fun d => cmpop S.P o2 b d else X.pure r) truth) =
   (X.bind (cmpop S.P o1 a b) fun r => X.bind (truth r) fun t => if t then X.bind (X.bind z fun d => cmpop S.P o2 b d) truth else X.pure false) := by
  funext σ
  rw [X.bind_assoc]
  unfold X.bind
  cases hq : cmpop S.P o1 a b σ with
  | none => rfl
  | some p =>
   obtain ⟨q, σ₁⟩ := p
   cases q with
   | err k => rfl
   | ok q =>
    obtain ⟨t, rfl⟩ := cmpop_bool hq
    cases t <;> rfl
 rw [e]
 refine (SM.hold (sm_cmpop hr (ha.mono k') hb)).bind fun ρ₃ q qv k₃ hq => SM.release ((SM.hold (sm_truth hq)).bind fun ρ₄ t t' k₄ ht => ?_)
 subst ht
 cases t
 ·exact SM.pure fun ρ₅ k₅ => rfl
 ·show SM S c ρ₄ EqR (testChain pos w [o2] [eval r2 c.env]) (X.bind (X.bind z fun d => cmpop S.P o2 b d) truth)
  rw [X.bind_assoc]
  exact (SM.hold (hz.mono (k.trans (k'.trans (k₃.trans k₄))))).bind fun ρ₅ d dv k₅ hd => SM.stand ((SM.operate (sm_cmpop hr (hb.mono (k₃.trans (k₄.trans k₅))) hd)).bind fun _ _ _ _ h => SM.hold (sm_truth h))
theorem sm_list {xs : List Expr} {pos : Pos} {x : X (List V)} (h : SM S c ρ VRs (spliced (backTo pos (starEach xs c.env))) x) : SM S c ρ VR (eval (.List xs pos) c.env) (X.bind x fun vs => alloc (.list vs)) := by
 rw [arm_eval_List]
 exact SM.stand (h.bind fun ρ' vs ws k hw => sm_newList hw)
theorem sm_tup {xs : List Expr} {pos : Pos} {k : Nat} {x : X (List V)} (h : SM S c ρ VRs (spliced (backTo pos (starEach xs c.env))) x) : SM S c ρ VR (eval (.Tuple xs k pos) c.env) (X.bind x fun vs => alloc (.tup vs)) := by
 rw [arm_eval_Tuple]
 exact SM.stand (h.bind fun ρ' vs ws k hw => sm_newTuple hw)
theorem sm_dict0 {pos : Pos} : SM S c ρ VR (eval (.Dict [] [] pos) c.env) (alloc (.dict [])) := by
 refine (sm_newDict (S := S) (c := c) (ρ := ρ)).via fun Q E s h => ?_
 rw [arm_eval_Dict]
 exact wpAny_bind (wpAny_standAt h)
theorem base_of {o : Expr} (h : plainBase o = true) (attr : Str) (env : Env) (whole : Sem Value) : attributeBase o attr env whole = whole := by
 cases o <;> first | rfl | cases h
theorem sm_attr (TV : TabOK S) {n : Nat} (K : CtxOK S n c) {e : Expr} {nm : Str} {i : Nat} {pos : Pos} {x : X V} (hn : S.T[i]? = some nm) (hb : plainBase e = true) (hx : SM S c ρ VR (eval e c.env) x) :
  SM S c ρ VR (eval (.Attribute e nm pos) c.env) (X.bind x fun o => getAttr o i) := by
 rw [arm_eval_Attribute, base_of hb]
 refine hx.bind fun ρ' a v k ha => SM.stand ?_
 refine (SM.hold (vs := [v]) (sm_getAttr (ex := true) TV K.kin hn ha)).via fun Q E s h => ?_
 exact wpAny_bind (wpAny_mono h (fun r s' hr => wpAny_bind (wpAny_letTemporaryGo (wpAny_pure hr))) fun _ _ h => h)
theorem sm_sub {e i : Expr} {pos : Pos} {x y : X V} (hi : isSlice i = false) (hx : SM S c ρ VR (eval e c.env) x) (hy : SM S c ρ VR (eval i c.env) y) : SM S c ρ VR (eval (.Subscript e i pos) c.env) (X.bind x fun o => X.bind y fun k => getItem S.P o k) := by
 rw [arm_eval_Subscript]
 refine hx.bind fun ρ' a v k ha => (SM.hold (hy.mono k)).bind fun ρ'' b w k' hb => SM.stand ?_
 refine sm_getItem (value := e) (slice := i) (ha.mono k') hb fun o j => ?_
 cases i <;> first | rfl | cases hi
end Mine.Internal
set_option autoImplicit false
namespace Mine.Internal
open PySem PySem.W PySem.Calls PyProof.Rows
variable {S : Sig} {c : Cx} {ρ : List Addr}
noncomputable def SC (S : Sig) (c : Cx) (ρ₀ : List Addr) (f : Value) (vs : List Value) (x : X V) : Prop :=
 ∀ (os : List (Addr × Obj)) (σ : H) (s : Shared) (r : R V) (σ' : H), ρ₀ <+: adr os → c.led S os σ s.heap → x σ = some (r, σ') →
  ∀ (R : Result → Shared → Prop),
   (match r with
    | .ok b => ∀ os' h' tk a, adr os <+: adr os' → c.led S os' σ' h' → VR (adr os') b a → R (.ok (.ret a)) { s with heap := h', toks := tk }
    | .err k => ∀ os' h' tk e, adr os <+: adr os' → c.led S os' σ' h' → Fly S c os' e k h' → R (.error e) { s with heap := h', toks := tk }) →
   codeAny (model S.prog S.w) c.A (.call f ⟨vs, []⟩) R s
theorem SC.sm {f : Value} {vs : List Value} {x : X V} (h : SC S c ρ f vs x) : SM S c ρ VR (call f vs) x := by
 intro os σ s r σ' hp hl hx Q E hQ
 refine wpAny_call (h os σ s r σ' hp hl hx _ ?_)
 cases r with
 | ok b => exact hQ
 | err k => exact hQ
structure CallsOK (S : Sig) (C : Calls) (n : Nat) : Prop where
 fn : ∀ {c : Cx} {ρ : List Addr} {f : Nat} {A : Addr} {xs : List V} {vs : List Value}, CtxOK S n c → S.fn f = some A → All2 (VR ρ) xs vs → SC S c ρ (.ref A) vs (C false f xs)
 me : ∀ {c : Cx} {ρ : List Addr} {f : Nat} {A : Addr} {xs : List V} {vs : List Value}, CtxOK S n c → S.me f = some A → All2 (VR ρ) xs vs → SC S c ρ (.ref A) vs (C true f xs)
noncomputable def Kept (S : Sig) (f : Value) : Prop := ∀ h, S.K.In h → ∃ k, (k = Keeper.frame ∨ k = Keeper.machine ∨ k = Keeper.boundFrame) ∧ Looks (model S.prog S.w) h (keeperOf f) k
theorem kept_builtin (id : String) : Kept S (.builtin id) := fun _ _ => ⟨.machine, .inr (.inl rfl), Looks.of_pure rfl⟩
theorem kept_type (id : String) : Kept S (.type id) := fun _ _ => ⟨.machine, .inr (.inl rfl), Looks.of_pure rfl⟩
theorem kept_K {f : Value} (h : keepIn S.K f = true) : Kept S f := fun h' X => keeps_K h h' X
noncomputable def NoStar (xs : List Expr) (env : Env) : Prop := (starEach xs env).all (fun x => !x.1) = true
theorem back_noStar {xs : List Expr} {env : Env} {pos : Pos} (h : NoStar xs env) : (backTo pos (starEach xs env)).any (·.1) = false ∧ (backTo pos (starEach xs env)).all (fun x => !x.1) = true := by
 unfold NoStar at h
 have : ∀ l : List (Bool × Sem Value), l.all (fun x => !x.1) = true → (backTo pos l).any (·.1) = false ∧ (backTo pos l).all (fun x => !x.1) = true := by
  intro l
  induction l with
  | nil => intro _; exact ⟨rfl, rfl⟩
  | cons p r ih =>
   intro h
   obtain ⟨b, t⟩ := p
   simp only [List.all_cons, Bool.and_eq_true] at h
   obtain ⟨i1, i2⟩ := ih h.2
   have hb : b = false := by simpa using h.1
   subst hb
   exact ⟨by show (false || _) = false; rw [Bool.false_or]; exact i1, by show (true && _) = true; rw [Bool.true_and]; exact i2⟩
 exact this _ h
theorem callWith_k {n : Nat} (K : Ctx0 S n c) {xs : List Expr} {pos : Pos} {f : Value} {first : List Value} (hf : Kept S f) (hs : NoStar xs c.env) {Q : Value → Shared → Prop} {E : Value → Shared → Prop} {s : Shared}
  (inner : wpAny (model S.prog S.w) c.A (spliced (backTo pos (starEach xs c.env))) (fun ws s' => S.K.In s'.heap ∧ wpAny (model S.prog S.w) c.A (call f (first ++ ws)) Q E s') E s) :
  wpAny (model S.prog S.w) c.A (callWith pos f first (backTo pos (starEach xs c.env)) []) Q E s := by
 have hb := back_noStar (pos := pos) hs
 refine callWith_of (P := S.K.In) (by rw [hb.1]; rfl) hf ?_
 cases hq : backTo pos (starEach xs c.env) with
 | nil =>
  rw [hq] at inner
  unfold evalArgs
  show wpAny _ _ (spliced [] >>= _) _ _ _
  refine wpAny_bind (wpAny_mono inner (fun vs s' h' => ?_) fun _ _ h => h)
  refine wpAny_bind (wpAny_pure (wpAny_holding ?_))
  exact wpAny_bind (wpAny_pure (wpAny_bind (wpAny_pure (wpAny_pure h'))))
 | cons p rest =>
  obtain ⟨b, t⟩ := p
  have hb' : b = false := by
   have := hb.1; rw [hq, List.any_cons] at this
   exact (Bool.or_eq_false_iff.mp this).1
  subst hb'
  rw [hq] at inner
  exact evalArgs_plain inner
theorem sm_callWith {n : Nat} (K : Ctx0 S n c) {xs : List Expr} {pos : Pos} {f : Value} {first : List Value} {β : Type} {RA : List Addr → β → List Value → Prop} {ax : X β} {g : β → X V} (hf : Kept S f) (hs : NoStar xs c.env)
  (ha : SM S c ρ RA (spliced (backTo pos (starEach xs c.env))) ax) (hg : ∀ ρ' vs ws, ρ <+: ρ' → RA ρ' vs ws → SM S c ρ' VR (call f (first ++ ws)) (g vs)) :
  SM S c ρ VR (callWith pos f first (backTo pos (starEach xs c.env)) []) (X.bind ax g) := by
 intro os σ s r σ' hp hl hx Q E hQ
 refine callWith_k K hf hs ?_
 rcases X.bind_inv hx with ⟨vs, σ₁, e1, e2⟩ | ⟨k, e1, rfl⟩
 ·refine ha os σ s _ _ hp hl e1 _ _ fun os' h' tk ws k l' hr => ⟨K.kin.keeps l'.fr.keep, ?_⟩
  refine hg _ vs ws (hp.trans k) hr os' σ₁ { s with heap := h', toks := tk } r σ' List.prefix_rfl l' e2 Q E ?_
  cases r with
  | ok d => exact fun os'' h'' tk' a' k' l'' hr' => hQ os'' h'' tk' a' (k.trans k') l'' hr'
  | err e => exact fun os'' h'' tk' a' k' l'' hr' => hQ os'' h'' tk' a' (k.trans k') l'' hr'
 ·exact ha os σ s _ _ hp hl e1 _ _ hQ
theorem sm_splice {β γ : Type} {x : Sem Value} {rest : List (Bool × Sem Value)} {R1 : List Addr → β → Value → Prop} {R2 : List Addr → γ → List Value → Prop} {ax : X β} {bx : β → X γ} (h1 : SM S c ρ R1 x ax)
  (h2 : ∀ ρ' b v, ρ <+: ρ' → R1 ρ' b v → SM S c ρ' (fun ρ'' g ws => R2 ρ'' g (v :: ws)) (spliced rest) (bx b)) : SM S c ρ R2 (spliced ((false, x) :: rest)) (X.bind ax bx) := by
 intro os σ s r σ' hp hl hx Q E hQ
 refine spliced_cons ?_
 rcases X.bind_inv hx with ⟨b, σ₁, e1, e2⟩ | ⟨k, e1, rfl⟩
 ·refine h1 os σ s _ _ hp hl e1 _ _ fun os' h' tk v k l' hr => ?_
  refine h2 _ b v (hp.trans k) hr os' σ₁ { s with heap := h', toks := tk } r σ' List.prefix_rfl l' e2 _ E ?_
  cases r with
  | ok d => exact fun os'' h'' tk' a' k' l'' hr' => hQ os'' h'' tk' (v :: a') (k.trans k') l'' hr'
  | err e => exact fun os'' h'' tk' a' k' l'' hr' => hQ os'' h'' tk' a' (k.trans k') l'' hr'
 ·exact h1 os σ s _ _ hp hl e1 _ _ hQ
noncomputable abbrev veL : List Value := [.type "ValueError", .type "Exception", .type "BaseException", .type "object"]
noncomputable def bmOf (S : Sig) (C : Addr) : List Value := if C = S.xp then veL else .ref S.xp :: veL
noncomputable def ExOb (h : Heap) (C : Addr) (bm : List Value) : Prop := ∃ N nm q bs hdct sn sub ab col dd k0 k1 k2 k3 k5 mN, h.get? C = some (excClassObj nm q C N bs bm hdct sn sub ab col dd k0 k1 k2 k3 k5 "ValueError.__new__") ∧ h.Ns N mN ∧ mN "__init__" = none ∧ OwnTail h veL bm
structure ExQ (K : Frag) (C : Addr) : Prop where
 ga : findIn K (.ref C) "__getattribute__" = some (some (.builtin "BaseException.__getattribute__"))
 gt : findIn K (.ref C) "__getattr__" = some none
 cl : findIn K (.ref C) "__class__" = some (some (.builtin "object.__class__"))
 mo : mroIn K C (.type "object") = some true
 mb : mroIn K C (.type "BaseException") = some true
 is : (clsIn K C).isSome = true
structure SigOK (S : Sig) : Prop where
 tab : TabOK S
 globs : ∀ i v, S.P.globs.lookup i = some v → ∃ nm x, S.T[i]? = some nm ∧ nsIn S.K mainGlobals nm = some (some x) ∧ ∀ ρ, adr S.fz <+: ρ → VR ρ v x
 tabs : ([] : List Nat) = []
 fns : ∀ i A, S.fn i = some A → ∃ nm, S.T[i]? = some nm ∧ nsIn S.K mainGlobals nm = some (some (.ref A)) ∧ keepIn S.K (.ref A) = true
 bis : ∀ b, nsIn S.K mainGlobals (biName b) = some none
 isi : nsIn S.K mainGlobals "isinstance" = some none
 kls : ∀ k ≤ isB, nsIn S.K mainGlobals (clsName k) = some none
 mes : ∀ i A, S.me i = some A → ∃ nm, S.T[i]? = some nm ∧ i ∉ S.P.attrs ∧ keepIn S.K (.ref A) = true ∧ isFn S.K (.ref A) = true ∧ ∀ k C, S.cls k = some C → plainGet S.K C nm = true ∧ findIn S.K (.ref C) nm = some (some (.ref A))
 cls : ∀ i C, S.cls i = some C → ∃ nm, S.T[i]? = some nm ∧ nsIn S.K mainGlobals nm = some (some (.ref C)) ∧ keepIn S.K (.ref C) = true ∧ makesIn S.K C = true
 init : True
 nApp : S.T[idAppend]? = some ("append" : Str)
 nPop : S.T[idPop]? = some ("pop" : Str)
 nClr : S.T[idClear]? = some ("clear" : Str)
 nSpl : S.T[idSplit]? = some ("split" : Str)
 nJoi : S.T[idJoin]? = some ("join" : Str)
 exs : ∀ i C, S.ex i = some C → ∃ nm, S.T[i]? = some nm ∧ nsIn S.K mainGlobals nm = some (some (.ref C)) ∧ ∀ h, S.K.In h → ExOb h C (bmOf S C)
 exi : ∀ i j C, S.ex i = some C → S.ex j = some C → i = j
 exb : ∀ i C, S.ex i = some C → (i = S.P.xb ↔ C = S.xp)
 exq : ∀ i C, S.ex i = some C → ExQ S.K C
 exk : ∀ i j C D, S.ex i = some C → S.ex j = some D → kitOne S.K (.ref C) (.ref D) = some (decide (i = j ∨ j = S.P.xb))
 exv : nsIn S.K mainGlobals "ValueError" = some none ∧ ∀ i C, S.ex i = some C → kitOne S.K (.ref C) (.type "ValueError") = some true
theorem bi_boot (b : Bi) : bootBuiltins (biName b) = some (biVal b) := by cases b <;> decide +kernel
theorem cls_boot {k : Nat} (h : k ≤ isB) : bootBuiltins (clsName k) = some (.type (clsName k)) := by
 match k, h with
 | 0, _ => decide +kernel
 | 1, _ => decide +kernel
 | 2, _ => decide +kernel
 | 3, _ => decide +kernel
 | 4, _ => decide +kernel
theorem isi_boot : bootBuiltins "isinstance" = some (.builtin "isinstance") := by decide +kernel
theorem bi_ne (b : Bi) : biName b ≠ "__name__" := by cases b <;> decide +kernel
theorem cls_ne {k : Nat} (h : k ≤ isB) : (clsName k : Str) ≠ "__name__" := by
 match k, h with
 | 0, _ => decide +kernel
 | 1, _ => decide +kernel
 | 2, _ => decide +kernel
 | 3, _ => decide +kernel
 | 4, _ => decide +kernel
theorem kept_bi (b : Bi) : Kept S (biVal b) := by cases b <;> first | exact kept_builtin _ | exact kept_type _
theorem sm_Call {xs : List Expr} {nm : Str} {p pos : Pos} {f : Value} {x : X V} (hn : SM S c ρ (fun _ _ v => v = f) (eval (.Name nm p) c.env) (X.pure V.none))
  (hc : SM S c ρ VR (callWith pos f [] (backTo pos (starEach xs c.env)) []) x) : SM S c ρ VR (eval (.Call (.Name nm p) xs [] pos) c.env) x := by
 have key : SM S c ρ VR (eval (.Name nm p) c.env >>= fun f => callWith pos f [] (backTo pos (starEach xs c.env)) []) (X.bind (X.pure V.none) fun _ => x) :=
  hn.bind fun ρ' _ v k h => by subst h; exact hc.mono k
 rw [X.pure_bind] at key
 exact key.eq (by rw [arm_eval_Call_Name']; rfl)
theorem sm_call {n : Nat} (K : CtxOK S (n + 2) c) (OK : SigOK S) {sc : Scope} (SO : ScOK sc c.env) {C : Calls} (HC : CallsOK S C n) {xs : List Expr} {nm : Str} {p pos : Pos} {f : Nat} {ax : X (List V)} (hn : S.T[f]? = some nm) (hg : isGlob sc nm = true) (hf : (S.fn f).isSome = true)
  (hs : NoStar xs c.env) (ha : SM S c ρ VRs (spliced (backTo pos (starEach xs c.env))) ax) : SM S c ρ VR (eval (.Call (.Name nm p) xs [] pos) c.env) (X.bind ax fun vs => C false f vs) := by
 obtain ⟨A, hA⟩ := Option.isSome_iff_exists.mp hf
 obtain ⟨nm', h1, h2, h3⟩ := OK.fns f A hA
 rw [hn] at h1; cases h1
 have hg' := Bool.and_eq_true_iff.mp hg
 refine sm_Call (f := .ref A) (sm_top K.toCtx0 (SO.glob _ (of_decide_eq_true hg'.1)) (by simpa using hg'.2) h2 fun _ => rfl) ?_
 exact sm_callWith K.toCtx0 (kept_K h3) hs ha fun ρ' vs ws k h => (HC.fn (K.le (Nat.le_add_right _ _)) hA h).sm
theorem sm_bi {n : Nat} (K : CtxOK S n c) (OK : SigOK S) {sc : Scope} (SO : ScOK sc c.env) {xs : List Expr} {nm : Str} {p pos : Pos} {b : Bi} {ax : X (List V)} (hn : nm = biName b) (hg : isGlob sc nm = true)
  (hs : NoStar xs c.env) (ha : SM S c ρ VRs (spliced (backTo pos (starEach xs c.env))) ax) : SM S c ρ VR (eval (.Call (.Name nm p) xs [] pos) c.env) (X.bind ax fun vs => builtin b vs) := by
 subst hn
 have hg' := Bool.and_eq_true_iff.mp hg
 refine sm_Call (f := biVal b) (sm_boot K.toCtx0 (SO.glob _ (of_decide_eq_true hg'.1)) (by simpa using hg'.2) (OK.bis b) (bi_boot b) (bi_ne b) fun _ => rfl) ?_
 exact sm_callWith K.toCtx0 (kept_bi b) hs ha fun ρ' vs ws k h => sm_builtin K.hand h
theorem sm_isinst {n : Nat} (K : CtxOK S n c) (OK : SigOK S) {sc : Scope} (SO : ScOK sc c.env) {e : Expr} {cn : Str} {p q pos : Pos} {k : Nat} {x : X V} (hg : isGlob sc "isinstance" = true) (hcg : isGlob sc cn = true) (hk : k ≤ isB) (hcn : cn = (clsName k : Str))
  (hs : NoStar [e, .Name cn q] c.env) (he : starEach [e, .Name cn q] c.env = [(false, eval e c.env), (false, eval (.Name cn q) c.env)]) (hx : SM S c ρ VR (eval e c.env) x) :
  SM S c ρ VR (eval (.Call (.Name "isinstance" p) [e, .Name cn q] [] pos) c.env) (X.bind x fun v => X.bind (isinsts S.P v [k]) fun b => X.pure (.bool b)) := by
 subst hcn
 have hg' := Bool.and_eq_true_iff.mp hg
 have hcg' := Bool.and_eq_true_iff.mp hcg
 refine sm_Call (f := .builtin "isinstance") (sm_boot K.toCtx0 (SO.glob _ (of_decide_eq_true hg'.1)) (by simpa using hg'.2) OK.isi isi_boot (by decide +kernel) fun _ => rfl) ?_
 have key : SM S c ρ (fun ρ' v ws => ∃ w, ws = [w, .type (clsName k)] ∧ VR ρ' v w) (spliced (backTo pos (starEach [e, .Name (clsName k) q] c.env))) (X.bind x fun v => X.bind (X.pure V.none) fun _ => X.pure v) := by
  rw [he]
  refine sm_splice hx fun ρ' v w k' hv => ?_
  refine sm_splice (sm_boot (x := V.none) (RV := fun _ _ u => u = .type (clsName k)) K.toCtx0 (SO.glob _ (of_decide_eq_true hcg'.1)) (by simpa using hcg'.2) (OK.kls k hk) (cls_boot hk) (cls_ne hk) fun _ => rfl) fun ρ'' _ u k'' hu => ?_
  subst hu
  exact SM.pure fun ρ₃ k₃ => ⟨w, rfl, (hv.mono k'').mono k₃⟩
 refine (sm_callWith (RA := fun ρ' v ws => ∃ w, ws = [w, .type (clsName k)] ∧ VR ρ' v w) (g := fun v => X.bind (isinsts S.P v [k]) fun b => X.pure (.bool b)) K.toCtx0 (kept_builtin "isinstance") hs key fun ρ' v ws k' h => ?_).eqx ?_
 ·obtain ⟨w, rfl, hw⟩ := h
  exact sm_isi hw hk
 ·rw [X.bind_assoc]; rfl
end Mine.Internal
set_option autoImplicit false
namespace Mine.Internal
open PySem PySem.W PySem.Calls PyProof.Rows
variable {S : Sig} {c : Cx} {ρ : List Addr}
theorem methodCall_of {α : Type} {o : Expr} {name : Str} {apos pos : Pos} {env : Env} {ov : Value} {n : Nat} {args : List (Bool × Sem Value)} {M : Model} {A : Around} {E : Value → Shared → Prop} {s : Shared} {Q : Value → Shared → Prop} {f : Value} {first : List Value}
  (_ : α) (hform : methodCallForm n args [] = true) (hline : (apos.endLine == pos.line) = true)
  (hm : ∀ Q' : Value × List Value → Shared → Prop, Q' (f, first) s → wpAny M A (getMethod ov name (do return (← importBound o env).getD true)) Q' E s)
  (h : wpAny M A (callWith pos f first args []) Q E s) : wpAny M A (methodCall o name apos pos env ov n args []) Q E s := by
 unfold methodCall
 have hpos : methodCallPos true o env apos pos = pure pos := by unfold methodCallPos; simp [hline]
 rw [hform]
 refine wpAny_bind (wpAny_holding ?_)
 show wpAny M A (getMethod ov name _) _ E s
 exact hm _ (wpAny_bind (wpAny_of_eq hpos h))
theorem kdOf_list {v : V} {σ : H} (h : kdOf v σ = .list) : ∃ k xs, v = .ref k ∧ σ.get k = some (.list xs) := by
 unfold kdOf at h
 split at h
 ·split at h
  ·split at h <;> cases h
  ·rename_i e; exact ⟨_, _, rfl, e⟩
  ·cases h
  ·cases h
 ·cases h
 ·cases h
theorem kdOf_dict {v : V} {σ : H} (h : kdOf v σ = .dict) : ∃ k xs, v = .ref k ∧ σ.get k = some (.dict xs) := by
 unfold kdOf at h
 split at h
 ·split at h
  ·split at h <;> cases h
  ·cases h
  ·rename_i e; exact ⟨_, _, rfl, e⟩
  ·cases h
 ·cases h
 ·cases h
theorem kdOf_inst {v : V} {σ : H} (h : kdOf v σ = .inst) : ∃ k q d es, v = .ref k ∧ σ.get k = some (.inst q d) ∧ σ.get d = some (.attrs es) := by
 unfold kdOf at h
 split at h
 ·split at h
  ·rename_i e
   split at h
   ·rename_i e2; exact ⟨_, _, _, _, rfl, e, e2⟩
   ·cases h
  ·cases h
  ·cases h
  ·cases h
 ·cases h
 ·cases h
theorem kdOf_str {v : V} {σ : H} (h : kdOf v σ = .str) : ∃ s, v = .str s := by
 cases v with
 | str s => exact ⟨s, rfl⟩
 | ref a =>
  unfold kdOf at h
  dsimp only at h
  cases ha : σ.get a with
  | none => rw [ha] at h; cases h
  | some o =>
   rw [ha] at h
   cases o <;> first | cases h; done | (dsimp only at h; split at h <;> cases h)
 | _ => cases h
theorem sm_meth {n : Nat} (K : CtxOK S (n + 2) c) (OK : SigOK S) {C : Calls} (HC : CallsOK S C n) {o : Expr} {xs : List Expr} {nm : Str} {i : Nat} {apos pos : Pos} {x : X V} {ax : X (List V)} (hn : S.T[i]? = some nm) (hb : plainBase o = true) (hline : (apos.endLine == pos.line) = true)
  (hlen : xs.length < 30) (hi : i ≤ 12 ∨ (S.me i).isSome = true) (hs : NoStar xs c.env) (hx : SM S c ρ VR (eval o c.env) x) (ha : SM S c ρ VRs (spliced (backTo pos (starEach xs c.env))) ax) :
  SM S c ρ VR (eval (.Call (.Attribute o nm apos) xs [] pos) c.env) (X.bind x fun ov => fun h => match kdOf ov h with
   | .inst => if i ≤ 12 then none else X.bind ax (fun vs => C true i (ov :: vs)) h
   | .list => if i = idAppend ∨ i = idPop then X.bind ax (fun vs => listMeth S.P ov i vs) h else none
   | .dict => if i = idPop then X.bind ax (fun vs => dictMeth S.P ov i vs) h else none
   | .str => if i = idSplit ∨ i = idJoin then X.bind ax (fun vs => strMeth ov i vs) h else none
   | _ => none) := by
 rw [arm_eval_Call, base_of hb]
 refine hx.bind fun ρ' a v k hv => SM.stand ?_
 show SM S c ρ' VR (methodCall o nm apos pos c.env v (xs.length + 0) (backTo pos (starEach xs c.env)) []) _
 have hform : methodCallForm (xs.length + 0) (backTo pos (starEach xs c.env)) [] = true := by
  unfold methodCallForm
  rw [(back_noStar hs).2]
  simp [hlen]
 have ha' := ha.mono k
 intro os σ s r σ' hp hl he Q E hQ
 cases hk : kdOf a σ with
 | inst =>
  dsimp only at he
  rw [hk] at he
  dsimp only at he
  split at he
  ·cases he
  ·rename_i hi'
   obtain ⟨A, hA⟩ := Option.isSome_iff_exists.mp (hi.resolve_left hi')
   obtain ⟨nm', h1, h2, h3, h4, h5⟩ := OK.mes i A hA
   rw [hn] at h1; cases h1
   obtain ⟨q, cl, d, es, rfl, e1, e2⟩ := kdOf_inst hk
   obtain ⟨B, o1, rfl, _, _, ⟨Cl, D, hC, hD, rfl⟩, g1, _⟩ := hl.ref hp e1 hv
   obtain ⟨D', o2, _, eD, ⟨es', n', rfl, hes, hz⟩, g2, _⟩ := hl.at e2
   rw [hD] at eD; cases eD
   have I : InstAt s.heap B ⟨.ref Cl, some D, .plain, #[]⟩ Cl (some (dictOf es' n')) := ⟨g1, rfl, rfl, g2⟩
   have hg : getL nm es' = some none := by
    rcases attrs_get OK.tab hn hes with ⟨_, e⟩ | ⟨v', w, e, _, _⟩
    ·exact e
    ·exact absurd (attrs_mem hes e) h2
   refine methodCall_of () hform hline (fun Q' q' => method_inst hl.fr K.kin I (h5 _ _ hC).1 (h5 _ _ hC).2 h4 hg q') ?_
   exact sm_callWith K.toCtx0 (kept_K h3) hs ha' (fun ρ'' vs ws k' h => (HC.me (K.le (Nat.le_add_right _ _)) hA (.cons (hv.mono k') h)).sm) os σ s r σ' hp hl he Q E hQ
 | list =>
  dsimp only at he
  rw [hk] at he
  dsimp only at he
  split at he
  ·rename_i hi'
   obtain ⟨q, ys, rfl, e1⟩ := kdOf_list hk
   obtain ⟨B, o1, rfl, _, _, ⟨vs, m, rfl, hvs, _⟩, g1, _⟩ := hl.ref hp e1 hv
   have hT : s.TypeIs (.ref B) "list" := ⟨_, g1, rfl⟩
   have hd : ∀ a, Value.ref B = .ref a → ∃ ob, s.heap.get? a = some ob ∧ ob.dict = none := fun a e => by cases e; exact ⟨_, g1, rfl⟩
   rcases hi' with rfl | rfl
   ·rw [OK.nApp] at hn; cases hn
    refine methodCall_of () hform hline (fun Q' q' => getMethod_builtin hT PySem.F.plainAttrs_list PySem.F.slot_list_append PySem.F.type_list_append hd q') ?_
    exact sm_callWith K.toCtx0 (kept_builtin _) hs ha' (fun ρ'' vs ws k' h => sm_append (hv.mono k') h) os σ s r σ' hp hl he Q E hQ
   ·rw [OK.nPop] at hn; cases hn
    refine methodCall_of () hform hline (fun Q' q' => getMethod_builtin hT PySem.F.plainAttrs_list PySem.F.slot_list_pop PySem.F.type_list_pop hd q') ?_
    exact sm_callWith K.toCtx0 (kept_builtin _) hs ha' (fun ρ'' vs ws k' h => sm_pop (hv.mono k') h) os σ s r σ' hp hl he Q E hQ
  ·cases he
 | dict =>
  dsimp only at he
  rw [hk] at he
  dsimp only at he
  split at he
  ·rename_i hi'
   subst hi'
   obtain ⟨q, ys, rfl, e1⟩ := kdOf_dict hk
   obtain ⟨B, o1, rfl, _, _, ⟨es', m, kvs, rfl, k1, k2, k3, k4, hz⟩, g1, _⟩ := hl.ref hp e1 hv
   have hT : s.TypeIs (.ref B) "dict" := ⟨_, g1, rfl⟩
   have hd : ∀ a, Value.ref B = .ref a → ∃ ob, s.heap.get? a = some ob ∧ ob.dict = none := fun a e => by cases e; exact ⟨_, g1, rfl⟩
   rw [OK.nPop] at hn; cases hn
   refine methodCall_of () hform hline (fun Q' q' => getMethod_builtin hT PySem.F.plainAttrs_dict PySem.F.slot_dict_pop PySem.F.type_dict_pop hd q') ?_
   exact sm_callWith K.toCtx0 (kept_builtin _) hs ha' (fun ρ'' vs ws k' h => sm_dpop (hv.mono k') h) os σ s r σ' hp hl he Q E hQ
  ·cases he
 | str =>
  dsimp only at he
  rw [hk] at he
  dsimp only at he
  split at he
  ·rename_i hi'
   obtain ⟨st, rfl⟩ := kdOf_str hk
   obtain ⟨t, rfl, hst⟩ := id hv
   rcases hi' with rfl | rfl
   ·rw [OK.nSpl] at hn; cases hn
    refine methodCall_of () hform hline (fun Q' q' => by with_reducible exact PySem.GM.split q') ?_
    exact sm_callWith K.toCtx0 (kept_builtin _) hs ha' (fun ρ'' vs ws k' h => sm_split (hv.mono k') h) os σ s r σ' hp hl he Q E hQ
   ·rw [OK.nJoi] at hn; cases hn
    refine methodCall_of () hform hline (fun Q' q' => by with_reducible exact PySem.GM.join q') ?_
    exact sm_callWith K.toCtx0 (kept_builtin _) hs ha' (fun ρ'' vs ws k' h => sm_join (hv.mono k') h) os σ s r σ' hp hl he Q E hQ
  ·cases he
 | other => dsimp only at he; rw [hk] at he; cases he
end Mine.Internal
set_option autoImplicit false
namespace Mine.Internal
open PySem PySem.W PySem.Calls PyProof.Rows
variable {S : Sig} {c : Cx} {ρ : List Addr}
section
variable {h₀ h h' : Heap} {L : Addr} {m : Str → Option Value} {fs : Fs} {k1 k2 kp os : List (Addr × Obj)} {σ : H} {a I : Addr} {x x' : Obj}
theorem mid_mem {p : Addr × Obj} (hp : p ∈ (k1 ++ (a, x) :: k2) ++ os) : p = (a, x) ∨ p ∈ k1 ++ k2 ++ os := by
 simp only [List.mem_append, List.mem_cons] at hp ⊢
 rcases hp with (q | q | q) | q
 ·exact .inr (.inl (.inl q))
 ·exact .inl q
 ·exact .inr (.inl (.inr q))
 ·exact .inr (.inr q)
theorem adr_mid : adr (k1 ++ (a, x) :: k2 ++ os) = adr k1 ++ a :: (adr k2 ++ adr os) := by simp [adr]
theorem Led.kmid (l : Led S h₀ L m fs (k1 ++ (a, x) :: k2) os σ h) : h.get? a = some x ∧ a ≠ L ∧ h₀.get? a = none ∧ (∀ f ∈ fs, f.1 ≠ a) ∧ (∀ p ∈ k1 ++ k2 ++ os, p.1 ≠ a) := by
 have hm : (a, x) ∈ (k1 ++ (a, x) :: k2) ++ os := by simp
 refine ⟨(l.news _ hm).1, (l.news _ hm).2.1, (l.news _ hm).2.2, fun f hf e => (l.outs f hf).2.2.2 (by rw [e]; exact List.mem_map.mpr ⟨_, hm, rfl⟩), fun p hp e => ?_⟩
 have nd := l.nd
 rw [adr_mid] at nd
 obtain ⟨_, n2, n3⟩ := List.nodup_append.mp nd
 rcases List.mem_append.mp hp with hp | hp
 ·rcases List.mem_append.mp hp with hp | hp
  ·exact n3 p.1 (List.mem_map_of_mem hp) a (.head _) e
  ·exact (List.nodup_cons.mp n2).1 (e ▸ List.mem_append_left _ (List.mem_map_of_mem hp))
 ·exact (List.nodup_cons.mp n2).1 (e ▸ List.mem_append_right _ (List.mem_map_of_mem hp))
theorem Led.core {W W' : List (Addr × Obj)} (l : Led S h₀ L m fs (k1 ++ (W ++ k2)) os σ h) (hk : ∀ c o, c ∉ adr W → h.get? c = some o → h'.get? c = some o) (sub : (adr W').Sublist (adr W)) (hW : ∀ p ∈ W', h'.get? p.1 = some p.2) : Led S h₀ L m fs (k1 ++ (W' ++ k2)) os σ h' := by
 have ea : adr (k1 ++ (W ++ k2) ++ os) = adr k1 ++ (adr W ++ (adr k2 ++ adr os)) := by simp [adr]
 have eb : adr (k1 ++ (W' ++ k2) ++ os) = adr k1 ++ (adr W' ++ (adr k2 ++ adr os)) := by simp [adr]
 have sl : (adr (k1 ++ (W' ++ k2) ++ os)).Sublist (adr (k1 ++ (W ++ k2) ++ os)) := by rw [ea, eb]; exact List.Sublist.append_left (List.Sublist.append_right sub _) _
 have inW : ∀ {a}, a ∈ adr W → a ≠ L ∧ h₀.get? a = none := fun {a} ha => by
  obtain ⟨p, hp, rfl⟩ := List.mem_map.mp ha
  exact (l.news p (List.mem_append_left _ (List.mem_append_right _ (List.mem_append_left _ hp)))).2
 have nd := l.nd
 rw [ea] at nd
 obtain ⟨_, n2, n3⟩ := List.nodup_append.mp nd
 obtain ⟨_, _, n6⟩ := List.nodup_append.mp n2
 have kept : ∀ p, p ∈ k1 ++ (W ++ k2) ++ os → p.1 ∉ adr W → h'.get? p.1 = some p.2 ∧ p.1 ≠ L ∧ h₀.get? p.1 = none := fun p hp hn => ⟨hk _ _ hn (l.news p hp).1, (l.news p hp).2⟩
 refine ⟨⟨l.fr.ns.at' fun o e => hk _ o (fun q => (inW q).1 rfl) e, fun b o e => hk b o (fun q => by rw [(inW q).2] at e; cases e) (l.fr.keep b o e), l.fr.above⟩, fun p hp => ?_, l.nd.sublist sl, l.objs,
  fun f hf => ⟨(l.outs f hf).1.at' fun o e => hk _ o (fun q => (l.outs f hf).2.2.2 (by rw [ea]; exact List.mem_append_right _ (List.mem_append_left _ q))) e, (l.outs f hf).2.1, (l.outs f hf).2.2.1, fun q => (l.outs f hf).2.2.2 (sl.subset q)⟩, l.top, fun b hb => l.big b (sl.subset hb), l.frz⟩
 rcases List.mem_append.mp hp with hp | hp
 ·rcases List.mem_append.mp hp with hp | hp
  ·exact kept p (List.mem_append_left _ (List.mem_append_left _ hp)) fun q => n3 _ (List.mem_map_of_mem hp) _ (List.mem_append_left _ q) rfl
  ·rcases List.mem_append.mp hp with hp | hp
   ·exact ⟨hW p hp, inW (sub.subset (List.mem_map_of_mem hp))⟩
   ·exact kept p (List.mem_append_left _ (List.mem_append_right _ (List.mem_append_right _ hp))) fun q => n6 _ q _ (List.mem_append_left _ (List.mem_map_of_mem hp)) rfl
 ·exact kept p (List.mem_append_right _ hp) fun q => n6 _ q _ (List.mem_append_right _ (List.mem_map_of_mem hp)) rfl
theorem not_one {c : Addr} (h : c ∉ adr [(a, x)]) : c ≠ a := fun e => h (List.mem_singleton.mpr e)
theorem Led.kset (l : Led S h₀ L m fs (k1 ++ (a, x) :: k2) os σ h) (hs : Heap.SameBut a h h') (hx : h'.get? a = some x') : Led S h₀ L m fs (k1 ++ (a, x') :: k2) os σ h' :=
 Led.core (W := [(a, x)]) (W' := [(a, x')]) l (fun c o hc e => (hs.2 c (not_one hc)).trans e) (List.Sublist.refl _) fun p hp => by rw [List.mem_singleton.mp hp]; exact hx
theorem Led.extBut (l : Led S h₀ L m fs (k1 ++ (a, x) :: k2) os σ h) (hs : Heap.ExtBut a h h') : Led S h₀ L m fs (k1 ++ k2) os σ h' :=
 Led.core (W := [(a, x)]) (W' := []) l (fun c o hc e => hs c o (not_one hc) e) (List.nil_sublist _) fun p hp => nomatch hp
theorem Led.kdrop (l : Led S h₀ L m fs (k1 ++ (a, x) :: k2) os σ h) : Led S h₀ L m fs (k1 ++ k2) os σ h := l.extBut fun _ _ _ e => e
theorem Led.kdrops {cs : List (Addr × Obj)} (l : Led S h₀ L m fs (kp ++ cs) os σ h) : Led S h₀ L m fs kp os σ h := by
 have l' := Led.core (W := cs) (W' := []) (k1 := kp) (k2 := []) (h' := h) (by rw [List.append_nil]; exact l) (fun _ _ _ e => e) (List.nil_sublist _) fun p hp => nomatch hp
 rwa [List.append_nil, List.append_nil] at l'
theorem Led.kadd (l : Led S h₀ L m fs kp os σ h) {q : Addr} (hx : h.get? q = some x) (q1 : q ≠ L) (q2 : h₀.get? q = none) (q3 : q ∉ adr (kp ++ os)) (q4 : ∀ f ∈ fs, f.1 ≠ q) (hq : mainGlobals < q) :
  Led S h₀ L m fs (kp ++ (q, x) :: []) os σ h := by
 have mem : ∀ p, p ∈ (kp ++ (q, x) :: []) ++ os → p = (q, x) ∨ p ∈ kp ++ os := fun p hp => by
  have := mid_mem hp
  rwa [List.append_nil] at this
 refine ⟨l.fr, fun p hp => ?_, ?_, l.objs, fun f hf => ⟨(l.outs f hf).1, (l.outs f hf).2.1, (l.outs f hf).2.2.1, fun hm => ?_⟩, l.top, fun b hb => ?_, l.frz⟩
 ·rcases mem p hp with rfl | hp
  ·exact ⟨hx, q1, q2⟩
  ·exact l.news p hp
 ·have nd := l.nd
  unfold adr at nd q3 ⊢
  rw [List.map_append] at nd q3
  obtain ⟨n1, n2, n3⟩ := List.nodup_append.mp nd
  rw [List.append_assoc, List.map_append, List.cons_append, List.nil_append, List.map_cons]
  refine List.nodup_append.mpr ⟨n1, List.nodup_cons.mpr ⟨fun e => q3 (List.mem_append_right _ e), n2⟩, fun b hb d hd e => ?_⟩
  rcases List.mem_cons.mp hd with rfl | hd
  ·exact q3 (List.mem_append_left _ (e ▸ hb))
  ·exact n3 b hb d hd e
 ·obtain ⟨p, hp, e⟩ := List.mem_map.mp hm
  rcases mem p hp with rfl | hp
  ·exact q4 f hf e.symm
  ·exact (l.outs f hf).2.2.2 (e ▸ List.mem_map_of_mem hp)
 ·obtain ⟨p, hp, rfl⟩ := List.mem_map.mp hb
  rcases mem p hp with rfl | hp
  ·exact notMods hq
  ·exact l.big _ (List.mem_map_of_mem hp)
theorem Led.knew (l : Led S h₀ L m fs kp os σ h) {q : Addr} (k : ∀ b o, h.get? b = some o → h'.get? b = some o) (hf : h.get? q = none) (hq : mainGlobals < q) (hx : h'.get? q = some x) : Led S h₀ L m fs (kp ++ (q, x) :: []) os σ h' :=
 let ⟨q1, q2, q3, q4⟩ := l.free hf
 (l.keep k).kadd hx q1 q2 q3 q4 hq
theorem Led.kpush (l : Led S h₀ L m fs kp os σ h) (hx : x.isFreed = false) : Led S h₀ L m fs (kp ++ (h.objs.size, x) :: []) os σ (h.push x) :=
 l.knew (fun _ _ e => Heap.get?_push_of_some _ e) (get_size h) l.room (Heap.get?_push_size _ hx)
end
theorem Led.kadds {h₀ h : Heap} {L : Addr} {m : Str → Option Value} {fs : Fs} {os : List (Addr × Obj)} {σ : H} : ∀ {cs kp : List (Addr × Obj)}, Led S h₀ L m fs kp os σ h → (adr cs).Nodup → (∀ q ∈ cs, h.get? q.1 = some q.2 ∧ q.1 ≠ L ∧ h₀.get? q.1 = none ∧ q.1 ∉ adr (kp ++ os) ∧ (∀ f ∈ fs, f.1 ≠ q.1) ∧ mainGlobals < q.1) →
  Led S h₀ L m fs (kp ++ cs) os σ h
 | [], kp, l, _, _ => by simpa using l
 | q :: cs, kp, l, nd, hq => by
  obtain ⟨a, x⟩ := q
  obtain ⟨g1, g2, g3, g4, g5, g6⟩ := hq _ (.head _)
  have l' := l.kadd g1 g2 g3 g4 g5 g6
  simp only [adr, List.map_cons, List.nodup_cons] at nd
  have := Led.kadds (cs := cs) l' nd.2 fun q' hq' => by
   obtain ⟨e1, e2, e3, e4, e5, e6⟩ := hq q' (.tail _ hq')
   refine ⟨e1, e2, e3, fun hm => ?_, e5, e6⟩
   obtain ⟨p, hp, e⟩ := List.mem_map.mp hm
   rcases mid_mem hp with rfl | hp
   ·exact nd.1 (List.mem_map.mpr ⟨q', hq', e.symm⟩)
   ·rw [List.append_nil] at hp
    exact e4 (e ▸ List.mem_map_of_mem hp)
  simpa using this
noncomputable def ItAt (h : Heap) (I : Addr) (ρ : List Addr) (v : V) (σ : H) (i : Nat) : Prop := match v with
 | .ref a => ∃ A, ρ[a]? = some A ∧ (match σ.get a with
  | some (.list _) => h.IsListIter I A i
  | some (.tup _) => h.IsTupleIter I A i
  | some (.rng x y z) => IsRangeIter h I (x + (i : Int) * z) (((rangeList x y z).length : Int) - (i : Int)) z
  | _ => False)
 | .str st => ∃ t, h.IsStrIter I "str_ascii_iterator" st t i
 | _ => False
theorem ItAt.at {h h' : Heap} {I : Addr} {ρ ρ' : List Addr} {v : V} {σ σ' : H} {i : Nat} (t : ItAt h I ρ v σ i) (k : ∀ o, h.get? I = some o → h'.get? I = some o) (kρ : ρ <+: ρ') (st : still v σ σ' = true) : ItAt h' I ρ' v σ' i := by
 unfold ItAt at t ⊢
 cases v with
 | ref a =>
  obtain ⟨A, hA, t⟩ := t
  have e : σ'.get a = σ.get a := of_decide_eq_true st
  refine ⟨A, pre_get kρ hA, ?_⟩
  rw [e]
  cases hq : σ.get a with
  | none => rw [hq] at t; exact t
  | some o =>
   rw [hq] at t
   cases o with
   | list xs => obtain ⟨o, q, r⟩ := t; exact ⟨o, k o q, r⟩
   | tup xs => obtain ⟨o, q, r⟩ := t; exact ⟨o, k o q, r⟩
   | rng x y z => exact k _ t
   | _ => exact t
 | str st => obtain ⟨t, o, q, r⟩ := t; exact ⟨t, o, k o q, r⟩
 | _ => exact t
theorem range_len {a b z : Int} (hz : 0 < z) : Builtin.Range.rangeSize a b z = ((rangeList a b z).length : Int) := by
 unfold Builtin.Range.rangeSize rangeList
 rw [if_pos hz, if_pos (show z > 0 from hz), List.length_map, List.length_range]
 split
 ·have : 0 ≤ (b - a - 1) / z := Int.ediv_nonneg (by lia) (Int.le_of_lt hz)
  rw [Int.toNat_of_nonneg (by lia)]
 ·rfl
theorem range_at {a b z : Int} {i : Nat} {v : V} (hz : 0 < z) (h : ((rangeList a b z).map V.int)[i]? = some v) : v = .int (a + (i : Int) * z) ∧ i < (rangeList a b z).length := by
 unfold rangeList at h ⊢
 rw [if_pos hz] at h ⊢
 simp only [List.map_map, List.getElem?_map] at h
 obtain ⟨k, hk, rfl⟩ := Option.map_eq_some_iff.mp h
 obtain ⟨h1, h2⟩ := List.getElem?_eq_some_iff.mp hk
 simp only [List.getElem_range] at h2
 subst h2
 exact ⟨rfl, by simpa using h1⟩
theorem fitsL {i : Int} (h : i.natAbs < 2 ^ 62) : Builtin.Range.rangeFitsLong i = true :=
 have h1 : -(2 ^ 63) ≤ i ∧ i < 2 ^ 63 := by omega
 Bool.and_eq_true_iff.mpr ⟨decide_eq_true h1.1, decide_eq_true h1.2⟩
theorem small_fits {i : Int} (h : small' i = true) : Builtin.Range.rangeFitsLong i = true := fitsL (Nat.lt_trans (of_decide_eq_true h) (by decide))
theorem size_fits {a b z : Int} (ha : small' a = true) (hb : small' b = true) (hz : 0 < z) : Builtin.Range.rangeFitsLong (Builtin.Range.rangeSize a b z) = true := by
 unfold Builtin.Range.rangeSize
 rw [if_pos hz]
 by_cases hab : a < b
 ·rw [if_pos hab]
  have h1 := Nat.le_trans (Int.natAbs_ediv_le_natAbs (b - a - 1) z) (Int.natAbs_sub_le (b - a) 1)
  have h2 := Nat.le_trans h1 (Nat.add_le_add_right (Int.natAbs_sub_le b a) _)
  have h3 := Nat.le_trans (Int.natAbs_add_le _ 1) (Nat.add_le_add_right h2 _)
  exact fitsL (Nat.lt_of_le_of_lt h3 (Nat.lt_of_le_of_lt (Nat.add_le_add_right (Nat.add_le_add_right (Nat.add_le_add (Nat.le_of_lt (of_decide_eq_true hb)) (Nat.le_of_lt (of_decide_eq_true ha))) _) _) (by decide)))
 ·rw [if_neg hab]; rfl
theorem range_fits {a b z : Int} (ha : small' a = true) (hb : small' b = true) (hc : small' z = true) (hz : 0 < z) : Builtin.Range.small a b z = true := by
 unfold Builtin.Range.small
 have h3 := Nat.le_trans (Int.natAbs_add_le b (z - 1)) (Nat.add_le_add_left (Int.natAbs_sub_le z 1) _)
 rw [small_fits ha, small_fits hb, small_fits hc, size_fits ha hb hz, if_pos hz, fitsL (i := b + (z - 1)) (Nat.lt_of_le_of_lt h3 (Nat.lt_of_le_of_lt (Nat.add_le_add (Nat.le_of_lt (of_decide_eq_true hb)) (Nat.add_le_add_right (Nat.le_of_lt (of_decide_eq_true hc)) _)) (by decide))), Bool.or_true]; rfl
theorem it_str_inv {st : Str} {vs : List V} (e : (if st.cps.all (· < 128) = true ∧ st.cps.toList.length ≤ lim then some (st.cps.toList.map fun c => V.str (chr1 c)) else none) = some vs) : st.cps.all (· < 128) = true ∧ st.cps.toList.length ≤ lim ∧ vs = st.cps.toList.map fun c => V.str (chr1 c) := by
 split at e
 ·rename_i hc; cases e; exact ⟨hc.1, hc.2, rfl⟩
 ·cases e
theorem okS_chr {st : Str} {i c : Nat} (h : st.cps.all (· < 128) = true) (hc : st.cps.toList[i]? = some c) : okS (chr1 c) = true := by
 rw [← Array.all_toList] at h
 have h1 := of_decide_eq_true (List.all_eq_true.mp h c (List.mem_of_getElem? hc))
 refine Bool.and_eq_true_iff.mpr ⟨decide_eq_true (show 1 ≤ lim by decide), ?_⟩
 unfold PyData.strOk
 rw [← Array.all_toList]
 exact List.all_eq_true.mpr fun d hd => decide_eq_true (by rw [List.mem_singleton.mp hd]; exact Nat.lt_trans h1 (by decide))
section
variable {A : Around} {E : Value → Shared → Prop} {s : Shared} {h₀ : Heap} {L : Addr} {m : Str → Option Value} {fs : Fs} {kp k1 k2 os : List (Addr × Obj)} {σ : H}
theorem iter_len (l : Led S h₀ L m fs kp os σ s.heap) {v : V} {vs : List V} (e : iterOf v σ = some vs) : vs.length ≤ lim := by
 unfold iterOf at e
 cases v with
 | ref a =>
  dsimp only at e
  cases hk : σ.get a with
  | none => rw [hk] at e; cases e
  | some o =>
   rw [hk] at e
   obtain ⟨B, o1, _, _, hor, _⟩ := l.at hk
   cases o with
   | list xs => cases e; obtain ⟨_, _, _, _, hz⟩ := hor; exact hz
   | tup xs => cases e; obtain ⟨_, _, _, _, hz⟩ := hor; exact hz
   | rng p q z =>
    dsimp only at e
    split at e
    ·rename_i hc
     simp only [Bool.and_eq_true, decide_eq_true_eq] at hc
     cases e
     rw [List.length_map]
     have h1 := range_len (a := p) (b := q) hc.2
     unfold Builtin.Range.rangeSize at h1
     rw [if_pos (show z > 0 from hc.2)] at h1
     split at h1
     ·have h2 : (q - p - 1) / z ≤ q - p - 1 := Int.ediv_le_self _ (by lia)
      have := hc.1.2
      lia
     ·lia
    ·cases e
   | _ => cases e
 | str st =>
  obtain ⟨_, h2, rfl⟩ := it_str_inv e
  rw [List.length_map]; exact h2
 | _ => cases e
theorem it_new (l : Led S h₀ L m fs kp os σ s.heap) (hp : ρ <+: adr os) {v : V} {x : Value} {vs : List V} (hx : VR ρ v x) (e : iterOf v σ = some vs) {Q : Value → Shared → Prop}
  (hQ : ∀ I o h', Led S h₀ L m fs (kp ++ (I, o) :: []) os σ h' → ItAt h' I (adr os) v σ 0 → Q (.ref I) { s with heap := h' }) : wpAny (model S.prog S.w) A (pyIter x) Q E s := by
 unfold iterOf at e
 cases v with
 | ref a =>
  dsimp only at e
  cases hk : σ.get a with
  | none => rw [hk] at e; cases e
  | some o =>
   rw [hk] at e
   cases o with
   | list xs =>
    obtain ⟨B, o1, rfl, _, eB, ⟨ws, n, rfl, hws, hz⟩, h1, _⟩ := l.ref hp hk hx
    refine wpAny_pyIter_list (PySem.IsL.isList (n := n) h1) (hQ _ _ _ (l.kpush rfl) ⟨B, eB, ?_⟩)
    rw [hk]
    exact ⟨_, Heap.get?_push_size _ rfl, rfl, rfl⟩
   | tup xs =>
    obtain ⟨B, o1, rfl, _, eB, ⟨ws, n, rfl, hws, hz⟩, h1, _⟩ := l.ref hp hk hx
    refine wpAny_pyIter_tuple ⟨_, h1, rfl, n, rfl⟩ (hQ _ _ _ (l.kpush rfl) ⟨B, eB, ?_⟩)
    rw [hk]
    exact ⟨_, Heap.get?_push_size _ rfl, rfl, rfl⟩
   | rng p q z =>
    obtain ⟨B, o1, rfl, _, eB, ⟨t1, t2, t3, rfl⟩, h1, _⟩ := l.ref hp hk hx
    dsimp only at e
    split at e
    ·rename_i hc
     simp only [Bool.and_eq_true, decide_eq_true_eq] at hc
     refine wpAny_pyIter_range h1 (range_fits hc.1.1.1.1 hc.1.1.1.2 hc.1.1.2 hc.2) (hQ _ _ _ (l.kpush rfl) ⟨B, eB, ?_⟩)
     rw [hk]
     dsimp only
     rw [← range_len hc.2]
     have : IsRangeIter (s.heap.push { cls := .type "range_iterator", data := .fields #[rawInt p, rawInt (Builtin.Range.rangeSize p q z), rawInt z] }) s.heap.objs.size p (Builtin.Range.rangeSize p q z) z := Heap.get?_push_size _ rfl
     simpa using this
    ·cases e
   | _ => cases e
 | str st =>
  obtain ⟨h1, _, _⟩ := it_str_inv e
  obtain ⟨t, rfl, _⟩ := hx
  exact wpAny_pyIter_ascii h1 (hQ _ _ _ (l.kpush rfl) ⟨t, _, Heap.get?_push_size _ rfl, rfl, rfl⟩)
 | _ => cases e
variable {I : Addr} {o : Obj}
theorem it_next (l : Led S h₀ L m fs (k1 ++ (I, o) :: k2) os σ s.heap) {v : V} {vs : List V} {i : Nat} {y : V} (t : ItAt s.heap I (adr os) v σ i) (e : iterOf v σ = some vs) (hy : vs[i]? = some y) {Q : Option Value → Shared → Prop}
  (hQ : ∀ o' h' tk x, Led S h₀ L m fs (k1 ++ (I, o') :: k2) os σ h' → ItAt h' I (adr os) v σ (i + 1) → VR (adr os) y x → Q (some x) { s with heap := h', toks := tk }) : wpAny (model S.prog S.w) A (pyNext (.ref I)) Q E s := by
 unfold ItAt at t
 unfold iterOf at e
 cases v with
 | ref a =>
  obtain ⟨B, hB, t⟩ := t
  dsimp only at e
  cases hk : σ.get a with
  | none => rw [hk] at e; cases e
  | some ob =>
   rw [hk] at e t
   obtain ⟨B', o1, _, eB, hor, h1, _⟩ := l.at hk
   rw [hB] at eB; cases eB
   cases ob with
   | list xs =>
    cases e
    obtain ⟨ws, n, rfl, hws, hz⟩ := hor
    obtain ⟨x, hx, hr⟩ := hws.get hy
    refine wpAny_pyNext_list_item t (PySem.IsL.isList (n := n) h1) (x := x) (by simpa using hx) fun h' t' hs => ?_
    obtain ⟨o', g1, g2⟩ := id t'
    exact hQ o' h' s.toks x (l.kset hs g1) ⟨B, hB, by rw [hk]; exact t'⟩ hr
   | tup xs =>
    cases e
    obtain ⟨ws, n, rfl, hws, hz⟩ := hor
    obtain ⟨x, hx, hr⟩ := hws.get hy
    refine wpAny_pyNext_tuple_item t ⟨_, h1, rfl, n, rfl⟩ (x := x) (by simpa using hx) fun h' t' hs => ?_
    obtain ⟨o', g1, g2⟩ := id t'
    exact hQ o' h' s.toks x (l.kset hs g1) ⟨B, hB, by rw [hk]; exact t'⟩ hr
   | rng p q z =>
    dsimp only at e
    split at e
    ·rename_i hc
     simp only [Bool.and_eq_true, decide_eq_true_eq] at hc
     cases e
     obtain ⟨rfl, hi⟩ := range_at hc.2 hy
     refine wpAny_pyNext_range_item t (by lia) fun h' t' hs => ?_
     refine hQ _ h' _ _ (l.kset hs t') ⟨B, hB, ?_⟩ ⟨_, rfl⟩
     rw [hk]
     dsimp only
     have e1 : p + ((i + 1 : Nat) : Int) * z = p + (i : Int) * z + z := by rw [Int.natCast_add, Int.add_mul]; simp [Int.add_assoc]
     have e2 : ((rangeList p q z).length : Int) - ((i + 1 : Nat) : Int) = ((rangeList p q z).length : Int) - (i : Int) - 1 := by lia
     rw [e1, e2]; exact t'
    ·cases e
   | _ => cases e
 | str st =>
  obtain ⟨h1, _, rfl⟩ := it_str_inv e
  obtain ⟨u, t⟩ := t
  rw [List.getElem?_map] at hy
  obtain ⟨cc, hc, rfl⟩ := Option.map_eq_some_iff.mp hy
  refine wpAny_pyNext_ascii_item t (by simpa using hc) fun h' t' hs => ?_
  obtain ⟨o', g1, g2⟩ := id t'
  exact hQ o' h' _ _ (l.kset hs g1) ⟨u, t'⟩ ⟨_, rfl, okS_chr h1 hc⟩
 | _ => cases e
theorem it_done (hh : A.handled = none) (l : Led S h₀ L m fs (k1 ++ (I, o) :: k2) os σ s.heap) {v : V} {vs : List V} {i : Nat} (t : ItAt s.heap I (adr os) v σ i) (e : iterOf v σ = some vs) (hy : vs[i]? = none) {Q : Option Value → Shared → Prop}
  (hQ : ∀ h', Led S h₀ L m fs (k1 ++ k2) os σ h' → Q none { s with heap := h' }) : wpAny (model S.prog S.w) A (pyNext (.ref I)) Q E s := by
 unfold ItAt at t
 unfold iterOf at e
 cases v with
 | ref a =>
  obtain ⟨B, hB, t⟩ := t
  dsimp only at e
  cases hk : σ.get a with
  | none => rw [hk] at e; cases e
  | some ob =>
   rw [hk] at e t
   obtain ⟨B', o1, _, eB, hor, h1, _⟩ := l.at hk
   rw [hB] at eB; cases eB
   cases ob with
   | list xs =>
    cases e
    obtain ⟨ws, n, rfl, hws, hz⟩ := hor
    refine wpAny_pyNext_list_end hh t (PySem.IsL.isList (n := n) h1) ?_ fun h' hs => hQ h' (l.extBut hs)
    have := hws.length
    rw [List.getElem?_eq_none_iff] at hy
    simp; lia
   | tup xs =>
    cases e
    obtain ⟨ws, n, rfl, hws, hz⟩ := hor
    refine wpAny_pyNext_tuple_end hh t ⟨_, h1, rfl, n, rfl⟩ ?_ fun h' hs => hQ h' (l.extBut hs)
    have := hws.length
    rw [List.getElem?_eq_none_iff] at hy
    simp; lia
   | rng p q z =>
    dsimp only at e
    split at e
    ·rename_i hc
     cases e
     rw [List.getElem?_eq_none_iff, List.length_map] at hy
     exact wpAny_pyNext_range_end hh t (by lia) fun h' hs => hQ h' (l.extBut hs)
    ·cases e
   | _ => cases e
 | str st =>
  obtain ⟨h1, _, rfl⟩ := it_str_inv e
  obtain ⟨u, t⟩ := t
  rw [List.getElem?_map, Option.map_eq_none_iff] at hy
  exact wpAny_pyNext_ascii_end hh t (by simpa using hy) fun h' hs => hQ h' (l.extBut hs)
 | _ => cases e
end
end Mine.Internal
set_option autoImplicit false
namespace Mine.Internal
open PySem PySem.W PySem.Calls PyProof.Rows
variable {S : Sig} {c : Cx} {ρ : List Addr}
section
variable {h₀ h h' : Heap} {L C : Addr} {m mC : Str → Option Value} {fs : Fs} {kp os : List (Addr × Obj)} {σ : H}
theorem none_above (l : Fr h₀ L h m) : h₀.get? L = none := by
 cases e : h₀.get? L with
 | none => rfl
 | some o => exact absurd (Heap.lt_size e) (Nat.not_lt.mpr l.above)
theorem Led.enter (l : Led S h₀ L m fs kp os σ h) (ns : h'.Ns C mC) (k : ∀ b o, h.get? b = some o → h'.get? b = some o) (hC : h.get? C = none) (hle : h.objs.size ≤ C) : Led S h₀ C mC ((L, m) :: fs) kp os σ h' := by
 have l' := l.keep k
 have ne : ∀ {b : Addr} {o : Obj}, h.get? b = some o → b ≠ C := fun e q => by rw [q, hC] at e; cases e
 obtain ⟨oL, es, ep, hL, _⟩ := id l.fr.ns
 have above : h₀.objs.size ≤ C := Nat.le_trans l.fr.above (Nat.le_trans (Nat.le_of_lt (Heap.lt_size hL)) hle)
 refine ⟨⟨ns, l'.fr.keep, above⟩, fun p hp => ⟨(l'.news p hp).1, ne (l.news p hp).1, (l'.news p hp).2.2⟩, l'.nd, l'.objs, fun f hf => ?_, l'.top, l'.big, l'.frz⟩
 rcases List.mem_cons.mp hf with rfl | hf
 ·refine ⟨l'.fr.ns, ne hL, none_above l.fr, fun q => ?_⟩
  obtain ⟨p, hp, e⟩ := List.mem_map.mp q
  exact (l.news p hp).2.1 e
 ·obtain ⟨of, _, _, hf', _⟩ := (l.outs f hf).1
  exact ⟨(l'.outs f hf).1, ne hf', (l'.outs f hf).2.2⟩
theorem Led.leave (l : Led S h₀ C mC ((L, m) :: fs) kp os σ h) (ab : h₀.objs.size ≤ L) (ne : ∀ f ∈ fs, f.1 ≠ L) (hs : ∀ b o, b ≠ C → h.get? b = some o → h'.get? b = some o) : Led S h₀ L m fs kp os σ h' := by
 have hL := l.outs _ (.head _)
 have nC := none_above l.fr
 refine ⟨⟨hL.1.at' fun o e => hs _ o hL.2.1 e, fun b o e => hs b o (fun q => by rw [q, nC] at e; cases e) (l.fr.keep b o e), ab⟩,
  fun p hp => ⟨hs _ _ (l.news p hp).2.1 (l.news p hp).1, fun q => hL.2.2.2 (List.mem_map.mpr ⟨p, hp, q⟩), (l.news p hp).2.2⟩, l.nd, l.objs, fun f hf => ?_, l.top, l.big, l.frz⟩
 have hF := l.outs f (.tail _ hf)
 exact ⟨hF.1.at' fun o e => hs _ o hF.2.1 e, ne f hf, hF.2.2⟩
theorem Led.lset (l : Led S h₀ L m fs kp os σ h) (hn : h'.Ns L mC) (hs : Heap.SameBut L h h') : Led S h₀ L mC fs kp os σ h' :=
 ⟨l.fr.set hn hs, fun p hp => ⟨(hs.2 _ (l.news p hp).2.1).trans (l.news p hp).1, (l.news p hp).2⟩, l.nd, l.objs, fun f hf => ⟨(l.outs f hf).1.sameBut hs (l.outs f hf).2.1, (l.outs f hf).2⟩, l.top, l.big, l.frz⟩
theorem Led.kmove {D : Addr} {x : Obj} {o : O} (l : Led S h₀ L m fs (kp ++ (D, x) :: []) os σ h) (hr : OR S (adr os) o x) : Led S h₀ L m fs kp (os ++ [(D, x)]) (σ.push o) h := by
 have hk := l.kmid
 rw [List.append_nil] at hk
 have l' := l.kdrop
 rw [List.append_nil] at l'
 have pf : adr os <+: adr (os ++ [(D, x)]) := adr_new
 have adk : adr (kp ++ (os ++ [(D, x)])) = adr (kp ++ os) ++ [D] := by simp [adr]
 refine ⟨l.fr, fun p hp => ?_, ?_, (l.objs.mono fun _ _ e => e.mono S pf).append (.one (hr.mono S pf)), fun f hf => ⟨(l'.outs f hf).1, (l'.outs f hf).2.1, (l'.outs f hf).2.2.1, ?_⟩, l.top, ?_, l.frz.1.trans (List.prefix_append _ _), l.frz.2⟩
 ·rw [← List.append_assoc] at hp
  rcases List.mem_append.mp hp with hp | hp
  ·exact l'.news p hp
  ·rw [List.mem_singleton.mp hp]; exact ⟨hk.1, hk.2.1, hk.2.2.1⟩
 ·rw [adk]
  refine List.nodup_append.mpr ⟨l'.nd, by simp, fun b hb d hd e => ?_⟩
  rw [List.mem_singleton.mp hd] at e
  obtain ⟨p, hp, rfl⟩ := List.mem_map.mp hb
  exact hk.2.2.2.2 p hp e
 ·rw [adk]
  intro hm
  rcases List.mem_append.mp hm with hm | hm
  ·exact (l'.outs f hf).2.2.2 hm
  ·exact hk.2.2.2.1 f hf (List.mem_singleton.mp hm)
 ·rw [adk]
  intro b hb
  rcases List.mem_append.mp hb with hb | hb
  ·exact l'.big b hb
  ·rw [List.mem_singleton.mp hb]
   exact l.big D (List.mem_map.mpr ⟨(D, x), by simp, rfl⟩)
end
theorem lookup_relabel {env : Env} : ∀ {names : List (Str × NameKind)} {x : Str},
  (names.map fun (n, k) => if (k == NameKind.free && env.scope.kind == .function && env.kindOf n == some .cell) then (n, NameKind.cell) else (n, k)).lookup x = (names.lookup x).map fun k => if (k == NameKind.free && env.scope.kind == .function && env.kindOf x == some .cell) then NameKind.cell else k
 | [], _ => rfl
 | (n, k) :: r, x => by
  have ih := @lookup_relabel env r x
  show List.lookup x ((if (k == NameKind.free && env.scope.kind == .function && env.kindOf n == some .cell) = true then (n, NameKind.cell) else (n, k)) :: _) = _
  cases hx : x == n with
  | true =>
   have hxn : x = n := beq_iff_eq.mp hx
   subst hxn
   split <;> simp_all [List.lookup_cons]
  | false =>
   split <;> simp only [List.lookup_cons, hx] <;> exact ih
theorem closure_of {env : Env} {sc' : Scope} (h : ∀ x ∈ sc'.names, x.2 = .free → ∃ a, env.cells.lookup x.1 = some a) :
  ∃ cl, closureFor sc' env = pure cl ∧ ∀ nm, sc'.names.lookup nm = some .free → cl.lookup nm = env.cells.lookup nm := by
 have key : ∀ (l : List (Str × NameKind)) (cs : List (Str × Addr)), (∀ x ∈ l, x.2 = .free → ∃ a, env.cells.lookup x.1 = some a) → (∀ p ∈ cs, env.cells.lookup p.1 = some p.2) →
   ∃ cl, (forIn l cs fun x r => (do
    let (name, kind) := x
    if kind == .free then do
     let y ← cellOf env name
     pure (ForInStep.yield ((name, y) :: r))
    else pure (ForInStep.yield r) : Sem (ForInStep (List (Str × Addr))))) = pure cl ∧ (∀ p ∈ cl, env.cells.lookup p.1 = some p.2) ∧ (∀ p ∈ cs, p ∈ cl) ∧ ∀ x ∈ l, x.2 = .free → ∃ a, (x.1, a) ∈ cl := by
  intro l
  induction l with
  | nil => intro cs _ h2; exact ⟨cs, rfl, h2, fun p hp => hp, fun x hx => nomatch hx⟩
  | cons y r ih =>
   intro cs h1 h2
   obtain ⟨n, k⟩ := y
   rw [List.forIn_cons]
   by_cases hk : k = .free
   ·subst hk
    obtain ⟨a, ha⟩ := h1 _ (.head _) rfl
    dsimp only at ha
    obtain ⟨cl, e1, e2, e3, e4⟩ := ih ((n, a) :: cs) (fun x hx => h1 x (.tail _ hx)) (fun p hp => by
     rcases List.mem_cons.mp hp with rfl | hp
     ·exact ha
     ·exact h2 p hp)
    refine ⟨cl, ?_, e2, fun p hp => e3 p (.tail _ hp), fun x hx hf => ?_⟩
    ·have : cellOf env n = pure a := by unfold cellOf; rw [ha]
     simp only [beq_self_eq_true, if_true, this]
     exact e1
    ·rcases List.mem_cons.mp hx with rfl | hx
     ·exact ⟨a, e3 _ (.head _)⟩
     ·exact e4 x hx hf
   ·obtain ⟨cl, e1, e2, e3, e4⟩ := ih cs (fun x hx => h1 x (.tail _ hx)) h2
    refine ⟨cl, ?_, e2, e3, fun x hx hf => ?_⟩
    ·have : (k == NameKind.free) = false := by simpa using hk
     simp only [this, Bool.false_eq_true, if_false]
     exact e1
    ·rcases List.mem_cons.mp hx with rfl | hx
     ·exact absurd hf hk
     ·exact e4 x hx hf
 obtain ⟨cl, e1, e2, _, e4⟩ := key sc'.names [] h (fun p hp => nomatch hp)
 refine ⟨cl, ?_, fun nm hn => ?_⟩
 ·unfold closureFor
  refine Eq.trans (congrArg (fun t => t >>= fun r => pure r) (?_ : _ = forIn sc'.names ([] : List (Str × Addr)) _)) (by rw [e1]; rfl)
  congr 1
 ·obtain ⟨a, ha⟩ := e4 (nm, .free) (PySem.mem_of_lookup hn) rfl
  cases hq : cl.lookup nm with
  | none =>
   rw [List.lookup_eq_none_iff] at hq
   have := hq _ ha
   simp at this
  | some b => rw [e2 (nm, b) (PySem.mem_of_lookup hq)]
end Mine.Internal
set_option autoImplicit false
namespace Mine.Internal
open PySem PySem.W PySem.Calls PyProof.Rows
variable {S : Sig}
theorem funFrames_intro {h base : Heap} : ∀ {l : List Env}, (∀ e ∈ l, e.scope.kind ≠ .module ∧ ∃ L o, e.frame = some L ∧ base.get? L = none ∧ h.get? L = some o ∧ ∀ vs, o.data ≠ .fields vs) → h.FunFrames base l
 | [], _ => trivial
 | _ :: _, k => ⟨(k _ (.head _)).1, (k _ (.head _)).2, funFrames_intro fun e he => k e (.tail _ he)⟩
theorem ns_there {h : Heap} {a : Addr} {m : Str → Option Value} (x : h.Ns a m) : ∃ o, h.get? a = some o ∧ ∀ vs, o.data ≠ .fields vs := by
 obtain ⟨o, es, ep, ho, hd, _⟩ := x
 exact ⟨o, ho, fun vs q => by rw [hd] at q; cases q⟩
section
variable {h₀ h h' : Heap} {L : Addr} {m : Str → Option Value} {fs : Fs} {kp os : List (Addr × Obj)} {σ : H}
theorem Led.slots (l : Led S h₀ L m fs kp os σ h) (sm : h.UpToSlots h') (st : h₀.StaysIn h') (kb : ∀ p ∈ kp ++ os, h'.get? p.1 = some p.2) : Led S h₀ L m fs kp os σ h' :=
 ⟨Fr.of_stays l.fr st sm, fun p hp => ⟨kb p hp, (l.news p hp).2⟩, l.nd, l.objs, fun f hf => ⟨sm.ns (l.outs f hf).1, (l.outs f hf).2⟩, l.top, l.big, l.frz⟩
theorem Led.frame (l : Led S h₀ L m fs kp os σ h) {b : Addr} (hb : b ∈ L :: fs.map (·.1)) : h₀.get? b = none ∧ b ∉ adr (kp ++ os) ∧ ∃ o, h.get? b = some o ∧ ∀ vs, o.data ≠ .fields vs := by
 rcases List.mem_cons.mp hb with rfl | hb
 ·refine ⟨none_above l.fr, fun hm => ?_, ns_there l.fr.ns⟩
  obtain ⟨p, hp, e⟩ := List.mem_map.mp hm
  exact (l.news p hp).2.1 e
 ·obtain ⟨f, hf, rfl⟩ := List.mem_map.mp hb
  have := l.outs f hf
  exact ⟨this.2.2.1, this.2.2.2, ns_there this.1⟩
end
section
variable {c : Cx} {n : Nat} {os : List (Addr × Obj)} {σ : H} {h h' : Heap}
theorem fly_made (K : CtxOK S n c) (l : c.led S os σ h) {e C : Addr} {vs : List Value} {k : Nat} (hk : S.ex k = some C) (hx : Heap.MadeExcOf h h' e (.ref C) vs) : Fly S c os (.ref e) k h' := by
 obtain ⟨fr, h1, h2⟩ := K.frs
 have hb : ∀ b, b ∈ fr.filterMap (·.frame) → c.h₀.get? b = none ∧ b ∉ adr (c.kp ++ os) := fun b hb => by
  obtain ⟨ev, he, hf⟩ := List.mem_filterMap.mp hb
  obtain ⟨_, b', g1, g2⟩ := h2 ev he
  rw [hf] at g1; cases g1
  exact ⟨(l.frame g2).1, (l.frame g2).2.1⟩
 refine ⟨e, C, hideAll h (fr.filterMap (·.frame)), fr, rfl, hk, h1, ⟨fun b o q => hx.keeps b o (of_hideAll _ q), ?_, ?_, (.inr (.inl ?_))⟩, fun b o q => ?_, fun p hp => ?_⟩
 ·cases q : (hideAll h (fr.filterMap (·.frame))).get? e with
  | none => rfl
  | some o => have := of_hideAll _ q; rw [hx.new] at this; cases this
 ·refine funFrames_intro fun ev he => ?_
  obtain ⟨g0, b, g1, g2⟩ := h2 ev he
  obtain ⟨_, _, o, g3, g4⟩ := l.frame g2
  exact ⟨g0, b, o, g1, hideAll_none _ (List.mem_filterMap.mpr ⟨ev, he, g1⟩), hx.keeps _ _ g3, g4⟩
 ·obtain ⟨t, he, _, _⟩ := hx.there
  exact ⟨_, _, _, he, rfl, rfl, rfl, rfl⟩
 ·refine hideAll_get _ (l.fr.keep b o q) fun hm => ?_
  rw [(hb b hm).1] at q; cases q
 ·exact hideAll_get _ (l.news p hp).1 fun hm => (hb _ hm).2 (List.mem_map_of_mem hp)
variable {M : Model} {A : Around} {E : Value → Shared → Prop} {s : Shared}
theorem fly_note {B : Heap} {env : Env} {outer : List Env} {L a : Addr} {cls : Value} {Q : Unit → Shared → Prop} (hfr : A.frames = some (env :: outer)) (hf : env.frame = some L) (F : FlyB B (env :: outer) a cls s.heap)
  (hQ : ∀ h' a0, Heap.HeldW B (env :: outer) a cls a0 L h' → s.heap.UpToSlots h' → Q () { s with heap := h' }) : wpAny M A (noteFrame (.ref a) env) Q E s := by
 obtain ⟨f1, f2, f3, ⟨a0, f4⟩ | ⟨oe, vs, a0, g1, rfl, g3, g4, g5⟩ | ⟨a0, fl, g3⟩⟩ := F
 ·exact wpAny_looks_onW hfr hf ⟨f1, f2, f3, f4⟩ fun h' x y => hQ h' a0 x y
 ·unfold noteFrame
  simp only [hf]
  refine wpAny_bind (wpAny_field g1 g3 g4 ?_)
  rw [if_neg (by decide)]
  exact wpAny_entryW hfr f3 hf g1 f1 f2 g3 (Array.getElem?_eq_some_iff.mp g4).1 g5 fun h' x => hQ h' a0 ⟨x.1, f2, x.2.1, x.2.2.1⟩ x.2.2.2
 ·by_cases hfl : fl = rawInt L
  ·subst hfl
   exact wpAny_noteFrame_againW hf g3 (hQ s.heap a0 ⟨f1, f2, f3, g3⟩ (Heap.UpToSlots.refl _))
  ·obtain ⟨oe, vs, T, oT, ts, he, ⟨hcls, h0⟩, hd, h1, hnT, hTe, hT, hdT, h3⟩ := g3
   subst hcls
   have z3 : 3 < ts.size := (Array.getElem?_eq_some_iff.mp h3).1
   unfold noteFrame
   simp only [hf]
   refine wpAny_bind (wpAny_field he hd h1 ?_)
   rw [if_pos (show (Value.ref T != Value.none) = true from by simp)]
   refine wpAny_bind (wpAny_field hT hdT h3 ?_)
   rw [if_neg (show ¬ ((fl == rawInt L) = true) from fun q => hfl (eq_of_beq q))]
   refine wpAny_bind (wpAny_setField hT hdT z3 ?_)
   have ot : ∀ b, b ≠ T → (s.heap.update T (Obj.mapFields (·.setIfInBounds 3 Value.none))).get? b = s.heap.get? b := fun b hb => Heap.get?_update_other _ _ (Ne.symm hb)
   have nr : ∀ b o, s.heap.get? b = some o → (∀ vs, o.data ≠ .fields vs) → b ≠ T := fun b o hb hn q => by
    rw [q, hT] at hb; cases hb; exact hn ts hdT
   refine wpAny_entryW (s := { s with heap := s.heap.update T (Obj.mapFields (·.setIfInBounds 3 Value.none)) }) hfr (f3.of_keeps fun b o hb hn => ⟨o, (ot b (nr b o hb hn)).trans hb, rfl⟩) hf ((ot a (Ne.symm hTe)).trans he) (fun b o q => (ot b fun e => by rw [e, hnT] at q; cases q).trans (f1 b o q)) f2 hd (Array.getElem?_eq_some_iff.mp h1).1 h0 fun h' x => hQ h' a0 ⟨x.1, f2, x.2.1, x.2.2.1⟩ ?_
   exact fun b o hb hn => x.2.2.2 b o ((ot b (nr b o hb hn)).trans hb) hn
theorem fly_leave {B : Heap} {env : Env} {outer : List Env} {L a : Addr} {cls : Value} {Q : Unit → Shared → Prop} (hfr : A.frames = some (env :: outer)) (hf : env.frame = some L) (F : FlyB B (env :: outer) a cls s.heap)
  (hQ : ∀ h', FlyB B outer a cls h' → s.heap.UpToSlots h' → Q () { s with heap := h' }) : wpAny M A (leaving env (.ref a)) Q E s := by
 unfold leaving
 refine wpAny_bind (fly_note hfr hf F fun h₁ a0 x y => ?_)
 exact wpAny_landsW x fun h₂ z u => hQ h₂ ⟨z.1, z.2.1, z.2.2.1.2.2, .inl ⟨a0, z.2.2.2⟩⟩ (y.trans u)
theorem fly_back {B : Heap} {env : Env} {l : List Env} {L a : Addr} {cls a0 fl : Value} (hf : env.frame = some L) (f1 : B.StaysIn s.heap) (f2 : B.get? a = none) (f3 : s.heap.FunFrames B l) (f4 : s.heap.TracedAtW B a cls a0 fl)
  (hE : ∀ h', Heap.HeldW B l a cls a0 L h' → s.heap.UpToSlots h' → E (.ref a) { s with heap := h' }) : cameBackBy M A env E (.ref a) s := by
 obtain ⟨oe, vs, T, oT, ts, he, hcls, hd, h1, hnT, hTe, hT, hdT, h3⟩ := f4
 have z3 : 3 < ts.size := (Array.getElem?_eq_some_iff.mp h3).1
 unfold cameBackBy
 refine wpAny_bind (wpAny_field he hd h1 ?_)
 rw [if_neg (show ¬ ((Value.ref T == Value.none) = true) from by simp), hf]
 unfold setFlight
 refine wpAny_bind (wpAny_field he hd h1 ?_)
 rw [if_pos (show (Value.ref T != Value.none) = true from by simp)]
 have ot : ∀ b, b ≠ T → (s.heap.update T (Obj.mapFields (·.setIfInBounds 3 ((some L).elim Value.none fun f => rawInt f)))).get? b = s.heap.get? b := fun b hb => Heap.get?_update_other _ _ (Ne.symm hb)
 have nr : ∀ b o, s.heap.get? b = some o → (∀ vs, o.data ≠ .fields vs) → b ≠ T := fun b o hb hn q => by
  rw [q, hT] at hb; cases hb; exact hn ts hdT
 refine wpAny_setField hT hdT z3 (hE _ ⟨fun b o q => (ot b fun e => by rw [e, hnT] at q; cases q).trans (f1 b o q), f2, f3.of_keeps fun b o hb hn => ⟨o, (ot b (nr b o hb hn)).trans hb, rfl⟩, ?_⟩ fun b o hb hn => ⟨o.slots, (ot b (nr b o hb hn)).trans hb⟩)
 exact ⟨oe, vs, T, _, _, (ot a (Ne.symm hTe)).trans he, hcls, hd, h1, hnT, hTe, Heap.get?_update_self _ hT (Obj.isFreed_of_fields (Obj.data_mapFields hdT _)), Obj.data_mapFields hdT _, by simp [z3]⟩
theorem loop_fly {c : Cx} (TF : ∃ outer, c.A.frames = some (c.env :: outer) ∧ c.env.frame = some c.L) {os : List (Addr × Obj)} {σ : H} {e : Value} {k : Nat} (l : c.led S os σ s.heap) (f : Fly S c os e k s.heap)
  (hE : ∀ h', c.led S os σ h' → Fly S c os e k h' → E e { s with heap := h' }) : notedBy M c.A c.env (cameBackBy M c.A c.env E) e s := by
 obtain ⟨a, C, B, fr, rfl, hC, hfr, FB, hB, hkB⟩ := f
 obtain ⟨outer, t1, t2⟩ := TF
 obtain rfl : c.env :: outer = fr := Option.some.inj (t1.symm.trans hfr)
 refine fly_note t1 t2 FB fun h₄ a0 held sm₄ => ?_
 refine fly_back (s := { s with heap := h₄ }) t2 held.1 held.2.1 held.2.2.1 held.2.2.2 fun h₅ H₅ sm₅ => ?_
 exact hE h₅ (l.slots (sm₄.trans sm₅) (fun b o q => H₅.1 b o (hB b o q)) fun p hp => H₅.1 _ _ (hkB p hp)) ⟨a, C, B, _, rfl, hC, hfr, ⟨H₅.1, H₅.2.1, H₅.2.2.1,
  .inr (.inr ⟨a0, _, H₅.2.2.2⟩)⟩, hB, hkB⟩
theorem noteFrame_congr {e : Value} {env env' : Env} (h : env.frame = env'.frame) : noteFrame e env = noteFrame e env' := by
 unfold noteFrame PySem.frameOf
 rw [h]
theorem fly_pass {B : Heap} {cenv : Env} {l : List Env} {a : Addr} {cls a0 fl : Value} {what : String} (f1 : B.StaysIn s.heap) (f3 : s.heap.FunFrames B l) (f4 : s.heap.TracedAtW B a cls a0 fl)
  (hE : ∀ h' fl', B.StaysIn h' → h'.FunFrames B l → h'.TracedAtW B a cls a0 fl' → s.heap.UpToSlots h' → E (.ref a) { s with heap := h' }) : wpAny M A (PySem.passOn what (.ref a) cenv : Sem Value) (fun _ _ => False) E s := by
 obtain ⟨oe, vs, T, oT, ts, he, hcls, hd, h1, hnT, hTe, hT, hdT, h3⟩ := f4
 have z3 : 3 < ts.size := (Array.getElem?_eq_some_iff.mp h3).1
 unfold PySem.passOn
 refine wpAny_bind (wpAny_field he hd h1 ?_)
 rw [if_neg (show ¬ ((Value.ref T == Value.none) = true) from by simp)]
 refine wpAny_bind ?_
 unfold setFlight
 refine wpAny_bind (wpAny_field he hd h1 ?_)
 rw [if_pos (show (Value.ref T != Value.none) = true from by simp)]
 have ot : ∀ b, b ≠ T → (s.heap.update T (Obj.mapFields (·.setIfInBounds 3 (cenv.frame.elim Value.none fun f => rawInt f)))).get? b = s.heap.get? b := fun b hb => Heap.get?_update_other _ _ (Ne.symm hb)
 have nr : ∀ b o, s.heap.get? b = some o → (∀ vs, o.data ≠ .fields vs) → b ≠ T := fun b o hb hn q => by
  rw [q, hT] at hb; cases hb; exact hn ts hdT
 refine wpAny_setField hT hdT z3 (wpAny_throw (hE _ (cenv.frame.elim Value.none fun f => rawInt f) (fun b o q => (ot b fun e => by rw [e, hnT] at q; cases q).trans (f1 b o q)) (f3.of_keeps fun b o hb hn => ⟨o, (ot b (nr b o hb hn)).trans hb, rfl⟩) ?_ fun b o hb hn => ⟨o.slots, (ot b (nr b o hb hn)).trans hb⟩))
 exact ⟨oe, vs, T, _, _, (ot a (Ne.symm hTe)).trans he, hcls, hd, h1, hnT, hTe, Heap.get?_update_self _ hT (Obj.isFreed_of_fields (Obj.data_mapFields hdT _)), Obj.data_mapFields hdT _, by simp [z3]⟩
end
end Mine.Internal
set_option autoImplicit false
namespace Mine.Internal
open PySem PySem.W PySem.Calls PyProof.Rows
variable {S : Sig} {c : Cx} {ρ : List Addr}
noncomputable abbrev condTree (ifs : List Expr) (env : Env) : Sem Bool := forIn ifs true fun c r => if r = true then do let ok ← isTrue c env (eval c env); pure (ForInStep.yield ok) else pure (ForInStep.yield r)
theorem it_self {A : Around} {E : Value → Shared → Prop} {s : Shared} {I : Addr} {v : V} {σ : H} {i : Nat} {Q : Value → Shared → Prop} (t : ItAt s.heap I ρ v σ i) (h : Q (.ref I) s) : wpAny (model S.prog S.w) A (pyIter (.ref I)) Q E s := by
 unfold ItAt at t
 cases v with
 | ref a =>
  obtain ⟨B, _, t⟩ := t
  cases hk : σ.get a with
  | none => rw [hk] at t; exact t.elim
  | some o =>
   rw [hk] at t
   cases o with
   | list xs => exact wpAny_pyIter_listiter t h
   | tup xs => exact wpAny_pyIter_tupleiter t h
   | rng a b z => exact wpAny_pyIter_rangeiter t h
   | _ => exact t.elim
 | str st => obtain ⟨_, t⟩ := t; exact wpAny_pyIter_striter_ascii t h
 | _ => exact t.elim
theorem still_iter {v : V} {σ σ' : H} (h : still v σ σ' = true) : iterOf v σ' = iterOf v σ := by
 unfold iterOf
 cases v with
 | ref a => have e : σ'.get a = σ.get a := of_decide_eq_true h; dsimp only; rw [e]
 | _ => rfl
theorem still_refl (v : V) (σ : H) : still v σ σ = true := by cases v <;> simp [still]
theorem still_sym {v : V} {σ σ' : H} (h : still v σ σ' = true) : still v σ' σ = true := by cases v <;> simp_all [still]
theorem still_trans {v : V} {σ σ' σ'' : H} (h : still v σ σ' = true) (h' : still v σ' σ'' = true) : still v σ σ'' = true := by cases v <;> simp_all [still]
noncomputable def rpre (l : List V) : R (List V) → R (List V)
 | .ok ws => .ok (l ++ ws)
 | .err k => .err k
structure CompOK (S : Sig) (sc sc' : Scope) (env : Env) (nms : List Str) : Prop where
 kind : sc'.kind = .function
 cells : ∀ x ∈ sc'.names, x.2 ≠ .cell
 locs : ∀ x ∈ sc'.names, x.2 = .local → sc'.names.lookup x.1 = some .local
 only : ∀ x ∈ sc'.names, x.2 = .local → x.1 ∈ nms ∨ x.1 ∉ S.T
 free : ∀ x ∈ sc'.names, x.2 = .free → isCell sc x.1 = true
 own : ∀ nm ∈ nms, sc'.names.lookup nm = some .local
theorem compOK {sc sc' : Scope} {env : Env} {nms : List Str} (h : compScope S.nam sc sc' nms = true) : CompOK S sc sc' env nms := by
 unfold compScope at h
 simp only [Bool.and_eq_true, decide_eq_true_eq, List.all_eq_true, Bool.or_eq_true, Bool.not_eq_true', decide_eq_false_iff_not] at h
 obtain ⟨⟨h1, h2⟩, h3⟩ := h
 refine ⟨h1, fun x hx => (h2 x hx).1.1, fun x hx e => ?_, fun x hx e => ?_, fun x hx e => ?_, h3⟩
 ·rcases (h2 x hx).1.2 with q | q
  ·exact absurd e q
  ·exact q.1
 ·rcases (h2 x hx).1.2 with q | q
  ·exact absurd e q
  ·rcases q.2 with q | q
   ·exact .inl q
   ·refine .inr fun hm => ?_
    have : S.nam.T.contains x.1 = true := List.contains_iff_mem.mpr hm
    rw [this] at q; cases q
 ·rcases (h2 x hx).2 with q | q
  ·exact absurd e q
  ·exact q
theorem isCell_in {sc : Scope} {nm : Str} (h : isCell sc nm = true) : inScope sc nm = true := by
 unfold isCell at h
 unfold inScope
 split at h <;> first | rename_i e; rw [e] | cases h
section
variable {n : Nat} {sc sc' : Scope} {nms : List Str} {cl : List (Str × Addr)} {C : Addr} {m' : Str → Option Value} {kp' : List (Addr × Obj)}
noncomputable abbrev compCx (c : Cx) (sc' : Scope) (cl : List (Str × Addr)) (C : Addr) (m' : Str → Option Value) (kp' : List (Addr × Obj)) : Cx := ⟨c.A, compEnvC sc' cl C c.env, c.h₀, C, m', (c.L, c.m) :: c.fs, kp'⟩
theorem comp_ctx (K : CtxOK S n c) (O : CompOK S sc sc' c.env nms) : CtxOK S n (compCx c sc' cl C m' kp') :=
 ⟨⟨K.units, K.depth, K.kin, K.top, K.lim, O.kind, K.glob, K.blt, rfl, (let ⟨l, h1, h2⟩ := K.frs; ⟨l, h1, fun e he => let ⟨g1, b, g2, g3⟩ := h2 e he; ⟨g1, b, g2, .tail _ g3⟩⟩), K.own⟩, K.hand⟩
theorem comp_sc (SO : ScOK sc c.env) (O : CompOK S sc sc' c.env nms) (hcl : ∀ nm, sc'.names.lookup nm = some .free → cl.lookup nm = c.env.cells.lookup nm) : ScOK sc' (compEnvC sc' cl C c.env) := by
 have look : ∀ x, (compEnvC sc' cl C c.env).kindOf x = (sc'.names.lookup x).map fun k => if (k == NameKind.free && c.env.scope.kind == .function && c.env.kindOf x == some .cell) then NameKind.cell else k := fun x => lookup_relabel
 refine ⟨fun x h => ?_, fun x h => ?_, fun x h => ?_⟩
 ·rw [look, h]; rfl
 ·rw [look, h]; rfl
 ·unfold isCell at h
  split at h
  ·rename_i e; exact absurd rfl (O.cells _ (PySem.mem_of_lookup e))
  ·rename_i e
   refine ⟨?_, ?_⟩
   ·rw [look, e]
    simp only [Option.map_some]
    split
    ·exact .inl rfl
    ·exact .inr rfl
   ·show ∃ a, cl.lookup x = some a
    rw [hcl x e]
    exact (SO.cell x (O.free _ (PySem.mem_of_lookup e) rfl)).2
  ·cases h
theorem comp_vars (SO : ScOK sc c.env) (O : CompOK S sc sc' c.env nms) (hcl : ∀ nm, sc'.names.lookup nm = some .free → cl.lookup nm = c.env.cells.lookup nm) {loc l' : Loc} (Vs : VarsOK S c sc ρ loc)
  {ρ' : List Addr} (k : ρ <+: ρ') (hv : ∀ j w nmj, l' j = some w → S.T[j]? = some nmj → nmj ∈ nms → ∃ x, m' nmj = some x ∧ VR ρ' w x) (hm : ∀ j nmj, S.T[j]? = some nmj → nmj ∉ nms → l' j = loc j) (hk : ∀ p ∈ c.kp, p ∈ kp') : VarsOK S (compCx c sc' cl C m' kp') sc' ρ' l' := by
 intro j w nmj hj hT hin
 have SO' := comp_sc (C := C) SO O hcl
 unfold inScope at hin
 split at hin
 ·rename_i e
  have hmem := PySem.mem_of_lookup e
  rcases O.only _ hmem rfl with q | q
  ·obtain ⟨x, hx, hv⟩ := hv j w nmj hj hT q
   exact ⟨x, .inl ⟨SO'.loc _ e, hx⟩, hv⟩
  ·exact absurd (List.mem_of_getElem? hT) q
 ·rename_i e; exact absurd rfl (O.cells _ (PySem.mem_of_lookup e))
 ·rename_i e
  rw [hm j nmj hT fun q => by rw [O.own _ q] at e; cases e] at hj
  have hc := O.free _ (PySem.mem_of_lookup e) rfl
  obtain ⟨y, h1, h2⟩ := Vs j w nmj hj hT (isCell_in hc)
  have hk' := (SO.cell nmj hc).1
  rcases h1 with ⟨q, _⟩ | ⟨_, a, o, q1, q2, q3⟩
  ·rw [q] at hk'; rcases hk' with q | q <;> cases q
  ·exact ⟨y, .inr ⟨(SO'.cell nmj (by unfold isCell; rw [e])).1, a, o, by show cl.lookup nmj = some a; rw [hcl nmj e]; exact q1, hk _ q2, q3⟩, h2.mono k⟩
 ·cases hin
end
theorem compLoop_go {prog : Program} {w : World} {A : Around} {s : Shared} {R : Result → Shared → Prop} {elt target iter : Expr} {ifs : List Expr} {scope : Scope} {pos : Pos} {it acc : Value} {env : Env} (I : Nat → Shared → Prop)
  (turn : ∀ n s, I n s → wpAny (model prog w) A (pyNext it) (fun r s₁ => match r with
   | none => R (.ok .next) s₁
   | some v => wpAny (model prog w) A (letOwnedTupleGo target it v) (fun _ s₀ => wpAny (model prog w) A (assign target env v) (fun _ s₂ =>
     wpAny (model prog w) A (condTree ifs env) (fun ok s₃ =>
      if ok = true then wpAny (model prog w) A (eval elt env) (fun x s₄ =>
       wpAny (model prog w) A (call (.builtin "list.append") [acc, x]) (fun _ s₅ => ∃ m, m < n ∧ I m s₅) (notedBy (model prog w) A env fun e s' => R (.error e) s') s₄) (notedBy (model prog w) A env fun e s' => R (.error e) s') s₃
      else ∃ m, m < n ∧ I m s₃) (notedBy (model prog w) A env fun e s' => R (.error e) s') s₂) (notedBy (model prog w) A env fun e s' => R (.error e) s') s₀) (notedBy (model prog w) A env fun e s' => R (.error e) s') s₁) (notedBy (model prog w) A env fun e s' => R (.error e) s') s)
  (n : Nat) (h : I n s) :
  codeAny (model prog w) A (.compLoop (.ListComp elt [⟨target, iter, ifs, 0⟩] scope pos) 0 it acc env) R s := by
 refine codeAny_loop rfl I (fun n s hI => ?_) n h
 show wpAny _ A ((compTurn (.ListComp elt [⟨target, iter, ifs, 0⟩] scope pos) 0 it acc env).onRaise (fun x => do noteFrame x env; theTreesLotGoes x)) _ _ s
 refine wpAny_noted ?_
 rw [compTurn_list]
 refine wpAny_bind (wpAny_standAt (wpAny_bind (wpAny_mono (turn n s hI) (fun r s₁ h₁ => ?_) fun _ _ h' => h')))
 cases r with
 | none => exact wpAny_pure h₁
 | some v =>
  refine wpAny_bind (wpAny_mono h₁ (fun _ s₀ h₀ => ?_) fun _ _ h' => h')
  refine wpAny_bind (wpAny_mono h₀ (fun _ s₂ h₂ => wpAny_bind (wpAny_mono h₂ (fun ok s₃ h₃ => ?_) fun _ _ h' => h')) fun _ _ h' => h')
  cases ok with
  | false => exact wpAny_pure ⟨rfl, h₃⟩
  | true => exact wpAny_bind (wpAny_bind (wpAny_mono h₃ (fun x s₄ h₄ => wpAny_bind (wpAny_mono h₄ (fun _ s₅ h₅ => wpAny_pure (wpAny_pure ⟨rfl, h₅⟩)) fun _ _ h' => h')) fun _ _ h' => h'))
theorem go_it {A : Around} {E : Value → Shared → Prop} {s : Shared} {I : Addr} {v : V} {σ : H} {i : Nat} {Q : Unit → Shared → Prop} {target : Expr} {x : Value} (t : ItAt s.heap I ρ v σ i) (h : Q () s) : wpAny (model S.prog S.w) A (letOwnedTupleGo target (.ref I) x) Q E s := by
 unfold ItAt at t
 cases v with
 | ref a =>
  obtain ⟨B, _, t⟩ := t
  cases hk : σ.get a with
  | none => rw [hk] at t; exact t.elim
  | some o =>
   rw [hk] at t
   cases o with
   | list xs => exact letGo_listiter t h
   | tup xs => exact letGo_tupleiter t h
   | rng a b z =>
    unfold letOwnedTupleGo
    cases target <;> first
     | exact wpAny_pure h
     | (cases x <;> first
       | exact wpAny_pure h
       | (refine wpAny_bind (wpAny_load t ?_); exact wpAny_pure h))
   | _ => exact t.elim
 | str st =>
  obtain ⟨_, o, t, hc, hd⟩ := t
  unfold letOwnedTupleGo
  cases target <;> first
   | exact wpAny_pure h
   | (cases x <;> first
     | exact wpAny_pure h
     | (refine wpAny_bind (wpAny_load t ?_); rw [hc, hd]; exact wpAny_pure h))
 | _ => exact t.elim
theorem upd_self {l : Loc} {i : Nat} {v : V} : l.upd i v i = some v := by simp [Loc.upd]
theorem upd_other {l : Loc} {i j : Nat} {v : V} (h : j ≠ i) : l.upd i v j = l j := by unfold Loc.upd; rw [beq_eq_false_iff_ne.mpr h]; rfl
theorem bind_two {i j : Nat} {y : V} {loc l' : Loc} {σ : H} (h : bindTg [i, j] true y loc σ = some l') : ∃ a u v, y = .ref a ∧ σ.get a = some (.tup [u, v]) ∧ l' = (loc.upd i u).upd j v := by
 unfold bindTg at h
 cases y with
 | ref a =>
  refine ⟨a, ?_⟩
  dsimp only at h
  cases hq : σ.get a with
  | none => rw [hq] at h; cases h
  | some o =>
   rw [hq] at h
   cases o with
   | tup xs =>
    match xs, h with
    | [u, v], h => cases h; exact ⟨u, v, rfl, rfl, rfl⟩
    | [], h => cases h
    | [_], h => cases h
    | _ :: _ :: _ :: r, h =>
     have h : (if r.length + 3 = 2 then _ else none) = some l' := h
     rw [if_neg (by lia)] at h; cases h
   | _ => cases h
 | _ => cases h
theorem tg_two {A : Around} {E : Value → Shared → Prop} {s : Shared} {env : Env} (hh : A.handled = none) (nk : (env.scope.kind == .class || (env.scope.kind == .module && env.locals != env.globals)) = false) {na nb : Str} {pa pb p : Pos} {k : Nat} (o1 : env.kindOf na = some .local) (o2 : env.kindOf nb = some .local) (ne : na ≠ nb)
  {h₀ : Heap} {mC : Str → Option Value} {fs : Fs} {kp os : List (Addr × Obj)} {σ : H} (hl : Led S h₀ env.locals mC fs kp os σ s.heap) {T : Addr} {x1 x2 : Value} (hT : s.heap.IsTuple T #[x1, x2]) {Q : Unit → Shared → Prop}
  (h : ∀ h₅ m₅ tk₅, Led S h₀ env.locals m₅ fs kp os σ h₅ → m₅ na = some x1 → m₅ nb = some x2 → Q () { s with heap := h₅, toks := tk₅ }) :
  wpAny (model S.prog S.w) A (assign (.Tuple [.Name na pa, .Name nb pb] k p) env (.ref T)) Q E s := by
 refine wpAny_assign_Tuple hh hT rfl rfl fun h₃ hx₃ => ?_
 have l₃ := hl.keep (h' := h₃) fun b o e => hx₃ b o (Nat.ne_of_lt (Heap.lt_size e)) e
 show wpAny _ A (do holding [x2] (assign (.Name na pa) env x1); do holding [] (assign (.Name nb pb) env x2); pure ()) _ _ _
 refine wpAny_bind (wpAny_holding (wpAny_assign_Name (wpAny_storeName_local (env := env) o1 l₃.fr.ns (fun h₄ hn₄ hs₄ => ?_) nk)))
 have l₄ := l₃.lset hn₄ hs₄
 refine wpAny_bind (wpAny_holding (wpAny_assign_Name (wpAny_storeName_local (env := env) o2 l₄.fr.ns (fun h₅ hn₅ hs₅ => wpAny_pure ?_) nk)))
 exact h _ _ _ (l₄.lset hn₅ hs₅) (by simp [ne]) (by simp)
theorem tg_assign {A : Around} {E : Value → Shared → Prop} {s : Shared} {sc sc' : Scope} (nd : S.T.Nodup) (hh : A.handled = none) {tg : List Nat} {tup : Bool} {tgt : Expr} (hck : ckTg S.nam tg tup tgt = true) {env : Env} (O : CompOK S sc sc' env (tgNms tup tgt))
  {cl : List (Str × Addr)} {C : Addr} {h₀ : Heap} {mC : Str → Option Value} {fs : Fs} {kp os : List (Addr × Obj)} {σ : H} (hl : Led S h₀ C mC fs kp os σ s.heap) {y : V} {x : Value} (hx : VR (adr os) y x) {loc l' : Loc} (hb : bindTg tg tup y loc σ = some l') {Q : Unit → Shared → Prop}
  (h : ∀ h₅ m₅ tk₅, Led S h₀ C m₅ fs kp os σ h₅ → (∀ j w nmj, l' j = some w → S.T[j]? = some nmj → nmj ∈ tgNms tup tgt → ∃ x, m₅ nmj = some x ∧ VR (adr os) w x) → (∀ j nmj, S.T[j]? = some nmj → nmj ∉ tgNms tup tgt → l' j = loc j) → Q () { s with heap := h₅, toks := tk₅ }) :
  wpAny (model S.prog S.w) A (assign tgt (compEnvC sc' cl C env) x) Q E s := by
 have nk : ((compEnvC sc' cl C env).scope.kind == .class || ((compEnvC sc' cl C env).scope.kind == .module && (compEnvC sc' cl C env).locals != (compEnvC sc' cl C env).globals)) = false := by show (sc'.kind == .class || (sc'.kind == .module && _)) = false; rw [O.kind]; rfl
 have inj : ∀ {i j : Nat} {nm : Str}, S.T[i]? = some nm → S.T[j]? = some nm → j = i := fun h1 h2 => (List.getElem?_inj (List.getElem?_eq_some_iff.mp h2).1 nd).mp (h2.trans h1.symm)
 cases tup with
 | false =>
  obtain ⟨i, hi, hck⟩ := onO_eq (show onO (one tg) _ = true from hck)
  have hn : S.T[i]? = some (ptE tgt).nm := of_decide_eq_true (and_t hck).2
  have e1 : tgNms false tgt = [(ptE tgt).nm] := rfl
  have hl' : l' = loc.upd i y := by rw [one_eq hi] at hb; exact (Option.some.inj hb).symm
  rw [t_name (and_t hck).1]
  refine wpAny_assign_Name (wpAny_storeName_local (env := compEnvC sc' cl C env) (lookup_relabel_local (O.own _ (.head _))) hl.fr.ns (fun h₅ hn₅ hs₅ => h _ _ _ (hl.lset hn₅ hs₅) (fun j w nmj hj hT hm => ?_) fun j nmj hT hm => ?_) nk)
  ·have hm := List.mem_singleton.mp hm
   rw [hm] at hT
   rw [hl', inj hn hT, upd_self] at hj
   exact ⟨x, if_pos hm, by rw [← Option.some.inj hj]; exact hx⟩
  ·rw [hl']
   exact upd_other fun q => hm (by rw [q, hn] at hT; exact List.mem_singleton.mpr (Option.some.inj hT).symm)
 | true =>
  obtain ⟨⟨i, j⟩, hi, hck⟩ := onO_eq (show onO (two tg) _ = true from hck)
  obtain ⟨⟨a, b⟩, ha, hck⟩ := onO_eq hck
  obtain ⟨h1, hck⟩ := (Bool.and_eq_true _ _).mp hck
  obtain ⟨h2, hck⟩ := (Bool.and_eq_true _ _).mp hck
  obtain ⟨h3, hck⟩ := (Bool.and_eq_true _ _).mp hck
  obtain ⟨h4, hck⟩ := (Bool.and_eq_true _ _).mp hck
  obtain ⟨h5, h6⟩ := (Bool.and_eq_true _ _).mp hck
  have n1 : S.T[i]? = some (ptE a).nm := of_decide_eq_true h4
  have n2 : S.T[j]? = some (ptE b).nm := of_decide_eq_true h5
  have ne : (ptE a).nm ≠ (ptE b).nm := of_decide_eq_true h6
  have e1 : tgNms true tgt = [(ptE a).nm, (ptE b).nm] := by unfold tgNms; rw [two_eq ha]; rfl
  rw [two_eq hi] at hb
  obtain ⟨q, u, v, hy, hq, hl'⟩ := bind_two hb
  rw [hy] at hx
  obtain ⟨T, ob, hx, _, _, ⟨vs, m, rfl, hvs, _⟩, hT, _⟩ := hl.ref List.prefix_rfl hq hx
  obtain ⟨x1, x2, rfl, hu, hv⟩ := hvs.inv2
  rw [t_tup h1, two_eq ha, t_name (e := a) h2, t_name (e := b) h3, hx]
  refine tg_two hh nk (lookup_relabel_local (O.own _ (by rw [e1]; exact .head _))) (lookup_relabel_local (O.own _ (by rw [e1]; exact .tail _ (.head _)))) ne hl ⟨_, hT, rfl, m, rfl⟩ fun h₅ m₅ tk₅ l₅ q1 q2 => h _ _ _ l₅ (fun j' w nmj hj hN hm => ?_) fun j' nmj hN hm => ?_
  ·rw [e1] at hm
   rw [hl'] at hj
   rcases List.mem_cons.mp hm with hm | hm
   ·rw [hm] at hN ⊢
    have ij : i ≠ j := fun e => ne (by rw [e, n2] at n1; exact (Option.some.inj n1).symm)
    rw [inj n1 hN, upd_other ij, upd_self] at hj
    exact ⟨x1, q1, by rw [← Option.some.inj hj]; exact hu⟩
   ·rw [List.mem_singleton.mp hm] at hN ⊢
    rw [inj n2 hN, upd_self] at hj
    exact ⟨x2, q2, by rw [← Option.some.inj hj]; exact hv⟩
  ·rw [e1] at hm
   have z1 : j' ≠ j := fun e => hm (by rw [e, n2] at hN; rw [← Option.some.inj hN]; exact .tail _ (.head _))
   have z2 : j' ≠ i := fun e => hm (by rw [e, n1] at hN; rw [← Option.some.inj hN]; exact .head _)
   rw [hl', upd_other z1, upd_other z2]
theorem compL_inv {v : V} {tg : List Nat} {tup : Bool} {t : Loc → X Bool} {e : Loc → X V} {loc : Loc} {σ σ₁ σ' : H} {y : V} {ys : List V} {r : R (List V)} (h : compL v tg tup t e loc σ (y :: ys) σ₁ = some (r, σ')) :
  ∃ ly b σ₂, bindTg tg tup y loc σ₁ = some ly ∧ t ly σ₁ = some (.ok b, σ₂) ∧ (b = false → still v σ σ₂ = true ∧ compL v tg tup t e loc σ ys σ₂ = some (r, σ')) ∧ (b = true → (∃ w σ₃ r', e ly σ₂ = some (.ok w, σ₃) ∧ still v σ σ₃ = true ∧ compL v tg tup t e loc σ ys σ₃ = some (r', σ') ∧ r = rpre [w] r') ∨ ∃ k, e ly σ₂ = some (.err k, σ') ∧ r = .err k) := by
 unfold compL at h
 cases hb : bindTg tg tup y loc σ₁ with
 | none => rw [hb] at h; cases h
 | some ly =>
  rw [hb] at h
  dsimp only at h
  cases hq : t ly σ₁ with
  | none => rw [hq] at h; cases h
  | some p =>
   obtain ⟨tr, σ₂⟩ := p
   rw [hq] at h
   cases tr with
   | err q => cases h
   | ok b =>
    refine ⟨ly, b, σ₂, rfl, hq, ?_, ?_⟩
    ·rintro rfl
     dsimp only at h
     split at h
     ·rename_i hst; exact ⟨hst, h⟩
     ·cases h
    ·rintro rfl
     dsimp only at h
     cases hq₂ : e ly σ₂ with
     | none => rw [hq₂] at h; cases h
     | some p₂ =>
      obtain ⟨er, σ₃⟩ := p₂
      rw [hq₂] at h
      cases er with
      | err q => cases h; exact .inr ⟨q, rfl, rfl⟩
      | ok w =>
       dsimp only at h
       split at h
       ·rename_i hst
        split at h
        ·cases h
        ·rename_i q σ₄ hq₃; cases h; exact .inl ⟨w, σ₃, .err q, rfl, hst, hq₃, rfl⟩
        ·rename_i ws σ₄ hq₃; cases h; exact .inl ⟨w, σ₃, .ok ws, rfl, hst, hq₃, rfl⟩
       ·cases h
inductive CoI (S : Sig) (c : Cx) (C I D : Addr) (v : V) (σ σ' : H) (vs : List V) (f : List V → H → Option (R (List V) × H)) (r : R (List V)) (os : List (Addr × Obj)) (s : Shared) (k : Nat) (s' : Shared) : Prop
 | mk (h' : Heap) (tk : Nat) (os' : List (Addr × Obj)) (σ₁ : H) (mC : Str → Option Value) (o : Obj) (ys : List Value) (kk : Nat) (done : List V) (j : Nat) (r' : R (List V)) (e1 : s' = { s with heap := h', toks := tk }) (kp : adr os <+: adr os')
   (l : Led S c.h₀ C mC ((c.L, c.m) :: c.fs) (c.kp ++ (I, o) :: (D, W.listOf (List.toArray ys) kk) :: []) os' σ₁ h') (it : ItAt h' I (adr os') v σ₁ j) (st : still v σ σ₁ = true) (dn : All2 (VR (adr os')) done ys)
   (hL : f (vs.drop j) σ₁ = some (r', σ')) (hr : r = rpre done r') (h1 : done.length ≤ j) (h2 : j ≤ vs.length) (h3 : k = vs.length + 1 - j) : CoI S c C I D v σ σ' vs f r os s k s'
theorem comp_gen {M : Program} {w : World} {A : Around} {s : Shared} {R : Result → Shared → Prop} {elt target iter : Expr} {ifs : List Expr} {scope : Scope} {pos : Pos} {it acc : Value} {env : Env} (I : Nat → Shared → Prop)
  (turn : ∀ n s, I n s → ∀ (P : Option Value → Shared → Prop) (E' : Value → Shared → Prop), (∀ s₁, R (.ok .next) s₁ → P none s₁) →
   (∀ v s₁, (∀ B : Unit → Shared → Prop, (∀ s₂, (∀ T : Bool → Shared → Prop, (∀ m s₃, m < n → I m s₃ → T false s₃) → (∀ s₃, (∀ X : Value → Shared → Prop, (∀ x s₄, (∀ Y : Value → Shared → Prop, (∀ u m s₅, m < n → I m s₅ → Y u s₅) → wpAny (model M w) A (call (.builtin "list.append") [acc, x]) Y E' s₄) → X x s₄) → wpAny (model M w) A (eval elt env) X E' s₃) → T true s₃) →
     wpAny (model M w) A (condTree ifs env) T E' s₂) → B () s₂) → wpAny (model M w) A (letOwnedTupleGo target it v) (fun _ s' => wpAny (model M w) A (assign target env v) B E' s') E' s₁) → P (some v) s₁) →
   (∀ x s₁, notedBy (model M w) A env (fun e s' => R (.error e) s') x s₁ → E' x s₁) →
   wpAny (model M w) A (pyNext it) P E' s) (n : Nat) (h : I n s) : codeAny (model M w) A (.compLoop (.ListComp elt [⟨target, iter, ifs, 0⟩] scope pos) 0 it acc env) R s :=
 compLoop_go I (fun n s hI => turn n s hI _ _ (fun s₁ h₁ => h₁) (fun v s₁ h₁ => h₁ _ fun s₂ h₂ => h₂ _ (fun m s₃ hm h₃ => by rw [if_neg Bool.false_ne_true]; exact ⟨m, hm, h₃⟩) fun s₃ h₃ => by rw [if_pos rfl]; exact h₃ _ fun x s₄ h₄ => h₄ _ fun u m s₅ hm h₅ => ⟨m, hm, h₅⟩) fun _ _ h₁ => h₁) n h
theorem comp_loop {n : Nat} (K : CtxOK S n c) {sc sc' : Scope} (SO : ScOK sc c.env) {loc : Loc} (Vs : VarsOK S c sc ρ loc) (nd : S.T.Nodup) {tg : List Nat} {tup : Bool} {tgt : Expr} {pos : Pos} {ite elt : Expr} {ifs : List Expr}
  (hck : ckTg S.nam tg tup tgt = true) (O : CompOK S sc sc' c.env (tgNms tup tgt)) {cl : List (Str × Addr)} (hcl : ∀ nm, sc'.names.lookup nm = some .free → cl.lookup nm = c.env.cells.lookup nm) {t : Loc → X Bool} {e : Loc → X V}
  (ht : ∀ (c' : Cx) (ρ' : List Addr) (loc' : Loc), CtxOK S n c' → ScOK sc' c'.env → VarsOK S c' sc' ρ' loc' → SM S c' ρ' EqR (condTree ifs c'.env) (t loc'))
  (he : ∀ (c' : Cx) (ρ' : List Addr) (loc' : Loc), CtxOK S n c' → ScOK sc' c'.env → VarsOK S c' sc' ρ' loc' → SM S c' ρ' VR (eval elt c'.env) (e loc'))
  {os : List (Addr × Obj)} {σ σ' : H} {s : Shared} {v : V} {vs : List V} {r : R (List V)} (hp : ρ <+: adr os) (hi : iterOf v σ = some vs) (hL : compL v tg tup t e loc σ vs σ = some (r, σ')) {C I D : Addr} {mC : Str → Option Value} {o₀ : Obj} {h₂ : Heap}
  (l₃ : Led S c.h₀ C mC ((c.L, c.m) :: c.fs) (c.kp ++ (I, o₀) :: (D, W.listOf (List.toArray []) 0) :: []) os σ h₂) (it₃ : ItAt h₂ I (adr os) v σ 0) {R : Result → Shared → Prop}
  (fin : ∀ ws, r = .ok ws → ∀ (os' : List (Addr × Obj)) (h' : Heap) (tk : Nat) (mC : Str → Option Value) (ys : List Value) (k : Nat), adr os <+: adr os' → Led S c.h₀ C mC ((c.L, c.m) :: c.fs) (c.kp ++ (D, W.listOf (List.toArray ys) k) :: []) os' σ' h' →
   All2 (VR (adr os')) ws ys → R (.ok .next) { s with heap := h', toks := tk })
  (flt : ∀ k, r = .err k → ∀ (os' : List (Addr × Obj)) (h' : Heap) (tk : Nat) (mC : Str → Option Value) (o : Obj) (ys : List Value) (kk : Nat) (x : Value), adr os <+: adr os' → (compCx c sc' cl C mC (c.kp ++ (I, o) :: (D, W.listOf (List.toArray ys) kk) :: [])).led S os' σ' h' → Fly S (compCx c sc' cl C mC (c.kp ++ (I, o) :: (D, W.listOf (List.toArray ys) kk) :: [])) os' x k h' →
   notedBy (model S.prog S.w) c.A (compEnvC sc' cl C c.env) (fun e s' => R (.error e) s') x { s with heap := h', toks := tk }) :
  codeAny (model S.prog S.w) c.A (.compLoop (.ListComp elt [⟨tgt, ite, ifs, 0⟩] sc' pos) 0 (.ref I) (.ref D) (compEnvC sc' cl C c.env)) R { s with heap := h₂ } := by
 refine comp_gen (CoI S c C I D v σ σ' vs (compL v tg tup t e loc σ) r os s) ?_ (vs.length + 1)
  ⟨h₂, s.toks, os, σ, _, o₀, [], 0, [], 0, r, rfl, List.prefix_rfl, l₃, it₃, still_refl v σ, .nil, by simpa using hL, by cases r <;> rfl, Nat.zero_le _, Nat.zero_le _, rfl⟩
 rintro k s' ⟨h', tk, os', σ₁, mC, o, ys, kk, done, j, r', rfl, kp', l', it', st, hdone, hL', hr, hdl, hj, rfl⟩ P E₀ hP hB hE
 have hi' : iterOf v σ₁ = some vs := (still_iter st).trans hi
 cases hvj : vs[j]? with
 | none =>
  have hjv : vs.length ≤ j := List.getElem?_eq_none_iff.mp hvj
  rw [List.drop_eq_nil_of_le hjv] at hL'
  cases hL'
  refine it_done K.hand l' it' hi' hvj fun h₄ l₄ => ?_
  have hr' : r = .ok done := by rw [hr]; simp [rpre]
  exact hP _ (fin done hr' os' h₄ tk mC ys kk kp' l₄ hdone)
 | some y =>
  obtain ⟨hjl, hjy⟩ := List.getElem?_eq_some_iff.mp hvj
  rw [List.drop_eq_getElem_cons hjl, hjy] at hL'
  obtain ⟨ly, b, σ₂, hb, hq, hF, hT⟩ := compL_inv hL'
  refine it_next l' it' hi' hvj fun o' h₄ tk₄ xv l₄ it₄ hxv => hB _ _ fun B hB => go_it (s := { s with heap := h₄, toks := _ }) it₄ ?_
  refine tg_assign (s := { s with heap := h₄, toks := _ }) nd K.hand hck O (cl := cl) l₄ hxv hb fun h₅ m₅ tk₅ l₅ hm₅ hm₅' => hB _ fun T hF0 hT0 => ?_
  have it₅ : ItAt h₅ I (adr os') v σ₁ (j + 1) := it₄.at (fun ob q => by rw [(l₄.news (I, o') (by simp)).1] at q; cases q; exact (l₅.news (I, o') (by simp)).1) List.prefix_rfl (still_refl v σ₁)
  let c' := compCx c sc' cl C m₅ (c.kp ++ (I, o') :: (D, W.listOf (List.toArray ys) kk) :: [])
  have K' : CtxOK S n c' := comp_ctx K O
  have S' : ScOK sc' c'.env := comp_sc SO O hcl
  have V' : VarsOK S c' sc' (adr os') ly := comp_vars SO O hcl Vs (hp.trans kp') hm₅ hm₅' (fun p hp => List.mem_append_left _ hp)
  have T' := ht c' (adr os') ly K' S' V'
  have E' := he c' (adr os') ly K' S' V'
  refine T' os' σ₁ { s with heap := h₅, toks := tk₅ } _ _ List.prefix_rfl l₅ hq _ _ fun os₆ h₆ tk₆ b' k₆ l₆ hb' => ?_
  subst hb'
  have memI : ∀ {hh : Heap} {oo : List (Addr × Obj)} {ss : H}, Cx.led S c' oo ss hh → hh.get? I = some o' := fun l => (l.news (I, o') (by simp [c'])).1
  cases b with
  | false =>
   obtain ⟨hst, hL'⟩ := hF rfl
   refine hF0 (vs.length + 1 - (j + 1)) _ (Nat.sub_succ_lt_self _ _ (Nat.lt_succ_of_le hj)) ⟨h₆, tk₆, os₆, σ₂, _, o', ys, kk, done, j + 1, r', rfl, kp'.trans k₆, l₆, it₅.at (fun ob q => ?_) k₆ (still_trans (still_sym st) hst), hst, VRs.mono k₆ hdone, hL', hr, by lia, hjl, rfl⟩
   rw [memI l₅] at q; cases q; exact memI l₆
  | true =>
   refine hT0 _ fun X hX => ?_
   rcases hT rfl with ⟨w, σ₃, r'', hq₂, hst, hL'', hr''⟩ | ⟨kx, hq₂, hr''⟩
   rotate_left
   ·rw [hr''] at hr
    exact E' os₆ σ₂ { s with heap := h₆, toks := tk₆ } _ _ k₆ l₆ hq₂ _ _ fun os₇ h₇ tk₇ x k₇ l₇ f => hE _ _ (flt kx hr os₇ h₇ tk₇ m₅ o' ys kk x (kp'.trans (k₆.trans k₇)) l₇ f)
   refine E' os₆ σ₂ { s with heap := h₆, toks := tk₆ } _ _ k₆ l₆ hq₂ _ _ fun os₇ h₇ tk₇ wv k₇ l₇ hwv => hX _ _ fun Y hY => ?_
   have hD' : h₇.get? D = some (W.listOf (List.toArray ys) kk) := (l₇.news (D, W.listOf (List.toArray ys) kk) (by simp [c'])).1
   have hlen : ys.length ≤ lim := by
    have h1 := hdone.length
    have h2 := iter_len (s := { s with heap := h' }) l' hi'
    lia
   refine append_at hD' (fun h₈ hs₈ hx₈ => ?_) (by rw [List.size_toArray]; exact Nat.le_trans hlen lim_le)
   have l₇' : Led S c.h₀ C m₅ ((c.L, c.m) :: c.fs) ((c.kp ++ (I, o') :: []) ++ (D, W.listOf (List.toArray ys) kk) :: []) os₇ σ₃ h₇ := by simpa using l₇
   have l₈ := l₇'.kset hs₈ hx₈
   have hID : I ≠ D := by
    have := l₇'.kmid.2.2.2.2 (I, o') (by simp)
    exact this
   refine hY _ (vs.length + 1 - (j + 1)) _ (Nat.sub_succ_lt_self _ _ (Nat.lt_succ_of_le hj)) ⟨h₈, tk₇, os₇, σ₃, _, o', ys ++ [wv], kk + 1, done ++ [w], j + 1, r'', rfl, kp'.trans (k₆.trans k₇), by simpa using l₈, it₅.at (fun ob q => ?_) (k₆.trans k₇) (still_trans (still_sym st) hst), hst,
    (VRs.mono (k₆.trans k₇) hdone).append (.one hwv), hL'', ?_, by simp; exact hdl, hjl, rfl⟩
   ·rw [memI l₅] at q; cases q; exact (hs₈.2 _ hID).trans (memI l₇)
   ·rw [hr, hr'']; cases r'' <;> simp [rpre]
theorem comp_fly {n : Nat} (K : CtxOK S n c) {sc' : Scope} {cl : List (Str × Addr)} {C I D : Addr} {mC : Str → Option Value} {os₀ os : List (Addr × Obj)} {σ₀ σ : H} {h₀' : Heap} {s : Shared} {o oD : Obj} {k : Nat} {x : Value} {use : Option (Value → Sem Unit)} {Q : Value → Shared → Prop} {E : Value → Shared → Prop} {acc : Value} (hl₀ : c.led S os₀ σ₀ h₀')
  (l : (compCx c sc' cl C mC (c.kp ++ (I, o) :: (D, oD) :: [])).led S os σ s.heap) (f : Fly S (compCx c sc' cl C mC (c.kp ++ (I, o) :: (D, oD) :: [])) os x k s.heap)
  (hE : ∀ h', c.led S os σ h' → Fly S c os x k h' → E x { s with heap := h' }) : notedBy (model S.prog S.w) c.A (compEnvC sc' cl C c.env) (fun e s' => compPost (model S.prog S.w) c.A E use Q acc C (.error e) s') x s := by
 obtain ⟨a, X, B, fr, rfl, hX, hfr, FB, hB, hkB⟩ := f
 obtain ⟨ev, outer, L, t1, t2, t3⟩ := K.own
 obtain rfl : ev :: outer = fr := Option.some.inj (t1.symm.trans hfr)
 unfold notedBy
 rw [noteFrame_congr (env := compEnvC sc' cl C c.env) (env' := ev) (t3.trans t2.symm)]
 refine fly_note t1 t2 FB fun h₄ a0 held sm₄ => ?_
 have l₄ := l.slots sm₄ (fun b o q => held.1 b o (hB b o q)) fun p hp => held.1 _ _ (hkB p hp)
 refine ⟨mC, l₄.fr.ns, fun h₅ hs cenv _ => ?_⟩
 obtain ⟨oC, hC, hCd⟩ := ns_there l₄.fr.ns
 obtain ⟨oe, vs, T, oT, ts, he, hcls, hd, h1, hnT, hTe, hT, hdT, h3⟩ := held.2.2.2
 have aC : a ≠ C := fun q => by rw [q, hC] at he; cases he; exact hCd _ hd
 have TC : T ≠ C := fun q => by rw [q, hC] at hT; cases hT; exact hCd _ hdT
 have frC : ∀ e ∈ ev :: outer, ∀ b, e.frame = some b → b ≠ C := fun e he b hb q => by
  obtain ⟨fr, g1, g2⟩ := K.frs
  obtain rfl : ev :: outer = fr := Option.some.inj (t1.symm.trans g1)
  obtain ⟨_, b', g3, g4⟩ := g2 e he
  rw [hb] at g3; cases g3
  rcases List.mem_cons.mp g4 with g4 | g4
  ·exact (l.outs _ (.head _)).2.1 (by rw [← q, g4])
  ·obtain ⟨fx, hfx, rfl⟩ := List.mem_map.mp g4
   exact (l.outs fx (.tail _ hfx)).2.1 q
 have B' : ∀ b ob, (hideAll B [C]).get? b = some ob → B.get? b = some ob ∧ b ≠ C := fun b ob q => ⟨of_hideAll _ q, fun e => by rw [e, hideAll_none _ (by simp)] at q; cases q⟩
 have st5 : (hideAll B [C]).StaysIn h₅ := fun b ob q => (hs.2 b (B' b ob q).2).trans (held.1 b ob (B' b ob q).1)
 have none' : ∀ {b}, B.get? b = none → (hideAll B [C]).get? b = none := fun {b} q => by
  cases e : (hideAll B [C]).get? b with
  | none => rfl
  | some ob => rw [(B' b ob e).1] at q; cases q
 have ff5 : h₅.FunFrames (hideAll B [C]) (ev :: outer) := funFrames_intro fun e he => by
  obtain ⟨fr, g1, g2⟩ := K.frs
  obtain rfl : ev :: outer = fr := Option.some.inj (t1.symm.trans g1)
  obtain ⟨g0, b, g3, _⟩ := g2 e he
  obtain ⟨m1, o1, m2, m3⟩ := held.2.2.1.mem (List.mem_filterMap.mpr ⟨e, he, g3⟩)
  exact ⟨g0, b, o1, g3, none' m1, (hs.2 b (frC e he b g3)).trans m2, m3⟩
 have tr5 : h₅.TracedAtW (hideAll B [C]) a (.ref X) a0 (rawInt L) := ⟨oe, vs, T, oT, ts, (hs.2 a aC).trans he, hcls, hd, h1, none' hnT, hTe, (hs.2 T TC).trans hT, hdT, h3⟩
 refine fly_pass (s := { s with heap := h₅ }) st5 ff5 tr5 fun h₆ fl' q1 q2 q3 q4 => ?_
 have l₅ : Led S c.h₀ c.L c.m c.fs c.kp os σ h₅ := by
  have l5 := l₄.leave (L := c.L) (m := c.m) hl₀.fr.above (fun fx hfx => (hl₀.outs fx hfx).2.1) (h' := h₅) fun b ob hb q => (hs.2 b hb).trans q
  have l6 : Led S c.h₀ c.L c.m c.fs ((c.kp ++ (I, o) :: []) ++ (D, oD) :: []) os σ h₅ := by simpa using l5
  have l7 := l6.kdrop
  rw [List.append_nil] at l7
  have l8 := l7.kdrop
  rwa [List.append_nil] at l8
 have hB' : c.h₀.StaysIn (hideAll B [C]) := fun b ob q => hideAll_get _ (hB b ob q) (by
  simp only [List.mem_singleton]
  intro e
  rw [e, none_above l.fr] at q; cases q)
 have hkB' : ∀ p ∈ c.kp ++ os, (hideAll B [C]).get? p.1 = some p.2 := fun p hp => by
  have hp' : p ∈ (c.kp ++ (I, o) :: (D, oD) :: []) ++ os := by
   rcases List.mem_append.mp hp with q | q
   ·exact List.mem_append_left _ (List.mem_append_left _ q)
   ·exact List.mem_append_right _ q
  exact hideAll_get _ (hkB p hp') (by
   simp only [List.mem_singleton]
   exact fun e => (l.news p hp').2.1 e)
 exact hE h₆ (l₅.slots q4 (fun b ob q => q1 b ob (hB' b ob q)) fun p hp => q1 _ _ (hkB' p hp)) ⟨a, X, hideAll B [C], _, rfl, hX, hfr, ⟨q1, none' held.2.1, q2, .inr (.inr ⟨a0, fl', q3⟩)⟩, hB', hkB'⟩
theorem comp_core {n : Nat} (K : CtxOK S n c) {sc sc' : Scope} (SO : ScOK sc c.env) {loc : Loc} (Vs : VarsOK S c sc ρ loc) (nd : S.T.Nodup) {tg : List Nat} {tup : Bool} {tgt : Expr} {pos : Pos} {ite elt : Expr} {ifs : List Expr}
  (hck : ckTg S.nam tg tup tgt = true) (O : CompOK S sc sc' c.env (tgNms tup tgt)) {cl : List (Str × Addr)} (hcl : ∀ nm, sc'.names.lookup nm = some .free → cl.lookup nm = c.env.cells.lookup nm) {t : Loc → X Bool} {e : Loc → X V}
  (ht : ∀ (c' : Cx) (ρ' : List Addr) (loc' : Loc), CtxOK S n c' → ScOK sc' c'.env → VarsOK S c' sc' ρ' loc' → SM S c' ρ' EqR (condTree ifs c'.env) (t loc'))
  (he : ∀ (c' : Cx) (ρ' : List Addr) (loc' : Loc), CtxOK S n c' → ScOK sc' c'.env → VarsOK S c' sc' ρ' loc' → SM S c' ρ' VR (eval elt c'.env) (e loc'))
  {os : List (Addr × Obj)} {σ σ' : H} {s : Shared} {v : V} {x : Value} {vs : List V} {r : R (List V)} (hp : ρ <+: adr os) (hl : c.led S os σ s.heap) (hv : VR (adr os) v x) (hi : iterOf v σ = some vs)
  (hL : compL v tg tup t e loc σ vs σ = some (r, σ')) {use : Option (Value → Sem Unit)} {Q : Value → Shared → Prop} {E : Value → Shared → Prop}
  (fin : ∀ ws, r = .ok ws → ∀ (os' : List (Addr × Obj)) (h' : Heap) (tk : Nat) (C : Addr) (mC : Str → Option Value) (D : Addr) (ys : List Value) (k : Nat), adr os <+: adr os' → Led S c.h₀ C mC ((c.L, c.m) :: c.fs) (c.kp ++ (D, W.listOf (List.toArray ys) k) :: []) os' σ' h' →
   All2 (VR (adr os')) ws ys → compPost (model S.prog S.w) c.A E use Q (.ref D) C (.ok .next) { s with heap := h', toks := tk })
  (finE : ∀ k, r = .err k → ∀ (os' : List (Addr × Obj)) (h' : Heap) (tk : Nat) (x : Value), adr os <+: adr os' → c.led S os' σ' h' → Fly S c os' x k h' → E x { s with heap := h', toks := tk }) :
  wpAny (model S.prog S.w) c.A (pyIter x) (fun it s₂ => wpAny (model S.prog S.w) c.A (newList []) (fun acc s₃ => wpAny (model S.prog S.w) c.A (newFunctionEnv sc' c.env.globals cl [] c.env.qual none .none (some c.env)) (fun cenv s₄ =>
   codeAny (model S.prog S.w) c.A (.compStart (.ListComp elt [⟨tgt, ite, ifs, 0⟩] sc' pos) 0 it acc { cenv with scope := relabel sc' c.env }) (compPost (model S.prog S.w) c.A E use Q acc cenv.locals) s₄) E s₃) E s₂) E s := by
 refine it_new hl List.prefix_rfl hv hi fun I o₀ h₁ l₁ it₁ => ?_
 refine wpAny_newObj_type (wpAny_newFunctionEnv O.cells (by intro y hy; simp at hy) (fun h₂ hns hsb => ?_) O.kind)
 dsimp only at hns hsb ⊢
 have l₂ := l₁.kpush (x := { cls := .type "list", dict := none, data := .seq ([] : List Value).toArray }) rfl
 generalize hH2 : h₁.push { cls := .type "list", dict := none, data := .seq ([] : List Value).toArray } = H2 at hns hsb l₂ ⊢
 have hold : ∀ b ob, H2.get? b = some ob → h₂.get? b = some ob := fun b ob q => hsb.extBut b ob (Nat.ne_of_lt (Heap.lt_size q)) (Heap.get?_push_of_some _ q)
 have l₃ := l₂.enter hns hold (get_size H2) (Nat.le_refl _)
 have it₃ : ItAt h₂ I (adr os) v σ 0 := it₁.at (fun ob q => hold _ _ (hH2 ▸ Heap.get?_push_of_some _ q)) List.prefix_rfl (still_refl v σ)
 generalize hC : H2.objs.size = C at hns hsb l₃ ⊢
 generalize hD : h₁.objs.size = D at l₃ ⊢
 have hle : c.h₀.objs.size ≤ C := l₃.fr.above
 have loop := comp_loop (ite := ite) (pos := pos) K SO Vs nd hck O hcl ht he (s := { s with toks := s.toks + ([] : List (Str × Value)).length }) hp hi hL (by simpa using l₃) it₃ (R := compPost (model S.prog S.w) c.A E use Q (.ref D) C) (fun ws hr os' h' tk mC ys k => fin ws hr os' h' tk C mC D ys k) fun k hk os' h' tk mC o ys kk x k' l' f => comp_fly K hl l' f fun h'' l'' f'' => finE k hk os' h'' tk x k' l'' f''
 exact codeAny_compStart_list loop (it_self (S := S) it₃ loop)
end Mine.Internal
set_option autoImplicit false
namespace Mine.Internal
open PySem PySem.W PySem.Calls PyProof.Rows
variable {S : Sig} {c : Cx} {ρ : List Addr}
theorem not_set {e : Expr} (h : isSet e = false) (env : Env) (x : Value) : foldedSetIterable e env x = pure x := by
 cases e <;> first | rfl | cases h
section
variable {n : Nat} {sc sc' : Scope} {loc : Loc} {tg : List Nat} {tup : Bool} {tgt : Expr} {pos : Pos} {ite elt : Expr} {ifs : List Expr} {t : Loc → X Bool} {e : Loc → X V}
theorem comp_run (K : CtxOK S n c) (SO : ScOK sc c.env) (Vs : VarsOK S c sc ρ loc) (nd : S.T.Nodup) (hn : ckTg S.nam tg tup tgt = true) (hsc : compScope S.nam sc sc' (tgNms tup tgt) = true) (hset : isSet ite = false) {xi : X V} (hit : SM S c ρ VR (eval ite c.env) xi)
  (ht : ∀ (c' : Cx) (ρ' : List Addr) (loc' : Loc), CtxOK S n c' → ScOK sc' c'.env → VarsOK S c' sc' ρ' loc' → SM S c' ρ' EqR (condTree ifs c'.env) (t loc'))
  (he : ∀ (c' : Cx) (ρ' : List Addr) (loc' : Loc), CtxOK S n c' → ScOK sc' c'.env → VarsOK S c' sc' ρ' loc' → SM S c' ρ' VR (eval elt c'.env) (e loc'))
  {os : List (Addr × Obj)} {σ σ' : H} {s : Shared} {r : R V} (hp : ρ <+: adr os) (hl : c.led S os σ s.heap)
  (hx : X.bind xi (fun v => fun h => match iterOf v h with | none => none | some vs => X.bind (compL v tg tup t e loc h vs) (fun ws => alloc (.list ws)) h) σ = some (r, σ'))
  {use : Option (Value → Sem Unit)} {Q : Value → Shared → Prop} {E : Value → Shared → Prop}
  (fin : ∀ b, r = .ok b → ∀ (os' : List (Addr × Obj)) (h' : Heap) (tk : Nat) (C : Addr) (mC : Str → Option Value) (D : Addr), adr os <+: adr os' → Led S c.h₀ C mC ((c.L, c.m) :: c.fs) c.kp os' σ' h' → VR (adr os') b (.ref D) →
   compPost (model S.prog S.w) c.A E use Q (.ref D) C (.ok .next) { s with heap := h', toks := tk })
  (finE : ∀ k, r = .err k → ∀ (os' : List (Addr × Obj)) (h' : Heap) (tk : Nat) (e : Value), adr os <+: adr os' → c.led S os' σ' h' → Fly S c os' e k h' → E e { s with heap := h', toks := tk }) :
  wpAny (model S.prog S.w) c.A (comprehension (.ListComp elt [⟨tgt, ite, ifs, 0⟩] sc' pos) sc' c.env (firstIterPos [⟨tgt, ite, ifs, 0⟩] pos) (newList []) false (eval ite c.env) use) Q E s := by
 have O : CompOK S sc sc' c.env (tgNms tup tgt) := compOK hsc
 obtain ⟨cl, hclos, hcl⟩ := closure_of (env := c.env) (sc' := sc') fun x hx hf => (SO.cell x.1 (O.free x hx hf)).2
 refine wpAny_comprehension_free (use := use) rfl (not_set hset c.env) hclos O.kind O.locs ?_
 rcases X.bind_inv hx with ⟨v, σ₁, e1, e2⟩ | ⟨k, e1, rfl⟩
 ·refine hit os σ s _ _ hp hl e1 _ _ fun os₁ h₁ tk₁ xv k₁ l₁ hv => ?_
  cases hi : iterOf v σ₁ with
  | none => rw [hi] at e2; cases e2
  | some vs =>
   rw [hi] at e2
   dsimp only at e2
   rcases X.bind_inv e2 with ⟨ws, σ₂, e3, e4⟩ | ⟨k, e3, rfl⟩
   ·refine comp_core K SO (Vs.mono (hp.trans k₁)) nd hn O hcl ht he (s := { s with heap := h₁, toks := tk₁ }) List.prefix_rfl l₁ hv hi e3 (fun ws' hw os' h' tk C mC D ys kk k' l' hys => ?_) ?_
    cases hw
    unfold alloc at e4
    split at e4
    ·rename_i hok
     cases e4
     have hok : ws.length ≤ lim := of_decide_eq_true hok
     have l'' := l'.kmove (o := .list ws) ⟨ys, kk, rfl, hys, hok⟩
     have hv' : VR (adr (os' ++ [(D, W.listOf (List.toArray ys) kk)])) (.ref σ₂.length) (.ref D) := by
      refine ⟨D, ?_, rfl⟩
      rw [l'.len]; simp [adr]
     exact fin _ rfl _ _ _ _ _ _ (k₁.trans (k'.trans adr_new)) l'' hv'
    ·cases e4
    ·exact fun k hk => by cases hk
   ·exact comp_core K SO (Vs.mono (hp.trans k₁)) nd hn O hcl ht he (s := { s with heap := h₁, toks := tk₁ }) List.prefix_rfl l₁ hv hi e3 (fun ws' hw => by cases hw) fun k' hk os' h' tk x kp l f => by cases hk; exact finE k rfl os' h' tk x (k₁.trans kp) l f
 ·exact hit os σ s _ _ hp hl e1 _ _ fun os' h' tk e k' l' f => finE k rfl os' h' tk e k' l' f
theorem sm_comp (K : CtxOK S n c) (SO : ScOK sc c.env) (Vs : VarsOK S c sc ρ loc) (nd : S.T.Nodup) (hn : ckTg S.nam tg tup tgt = true) (hsc : compScope S.nam sc sc' (tgNms tup tgt) = true) (hset : isSet ite = false) {xi : X V} (hit : SM S c ρ VR (eval ite c.env) xi)
  (ht : ∀ (c' : Cx) (ρ' : List Addr) (loc' : Loc), CtxOK S n c' → ScOK sc' c'.env → VarsOK S c' sc' ρ' loc' → SM S c' ρ' EqR (condTree ifs c'.env) (t loc'))
  (he : ∀ (c' : Cx) (ρ' : List Addr) (loc' : Loc), CtxOK S n c' → ScOK sc' c'.env → VarsOK S c' sc' ρ' loc' → SM S c' ρ' VR (eval elt c'.env) (e loc')) :
  SM S c ρ VR (eval (.ListComp elt [⟨tgt, ite, ifs, 0⟩] sc' pos) c.env)
   (X.bind xi fun v => fun h => match iterOf v h with | none => none | some vs => X.bind (compL v tg tup t e loc h vs) (fun ws => alloc (.list ws)) h) := by
 intro os σ s r σ' hp hl hx Q E hQ
 rw [arm_eval_ListComp]
 refine comp_run K SO Vs nd hn hsc hset hit ht he hp hl hx (use := none) (fun b hb os' h' tk C mC D k l hv => ?_) fun k hk => by subst hk; exact hQ
 subst hb
 refine ⟨mC, l.fr.ns, fun h'' hs => ?_⟩
 exact hQ os' h'' tk _ k (l.leave hl.fr.above (fun f hf => (hl.outs f hf).2.1) hs.extBut) hv
end
theorem star_cons {N : Nam} {sc : Scope} {x : Ex} {e : Expr} (h : ckE N sc x e = true) (rest : List Expr) (env : Env) : starEach (e :: rest) env = (false, eval e env) :: starEach rest env := by
 cases e <;> first | rfl | (cases x <;> exact nomatch (show false = true from h))
theorem noStar_of {N : Nam} {sc : Scope} {env : Env} : ∀ {es : Exs} {xs : List Expr}, ckEs N sc es xs = true → NoStar xs env
 | .nil, [], _ => rfl
 | .cons e es, x :: xs, h => by
  have h := (Bool.and_eq_true _ _).mp (show (ckE N sc e x && ckEs N sc es xs) = true from h)
  unfold NoStar
  rw [star_cons h.1, List.all_cons]
  have := noStar_of (env := env) h.2
  unfold NoStar at this
  rw [this]; rfl
 | .nil, _ :: _, h => nomatch (show false = true from h)
 | .cons _ _, [], h => nomatch (show false = true from h)
theorem sm_slice' {e : Expr} {l u : Option Expr} {p pos : Pos} {x lo hi : X V} (hx : SM S c ρ VR (eval e c.env) x) (hlo : SM S c ρ VR (valueOrNone (evalOpt l c.env)) lo) (hhi : SM S c ρ VR (valueOrNone (evalOpt u c.env)) hi) :
  SM S c ρ VR (eval (.Subscript e (.Slice l u none p) pos) c.env) (X.bind x fun o => X.bind lo fun a => X.bind hi fun b => getSlice o a b) := by
 rw [arm_eval_Subscript]
 refine hx.bind fun ρ' a v k ha => ?_
 have hlo' := hlo.mono k
 have hhi' := hhi.mono k
 intro os σ s r σ' hp hl he Q E hQ
 rw [arm_eval_Slice]
 refine wpAny_bind (wpAny_holding (wpAny_bind ?_))
 rcases X.bind_inv he with ⟨la, σ₁, e1, e2⟩ | ⟨q, e1, rfl⟩
 ·refine hlo' os σ s _ _ hp hl e1 _ _ fun os₁ h₁ tk₁ lv k₁ l₁ hlv => wpAny_bind (wpAny_holding ?_)
  rcases X.bind_inv e2 with ⟨ua, σ₂, e3, e4⟩ | ⟨q, e3, rfl⟩
  ·refine hhi' os₁ σ₁ { s with heap := h₁, toks := tk₁ } _ _ (hp.trans k₁) l₁ e3 _ _ fun os₂ h₂ tk₂ uv k₂ l₂ huv => wpAny_bind (wpAny_holding (wpAny_pure ?_))
   refine wpAny_mono (sm_slice (value := e) (slice := .Slice l u none p) (ρ := adr os₂) (ha.mono (hp.trans (k₁.trans k₂))) (hlv.mono k₂) huv (fun o i => rfl) (s := { s with heap := h₂, toks := tk₂ }) List.prefix_rfl l₂ e4
    (Q := Q) (E := E) fun b hb os₃ h₃ tk₃ av k₃ l₃ hav => ?_) (fun i s' h => wpAny_bind (wpAny_standAt h)) fun _ _ h => h
   subst hb
   exact hQ os₃ h₃ tk₃ av (k₁.trans (k₂.trans k₃)) l₃ hav
  ·exact hhi' os₁ σ₁ { s with heap := h₁, toks := tk₁ } _ _ (hp.trans k₁) l₁ e3 _ _ fun os₂ h₂ tk₂ e k₂ l₂ f => hQ os₂ h₂ tk₂ e (k₁.trans k₂) l₂ f
 ·exact hlo' os σ s _ _ hp hl e1 _ _ hQ
end Mine.Internal
set_option autoImplicit false
namespace Mine.Internal
open PySem PySem.W PySem.Calls PyProof.Rows
variable {N : Nam} {sc : Scope}
theorem callN_eq {e : Expr} (h : isCallN e = true) : ∃ q p, e = .Call (.Name (cN e) q) (cA e) [] p := by
 obtain ⟨h1, h2⟩ := and_t h
 obtain ⟨h2, h3⟩ := and_t h2
 refine ⟨(ptE (ptE e).x).pos, (ptE e).pos, ?_⟩
 have e1 := t_call h1
 rw [nil_eq h2, t_name h3] at e1
 exact e1
theorem isC_none {v : Const} (h : isC .none v = true) : v = .none := by cases v <;> first | rfl | cases h
theorem isC_bool {b : Bool} {v : Const} (h : isC (.bool b) v = true) : v = .bool b := by
 cases v <;> first | (rw [eq_of_beq (show (b == _) = true from h)]) | cases h
theorem isC_int {b : Int} {v : Const} (h : isC (.int b) v = true) : v = .int b := by
 cases v <;> first | (rw [dec_t (show decide (b = _) = true from h)]) | cases h
theorem isC_str {b : Str} {v : Const} (h : isC (.str b) v = true) : v = .str b ∧ okS b = true := by
 cases v <;> first | (obtain ⟨h1, h2⟩ := and_t (show (decide (b = _) && okS b) = true from h); obtain rfl := dec_t h1; exact ⟨rfl, h2⟩) | cases h
theorem ck_cnone  {e : Expr} (h : ckE N sc (.cnone) e = true) : ∃ k p, e = .Constant .none k p := by
 obtain ⟨h1, h2⟩ := and_t (show (_ && _) = true from h)
 exact ⟨_, _, by rw [← isC_none h2] <;> exact t_const h1⟩
theorem ck_cbool {b : Bool} {e : Expr} (h : ckE N sc (.cbool b) e = true) : ∃ k p, e = .Constant (.bool b) k p := by
 obtain ⟨h1, h2⟩ := and_t (show (_ && _) = true from h)
 exact ⟨_, _, by rw [← isC_bool h2] <;> exact t_const h1⟩
theorem ck_cint {i : Int} {e : Expr} (h : ckE N sc (.cint i) e = true) : ∃ k p, e = .Constant (.int i) k p := by
 obtain ⟨h1, h2⟩ := and_t (show (_ && _) = true from h)
 exact ⟨_, _, by rw [← isC_int h2] <;> exact t_const h1⟩
theorem ck_cstr {s : Str} {e : Expr} (h : ckE N sc (.cstr s) e = true) : ∃ k p, e = .Constant (.str s) k p ∧ okS s = true := by
 obtain ⟨h1, h2⟩ := and_t (show (_ && _) = true from h)
 exact ⟨_, _, by rw [← (isC_str h2).1] <;> exact t_const h1, (isC_str h2).2⟩
theorem ck_loc {i : Nat} {e : Expr} (h : ckE N sc (.loc i) e = true) : ∃ nm p, e = .Name nm p ∧ nameIs N i nm = true ∧ inScope sc nm = true ∧ (nm == ("__debug__" : Str)) = false ∧ (nm == ("__classdict__" : Str)) = false := by
 obtain ⟨h1, h2⟩ := and_t (show (_ && _) = true from h)
 obtain ⟨g1, r1⟩ := and_t h2
 obtain ⟨g2, r2⟩ := and_t r1
 obtain ⟨g3, g4⟩ := and_t r2
 exact ⟨_, _, t_name h1, g1, g2, not_t g3, not_t g4⟩
theorem ck_glo {i : Nat} {e : Expr} (h : ckE N sc (.glo i) e = true) : ∃ nm p, e = .Name nm p ∧ nameIs N i nm = true ∧ isGlob sc nm = true := by
 obtain ⟨h1, h2⟩ := and_t (show (_ && _) = true from h)
 obtain ⟨g1, g2⟩ := and_t h2
 exact ⟨_, _, t_name h1, g1, g2⟩
theorem ck_bin {op : PySem.Operator} {a b : Ex} {e : Expr} (h : ckE N sc (.bin op a b) e = true) : ∃ l r p, e = .BinOp l op r p ∧ ckE N sc a l = true ∧ ckE N sc b r = true := by
 obtain ⟨h1, h2⟩ := and_t (show (_ && _) = true from h)
 obtain ⟨g1, r1⟩ := and_t h2
 obtain ⟨g2, g3⟩ := and_t r1
 exact ⟨_, _, _, by rw [dec_t g1] <;> exact t_bin h1, g2, g3⟩
theorem ck_neg {a : Ex} {e : Expr} (h : ckE N sc (.neg a) e = true) : ∃ l p, e = .UnaryOp .USub l p ∧ ckE N sc a l = true := by
 obtain ⟨h1, h2⟩ := and_t (show (_ && _) = true from h)
 obtain ⟨g1, g2⟩ := and_t h2
 exact ⟨_, _, by rw [← dec_t g1] <;> exact t_un h1, g2⟩
theorem ck_not {a : Ex} {e : Expr} (h : ckE N sc (.not a) e = true) : ∃ l p, e = .UnaryOp .Not l p ∧ ckE N sc a l = true := by
 obtain ⟨h1, h2⟩ := and_t (show (_ && _) = true from h)
 obtain ⟨g1, g2⟩ := and_t h2
 exact ⟨_, _, by rw [← dec_t g1] <;> exact t_un h1, g2⟩
theorem ck_band {es : Exs} {e : Expr} (h : ckE N sc (.band es) e = true) : ∃ l p, e = .BoolOp .And l p ∧ ckEs N sc es l = true := by
 obtain ⟨h1, h2⟩ := and_t (show (_ && _) = true from h)
 obtain ⟨g1, g2⟩ := and_t h2
 exact ⟨_, _, by rw [← dec_t g1] <;> exact t_bool h1, g2⟩
theorem ck_bor {es : Exs} {e : Expr} (h : ckE N sc (.bor es) e = true) : ∃ l p, e = .BoolOp .Or l p ∧ ckEs N sc es l = true := by
 obtain ⟨h1, h2⟩ := and_t (show (_ && _) = true from h)
 obtain ⟨g1, g2⟩ := and_t h2
 exact ⟨_, _, by rw [← dec_t g1] <;> exact t_bool h1, g2⟩
theorem ck_cmp {op : CmpOp} {a b : Ex} {e : Expr} (h : ckE N sc (.cmp op a b) e = true) : ∃ l r p, e = .Compare l [op] [r] p ∧ behindInMarks op r = false ∧ ckE N sc a l = true ∧ ckE N sc b r = true := by
 obtain ⟨h1, h2⟩ := and_t (show (_ && _) = true from h)
 obtain ⟨o, h3, h2⟩ := onO_eq h2
 obtain ⟨r, h4, h2⟩ := onO_eq h2
 obtain ⟨g1, r1⟩ := and_t h2
 obtain ⟨g2, r2⟩ := and_t r1
 obtain ⟨g3, g4⟩ := and_t r2
 obtain rfl := dec_t g1
 exact ⟨_, _, _, by rw [← one_eq h3, ← one_eq h4] <;> exact t_cmp h1, not_t g2, g3, g4⟩
theorem ck_cmp2 {o1 o2 : CmpOp} {a b d : Ex} {e : Expr} (h : ckE N sc (.cmp2 o1 o2 a b d) e = true) : ∃ l r1 r2 p, e = .Compare l [o1, o2] [r1, r2] p ∧ behindInMarks o2 r2 = false ∧ ckE N sc a l = true ∧ ckE N sc b r1 = true ∧ ckE N sc d r2 = true := by
 obtain ⟨h1, h2⟩ := and_t (show (_ && _) = true from h)
 obtain ⟨⟨p1, p2⟩, h3, h2⟩ := onO_eq h2
 obtain ⟨⟨r1, r2⟩, h4, h2⟩ := onO_eq h2
 obtain ⟨g1, r1⟩ := and_t h2
 obtain ⟨g2, r2⟩ := and_t r1
 obtain ⟨g3, r3⟩ := and_t r2
 obtain ⟨g4, r4⟩ := and_t r3
 obtain ⟨g5, g6⟩ := and_t r4
 obtain rfl := dec_t g1
 obtain rfl := dec_t g2
 exact ⟨_, _, _, _, by rw [← two_eq h3, ← two_eq h4] <;> exact t_cmp h1, not_t g3, g4, g5, g6⟩
theorem ck_list {es : Exs} {e : Expr} (h : ckE N sc (.list es) e = true) : ∃ l p, e = .List l p ∧ ckEs N sc es l = true := by
 obtain ⟨h1, h2⟩ := and_t (show (_ && _) = true from h)
 exact ⟨_, _, t_list h1, h2⟩
theorem ck_tup {es : Exs} {e : Expr} (h : ckE N sc (.tup es) e = true) : ∃ l k p, e = .Tuple l k p ∧ ckEs N sc es l = true := by
 obtain ⟨h1, h2⟩ := and_t (show (_ && _) = true from h)
 exact ⟨_, _, _, t_tup h1, h2⟩
theorem ck_dict {ks vs : Exs} {e : Expr} (h : ckE N sc (.dict ks vs) e = true) : ∃ p, e = .Dict [] [] p ∧ ks = .nil ∧ vs = .nil := by
 obtain ⟨h1, h2⟩ := and_t (show (_ && _) = true from h)
 obtain ⟨g1, r1⟩ := and_t h2
 obtain ⟨g2, r2⟩ := and_t r1
 obtain ⟨g3, g4⟩ := and_t r2
 exact ⟨_, by rw [← nil_eq g3, ← nil_eq g4] <;> exact t_dict h1, exsNil_eq g1, exsNil_eq g2⟩
theorem ck_attr {a : Ex} {n : Nat} {e : Expr} (h : ckE N sc (.attr a n) e = true) : ∃ l nm p, e = .Attribute l nm p ∧ nameIs N n nm = true ∧ plainBase l = true ∧ ckE N sc a l = true := by
 obtain ⟨h1, h2⟩ := and_t (show (_ && _) = true from h)
 obtain ⟨g1, r1⟩ := and_t h2
 obtain ⟨g2, g3⟩ := and_t r1
 exact ⟨_, _, _, t_attr h1, g1, g2, g3⟩
theorem ck_sub {a i : Ex} {e : Expr} (h : ckE N sc (.sub a i) e = true) : ∃ l r p, e = .Subscript l r p ∧ isSlice r = false ∧ ckE N sc a l = true ∧ ckE N sc i r = true := by
 obtain ⟨h1, h2⟩ := and_t (show (_ && _) = true from h)
 obtain ⟨g1, r1⟩ := and_t h2
 obtain ⟨g2, g3⟩ := and_t r1
 exact ⟨_, _, _, t_sub h1, not_t g1, g2, g3⟩
theorem ck_slice {a lo hi : Ex} {e : Expr} (h : ckE N sc (.slice a lo hi) e = true) : ∃ l x y q p, e = .Subscript l (.Slice x y none q) p ∧ ckE N sc a l = true ∧ (match x with | none => isNone lo | some y => ckE N sc lo y) = true ∧ (match y with | none => isNone hi | some y => ckE N sc hi y) = true := by
 obtain ⟨h1, h2⟩ := and_t (show (_ && _) = true from h)
 obtain ⟨g1, r1⟩ := and_t h2
 obtain ⟨g2, r2⟩ := and_t r1
 obtain ⟨g3, r3⟩ := and_t r2
 obtain ⟨g4, g5⟩ := and_t r3
 exact ⟨_, _, _, _, _, by rw [← Option.isNone_iff_eq_none.mp g2, ← t_slice g1] <;> exact t_sub h1, g3, g4, g5⟩
theorem ck_call {f : Nat} {args : Exs} {e : Expr} (h : ckE N sc (.call f args) e = true) : ∃ nm q l p, e = .Call (.Name nm q) l [] p ∧ nameIs N f nm = true ∧ isGlob sc nm = true ∧ (N.fn f).isSome = true ∧ ckEs N sc args l = true := by
 obtain ⟨h1, h2⟩ := and_t (show (_ && _) = true from h)
 obtain ⟨g1, r1⟩ := and_t h2
 obtain ⟨g2, r2⟩ := and_t r1
 obtain ⟨g3, g4⟩ := and_t r2
 obtain ⟨q, p, he⟩ := callN_eq h1
 exact ⟨_, _, _, _, he, g1, g2, g3, g4⟩
theorem ck_meth {o : Ex} {n : Nat} {args : Exs} {e : Expr} (h : ckE N sc (.meth o n args) e = true) : ∃ l nm q xs p, e = .Call (.Attribute l nm q) xs [] p ∧ nameIs N n nm = true ∧ plainBase l = true ∧ (q.endLine == p.line) = true ∧ xs.length < 30 ∧ (n ≤ 12 ∨ (N.me n).isSome = true) ∧ ckE N sc o l = true ∧ ckEs N sc args xs = true := by
 obtain ⟨h1, h2⟩ := and_t (show (_ && _) = true from h)
 obtain ⟨g1, r1⟩ := and_t h2
 obtain ⟨g2, r2⟩ := and_t r1
 obtain ⟨g3, r3⟩ := and_t r2
 obtain ⟨g4, r4⟩ := and_t r3
 obtain ⟨g5, r5⟩ := and_t r4
 obtain ⟨g6, r6⟩ := and_t r5
 obtain ⟨g7, r7⟩ := and_t r6
 obtain ⟨g8, g9⟩ := and_t r7
 exact ⟨_, _, _, _, _, by rw [← nil_eq g1, ← t_attr g2] <;> exact t_call h1, g3, g4, g5, dec_t g6, ((Bool.or_eq_true _ _).mp g7).imp dec_t id, g8, g9⟩
theorem ck_bi {b : Bi} {args : Exs} {e : Expr} (h : ckE N sc (.bi b args) e = true) : ∃ nm q l p, e = .Call (.Name nm q) l [] p ∧ nm = biName b ∧ isGlob sc nm = true ∧ ckEs N sc args l = true := by
 obtain ⟨h1, h2⟩ := and_t (show (_ && _) = true from h)
 obtain ⟨g1, r1⟩ := and_t h2
 obtain ⟨g2, g3⟩ := and_t r1
 obtain ⟨q, p, he⟩ := callN_eq h1
 exact ⟨_, _, _, _, he, dec_t g1, g2, g3⟩
theorem ck_isi {a : Ex} {ks : List Nat} {e : Expr} (h : ckE N sc (.isi a ks) e = true) : ∃ k q l cn q' p, ks = [k] ∧ e = .Call (.Name "isinstance" q) [l, .Name cn q'] [] p ∧ isGlob sc "isinstance" = true ∧ isGlob sc cn = true ∧ k ≤ isB ∧ cn = (clsName k : Str) ∧ ckE N sc a l = true := by
 obtain ⟨h1, h2⟩ := and_t (show (_ && _) = true from h)
 obtain ⟨k, h3, h2⟩ := onO_eq h2
 obtain ⟨⟨y, z⟩, h4, h2⟩ := onO_eq h2
 obtain ⟨g1, r1⟩ := and_t h2
 obtain ⟨g2, r2⟩ := and_t r1
 obtain ⟨g3, r3⟩ := and_t r2
 obtain ⟨g4, r4⟩ := and_t r3
 obtain ⟨g5, r5⟩ := and_t r4
 obtain ⟨g6, g7⟩ := and_t r5
 obtain ⟨q, p, he⟩ := callN_eq h1
 rw [two_eq h4, dec_t g2] at he
 rw [dec_t g2] at g3
 exact ⟨k, q, y, _, _, p, one_eq h3, by rw [he, ← t_name g1], g3, g4, dec_t g5, dec_t g6, g7⟩
theorem ck_comp {elt : Ex} {tg : List Nat} {tup : Bool} {it : Ex} {conds : Exs} {e : Expr} (h : ckE N sc (.comp elt tg tup it conds) e = true) : ∃ l tgt ite ifs sc' p, e = .ListComp l [⟨tgt, ite, ifs, 0⟩] sc' p ∧ ckTg N tg tup tgt = true ∧ compScope N sc sc' (tgNms tup tgt) = true ∧ isSet ite = false ∧ ckE N sc it ite = true ∧ ckE N sc' elt l = true ∧ ckEs N sc' conds ifs = true := by
 obtain ⟨h1, h2⟩ := and_t (show (_ && _) = true from h)
 obtain ⟨⟨tgt, ite, ifs, as⟩, h4, h2⟩ := onO_eq h2
 obtain ⟨g3, r3⟩ := and_t h2
 obtain ⟨g4, r4⟩ := and_t r3
 obtain ⟨g5, r5⟩ := and_t r4
 obtain ⟨g6, r6⟩ := and_t r5
 obtain ⟨g7, r7⟩ := and_t r6
 obtain ⟨g8, g9⟩ := and_t r7
 obtain rfl : as = 0 := dec_t g3
 exact ⟨_, tgt, ite, ifs, _, _, by rw [← one_eq h4] <;> exact t_comp h1, g4, g5, not_t g6, g7, g8, g9⟩
noncomputable def exTag : Ex → Nat
 | .cnone => 19 | .cbool _ => 19 | .cint _ => 19 | .cstr _ => 19 | .loc _ => 23 | .glo _ => 23 | .bin _ _ _ => 2 | .not _ => 3 | .band _ => 0 | .bor _ => 0 | .cmp _ _ _ => 15 | .cmp2 _ _ _ _ _ => 15 | .list _ => 24 | .tup _ => 25 | .dict _ _ => 6 | .attr _ _ => 20 | .sub _ _ => 21
 | .call _ _ => 16 | .new _ => 16 | .meth _ _ _ => 16 | .bi _ _ => 16 | .isi _ _ => 16 | .comp _ _ _ _ _ => 8
 | .neg _ => 3
 | .slice _ _ _ => 21
theorem tag_of {e : Ex} {v : Expr} (h : ckE N sc e v = true) : tagE v = exTag e := by
 cases e <;> first | exact dec_t (and_t (show (_ && _) = true from h)).1 | exact dec_t (and_t (show (_ && _) = true from (and_t (show (_ && _) = true from h)).1)).1
noncomputable def plainTag (n : Nat) : Bool := !(Nat.beq n 0 || (Nat.beq n 3 || (Nat.beq n 5 || Nat.beq n 15)))
theorem pl {e : Ex} {v : Expr} (h : ckE N sc e v = true) (k : plainTag (exTag e) = true) : plainTag (tagE v) = true := (tag_of h) ▸ k
end Mine.Internal
set_option autoImplicit false
namespace Mine.Internal
open PySem PySem.W PySem.Calls PyProof.Rows
variable {S : Sig}
theorem sm_const_none {c : Cx} {ρ : List Addr} {k : Nat} {p : Pos} : SM S c ρ VR (eval (.Constant .none k p) c.env) (X.pure .none) := SM.pure fun _ _ => rfl
theorem sm_const_bool {c : Cx} {ρ : List Addr} {k : Nat} {p : Pos} {b : Bool} : SM S c ρ VR (eval (.Constant (.bool b) k p) c.env) (X.pure (.bool b)) := SM.pure fun _ _ => rfl
theorem sm_const_int {c : Cx} {ρ : List Addr} {k : Nat} {p : Pos} {i : Int} : SM S c ρ VR (eval (.Constant (.int i) k p) c.env) (X.pure (.int i)) := by
 intro os σ s r σ' hp hl he Q E hQ
 cases he
 exact wpAny_Constant_int (hQ os _ _ _ List.prefix_rfl hl ⟨_, rfl⟩)
theorem sm_const_str {c : Cx} {ρ : List Addr} {k : Nat} {p : Pos} {st : Str} (h : okS st = true) : SM S c ρ VR (eval (.Constant (.str st) k p) c.env) (X.pure (.str st)) := by
 intro os σ s r σ' hp hl he Q E hQ
 cases he
 exact wpAny_Constant_str (hQ os _ _ _ List.prefix_rfl hl ⟨_, rfl, h⟩)
theorem sm_glob (OK : SigOK S) {n : Nat} {c : Cx} {ρ : List Addr} {sc : Scope} (K : CtxOK S n c) (SO : ScOK sc c.env) {i : Nat} {nm : Str} {p : Pos} (h1 : nameIs S.nam i nm = true) (h2 : isGlob sc nm = true) :
  SM S c ρ VR (eval (.Name nm p) c.env) (match S.P.globs.lookup i with | some v => X.pure v | none => X.none) := by
 have hg' := Bool.and_eq_true_iff.mp h2
 cases hv : S.P.globs.lookup i with
 | none => exact SM.none
 | some v =>
  obtain ⟨nm', x, e1, e2, e3⟩ := OK.globs i v hv
  rw [T_eq h1] at e1; cases e1
  intro os σ s r σ' hp hl he Q E hQ
  cases he
  obtain ⟨mg, mb, h1, h2, h3⟩ := K.top
  obtain ⟨q, hq⟩ := hl.frz.1
  exact Name_function_global K.kind (SO.glob _ (of_decide_eq_true hg'.1)) (loadGlobal_global (K.glob ▸ h1.keeps hl.fr.keep) (mg_of K.kin h1 e2) (hQ os s.heap s.toks x List.prefix_rfl hl (e3 _ (by rw [← hq, adr, adr, List.map_append]; exact List.prefix_append _ _)))) (by simpa using hg'.2)
theorem isTrue_plain {e : Expr} {env : Env} {whole : Sem Value} (h : plainTag (tagE e) = true) : isTrue e env whole = (do let v ← whole; standAt e.pos; holding [v] (truthy v)) := by
 cases e <;> first | rfl | cases h
theorem sm_test' {c : Cx} {ρ : List Addr} {e : Expr} {x : X V} (h : isTrue e c.env (eval e c.env) = (do let v ← eval e c.env; standAt e.pos; holding [v] (truthy v))) (hx : SM S c ρ VR (eval e c.env) x) : SM S c ρ EqR (isTrue e c.env (eval e c.env)) (X.bind x truth) := by
 rw [h]
 exact hx.bind fun ρ' a v k ha => SM.stand (SM.hold (sm_truth ha))
theorem sm_test {c : Cx} {ρ : List Addr} {e : Expr} {x : X V} (h : plainTag (tagE e) = true) (hx : SM S c ρ VR (eval e c.env) x) : SM S c ρ EqR (isTrue e c.env (eval e c.env)) (X.bind x truth) := sm_test' (isTrue_plain h) hx
theorem SM.map {α β γ : Type} {c : Cx} {ρ : List Addr} {R1 : List Addr → β → α → Prop} {R2 : List Addr → γ → α → Prop} {t : Sem α} {x : X β} {f : β → γ} (h : SM S c ρ R1 t x) (k : ∀ ρ' b a, ρ <+: ρ' → R1 ρ' b a → R2 ρ' (f b) a) :
  SM S c ρ R2 t (X.bind x fun b => X.pure (f b)) := by
 intro os σ s r σ' hp hl hx Q E hQ
 rcases X.bind_inv hx with ⟨b, σ₁, e1, e2⟩ | ⟨q, e1, rfl⟩
 ·cases e2
  exact h os σ s _ _ hp hl e1 _ _ fun os' h' tk a k' l' hr => hQ os' h' tk a k' l' (k _ _ _ (hp.trans k') hr)
 ·exact h os σ s _ _ hp hl e1 _ _ hQ
theorem cond_false (fs : List Expr) (env : Env) : (forIn fs false fun c r => if r = true then do let ok ← isTrue c env (eval c env); pure (ForInStep.yield ok) else pure (ForInStep.yield r) : Sem Bool) = pure false := by
 induction fs with
 | nil => rfl
 | cons f fs ih => rw [List.forIn_cons]; exact ih
theorem sm_cond_cons {c : Cx} {ρ : List Addr} {f : Expr} {fs : List Expr} {x y : X Bool} (h1 : SM S c ρ EqR (isTrue f c.env (eval f c.env)) x) (h2 : SM S c ρ EqR (condTree fs c.env) y) :
  SM S c ρ EqR (condTree (f :: fs) c.env) (X.bind x fun t => if t then y else X.pure false) := by
 unfold condTree
 rw [List.forIn_cons]
 rw [if_pos rfl]
 have e1 : x = X.bind x fun b => X.pure b := by
  funext σ; unfold X.bind
  cases x σ with
  | none => rfl
  | some p => obtain ⟨r, σ'⟩ := p; cases r <;> rfl
 rw [e1]
 have h1' : SM S c ρ (fun _ b st => st = ForInStep.yield b) (isTrue f c.env (eval f c.env) >>= fun ok => (Pure.pure (ForInStep.yield ok) : Sem (ForInStep Bool))) (X.bind x fun b => X.pure b) :=
  h1.bind fun ρ' b b' k hb => by subst hb; exact SM.pure fun _ _ => rfl
 refine h1'.bind fun ρ' b st k hb => ?_
 subst hb
 cases b
 ·show SM S c ρ' EqR (forIn fs false fun cc r => if r = true then do let ok ← isTrue cc c.env (eval cc c.env); pure (ForInStep.yield ok) else pure (ForInStep.yield r)) (X.pure false)
  rw [cond_false]; exact SM.pure fun _ _ => rfl
 ·exact h2.mono k
set_option backward.match.sparseCases true in
theorem sm_bool_cons {c : Cx} {ρ : List Addr} {pos : Pos} {o : BoolOp} {a b : Sem Value} {r : List (Sem Value)} {x : X V} {y : X V} (h1 : SM S c ρ VR a x) (h2 : SM S c ρ VR (boolOp pos o (b :: r)) y) :
  SM S c ρ VR (boolOp pos o (a :: b :: r)) (X.bind x fun v => X.bind (truth v) fun t => if t = (o == .And) then y else X.pure v) := by
 show SM S c ρ VR (do
  let v ← a
  standAt pos
  let t ← holding [v] (truthy v)
  match o, t with
  | .And, false | .Or, true => pure v
  | _, _ => boolOp pos o (b :: r)) _
 refine h1.bind fun ρ' v w k hv => SM.stand ((SM.hold (sm_truth hv)).bind fun ρ'' t t' k' ht => ?_)
 subst ht
 cases o <;> cases t
 ·exact SM.pure fun _ k'' => (hv.mono k').mono k''
 ·exact h2.mono (k.trans k')
 ·exact h2.mono (k.trans k')
 ·exact SM.pure fun _ k'' => (hv.mono k').mono k''
mutual
theorem sm_ev (OK : SigOK S) {C : Calls} {n : Nat} (HC : CallsOK S C n) (x : Ex) {c : Cx} {ρ : List Addr} {sc : Scope} {loc : Loc} {e : Expr} (K : CtxOK S (n + 2) c) (SO : ScOK sc c.env) (Vs : VarsOK S c sc ρ loc) (h : ckE S.nam sc x e = true) :
  SM S c ρ VR (eval e c.env) (ev S.P C x loc) := by
 match x, h with
 | .cnone, h => obtain ⟨k, p, rfl⟩ := ck_cnone h; exact sm_const_none
 | .cbool b, h => obtain ⟨k, p, rfl⟩ := ck_cbool h; exact sm_const_bool
 | .cint i, h => obtain ⟨k, p, rfl⟩ := ck_cint h; exact sm_const_int
 | .cstr st, h => obtain ⟨k, p, rfl, h1⟩ := ck_cstr h; exact sm_const_str h1
 | .loc i, h => obtain ⟨nm, p, rfl, h1, h2, h3, h4⟩ := ck_loc h; exact sm_local K.toCtx0 Vs (T_eq h1) h2 h3 h4
 | .glo i, h => obtain ⟨nm, p, rfl, h1, h2⟩ := ck_glo h; exact sm_glob OK K SO h1 h2
 | .bin op a b, h => obtain ⟨l, r, p, rfl, h1, h2⟩ := ck_bin h; exact sm_bin (sm_ev OK HC a K SO Vs h1) (sm_ev OK HC b K SO Vs h2)
 | .neg a, h => obtain ⟨l, p, rfl, h1⟩ := ck_neg h; exact sm_neg (sm_ev OK HC a K SO Vs h1)
 | .not a, h => obtain ⟨l, p, rfl, h1⟩ := ck_not h; exact sm_not (sm_ev OK HC a K SO Vs h1)
 | .band es, h => obtain ⟨l, p, rfl, h1⟩ := ck_band h; exact sm_and OK HC es K SO Vs h1
 | .bor es, h => exact SM.none
 | .cmp op a b, h => obtain ⟨l, r, p, rfl, h0, h1, h2⟩ := ck_cmp h; exact sm_cmp K.room h0 (sm_ev OK HC a K SO Vs h1) (sm_ev OK HC b K SO Vs h2)
 | .cmp2 o1 o2 a b d, h => obtain ⟨l, r1, r2, p, rfl, h0, h1, h2, h3⟩ := ck_cmp2 h; exact sm_cmp2 K.room h0 (sm_ev OK HC a K SO Vs h1) (sm_ev OK HC b K SO Vs h2) (sm_ev OK HC d K SO Vs h3)
 | .list es, h => obtain ⟨l, p, rfl, h1⟩ := ck_list h; exact sm_list (sm_evs OK HC es K SO Vs h1)
 | .tup es, h => obtain ⟨l, k, p, rfl, h1⟩ := ck_tup h; exact sm_tup (sm_evs OK HC es K SO Vs h1)
 | .dict ks vs, h => obtain ⟨p, rfl, rfl, rfl⟩ := ck_dict h; exact sm_dict0
 | .attr a i, h => obtain ⟨l, nm, p, rfl, h0, h1, h2⟩ := ck_attr h; exact sm_attr OK.tab K (T_eq h0) h1 (sm_ev OK HC a K SO Vs h2)
 | .sub a i, h => obtain ⟨l, r, p, rfl, h0, h1, h2⟩ := ck_sub h; exact sm_sub h0 (sm_ev OK HC a K SO Vs h1) (sm_ev OK HC i K SO Vs h2)
 | .slice a lo hi, h =>
  obtain ⟨l, x1, y1, q, p, rfl, h1, h2, h3⟩ := ck_slice h
  refine sm_slice' (sm_ev OK HC a K SO Vs h1) ?_ ?_
  ·cases x1 with
   | none => cases lo <;> first | cases h2; done | exact SM.pure fun _ _ => rfl
   | some e1 => exact sm_ev OK HC lo K SO Vs h2
  ·cases y1 with
   | none => cases hi <;> first | cases h3; done | exact SM.pure fun _ _ => rfl
   | some e1 => exact sm_ev OK HC hi K SO Vs h3
 | .call f args, h => obtain ⟨nm, q, l, p, rfl, h1, h2, h3, h4⟩ := ck_call h; exact sm_call K OK SO HC (T_eq h1) h2 h3 (noStar_of h4) (sm_evs OK HC args K SO Vs h4)
 | .new k, h => exact SM.none
 | .meth o i args, h => obtain ⟨l, nm, q, xs, p, rfl, h1, h2, h3, h4, h5, h6, h7⟩ := ck_meth h; exact sm_meth K OK HC (T_eq h1) h2 h3 h4 h5 (noStar_of h7) (sm_ev OK HC o K SO Vs h6) (sm_evs OK HC args K SO Vs h7)
 | .bi b args, h => obtain ⟨nm, q, l, p, rfl, h1, h2, h3⟩ := ck_bi h; exact sm_bi K OK SO h1 h2 (noStar_of h3) (sm_evs OK HC args K SO Vs h3)
 | .isi a ks, h =>
  obtain ⟨k, q, l, cn, q', p, rfl, rfl, h1, h2, h3, h4, h5⟩ := ck_isi h
  have he : starEach [l, .Name cn q'] c.env = [(false, eval l c.env), (false, eval (.Name cn q') c.env)] := by rw [star_cons h5]; rfl
  exact sm_isinst K OK SO h1 h2 h3 h4 (by unfold NoStar; rw [he]; rfl) he (sm_ev OK HC a K SO Vs h5)
 | .comp elt tg tup it conds, h =>
  obtain ⟨l, tgt, ite, ifs, sc', p, rfl, h1, h2, h3, h4, h5, h6⟩ := ck_comp h
  exact sm_comp K SO Vs OK.tab.nodup h1 h2 h3 (sm_ev OK HC it K SO Vs h4) (fun c' ρ' loc' K' SO' V' => sm_conds OK HC conds K' SO' V' h6) (fun c' ρ' loc' K' SO' V' => sm_ev OK HC elt K' SO' V' h5)
termination_by structural x
theorem sm_evs (OK : SigOK S) {C : Calls} {n : Nat} (HC : CallsOK S C n) (x : Exs) {c : Cx} {ρ : List Addr} {sc : Scope} {loc : Loc} {l : List Expr} {pos : Pos} (K : CtxOK S (n + 2) c) (SO : ScOK sc c.env) (Vs : VarsOK S c sc ρ loc) (h : ckEs S.nam sc x l = true) :
  SM S c ρ VRs (spliced (backTo pos (starEach l c.env))) (evs S.P C x loc) := by
 match x, l, h with
 | .nil, [], h => exact SM.pure fun _ _ => .nil
 | .cons e es, a :: as, h =>
  have h := and_t (show (_ && _) = true from h)
  rw [star_cons h.1]
  refine sm_splice (sm_ev OK HC e K SO Vs h.1) fun ρ' v w k hv => ?_
  exact ((sm_evs OK HC es K SO Vs h.2).mono k).map fun ρ'' vs ws k' hw => .cons (hv.mono k') hw
 | .nil, _ :: _, h => exact nomatch (show false = true from h)
 | .cons _ _, [], h => exact nomatch (show false = true from h)
termination_by structural x
theorem sm_and (OK : SigOK S) {C : Calls} {n : Nat} (HC : CallsOK S C n) (x : Exs) {c : Cx} {ρ : List Addr} {sc : Scope} {loc : Loc} {l : List Expr} {pos : Pos} (K : CtxOK S (n + 2) c) (SO : ScOK sc c.env) (Vs : VarsOK S c sc ρ loc) (h : ckEs S.nam sc x l = true) :
  SM S c ρ VR (boolOp pos .And (evalEach l c.env)) (evAnd S.P C x loc) := by
 match x, l, h with
 | .nil, _, h => exact SM.none
 | .cons e .nil, [a], h =>
  have h := and_t (show (_ && _) = true from h)
  exact sm_ev OK HC e K SO Vs h.1
 | .cons e (.cons e2 es), a :: a2 :: as, h =>
  have h := and_t (show (_ && _) = true from h)
  refine (sm_bool_cons (pos := pos) (o := .And) (sm_ev OK HC e K SO Vs h.1) (sm_and OK HC (.cons e2 es) (l := a2 :: as) K SO Vs h.2)).eqx ?_
  show X.bind (ev S.P C e loc) (fun v => X.bind (truth v) fun t => if t then evAnd S.P C (.cons e2 es) loc else X.pure v) = _
  first | rfl | (congr 1; funext v; congr 1; funext t; cases t <;> rfl)
 | .cons _ .nil, [], h => exact nomatch (show false = true from h)
 | .cons _ .nil, _ :: _ :: _, h => exact nomatch (show false = true from (and_t (show (_ && _) = true from h)).2)
 | .cons _ (.cons _ _), [], h => exact nomatch (show false = true from h)
 | .cons _ (.cons _ _), [_], h => exact nomatch (show false = true from (and_t (show (_ && _) = true from h)).2)
termination_by structural x
theorem sm_tst (OK : SigOK S) {C : Calls} {n : Nat} (HC : CallsOK S C n) (x : Ex) {c : Cx} {ρ : List Addr} {sc : Scope} {loc : Loc} {e : Expr} (K : CtxOK S (n + 2) c) (SO : ScOK sc c.env) (Vs : VarsOK S c sc ρ loc) (h : ckE S.nam sc x e = true) (hw : SM S c ρ VR (eval e c.env) (ev S.P C x loc)) :
  SM S c ρ EqR (isTrue e c.env (eval e c.env)) (tst S.P C x loc (ev S.P C x loc)) := by
 match x, h, hw with
 | .not a, h, hw =>
  obtain ⟨l, p, rfl, h1⟩ := ck_not h
  rw [arm_isTrue_UnaryOp]
  exact (sm_tst OK HC a K SO Vs h1 (sm_ev OK HC a K SO Vs h1)).bind fun ρ' b b' k hb => by subst hb; exact SM.pure fun _ _ => rfl
 | .band es, h, hw => obtain ⟨l, p, rfl, h1⟩ := ck_band h; rw [arm_isTrue_BoolOp]; exact sm_tstAnd OK HC es K SO Vs h1
 | .bor es, h, hw => obtain ⟨l, p, rfl, h1⟩ := ck_bor h; rw [arm_isTrue_BoolOp]; exact sm_tstOr OK HC es K SO Vs h1
 | .cmp op a b, h, hw => obtain ⟨l, r, p, rfl, h0, h1, h2⟩ := ck_cmp h; exact sm_cmp_test K.room h0 (sm_ev OK HC a K SO Vs h1) (sm_ev OK HC b K SO Vs h2)
 | .cmp2 o1 o2 a b d, h, hw => obtain ⟨l, r1, r2, p, rfl, h0, h1, h2, h3⟩ := ck_cmp2 h; exact sm_cmp2_test K.room h0 (sm_ev OK HC a K SO Vs h1) (sm_ev OK HC b K SO Vs h2) (sm_ev OK HC d K SO Vs h3)
 | .cnone, h, hw => exact sm_test (pl h rfl) hw
 | .cbool b, h, hw => exact sm_test (pl h rfl) hw
 | .cint i, h, hw => exact sm_test (pl h rfl) hw
 | .cstr st, h, hw => exact sm_test (pl h rfl) hw
 | .loc i, h, hw => exact sm_test (pl h rfl) hw
 | .glo i, h, hw => exact sm_test (pl h rfl) hw
 | .bin op a b, h, hw => exact sm_test (pl h rfl) hw
 | .neg a, h, hw => obtain ⟨l, p, rfl, h1⟩ := ck_neg h; exact sm_test' rfl hw
 | .list es, h, hw => exact sm_test (pl h rfl) hw
 | .tup es, h, hw => exact sm_test (pl h rfl) hw
 | .dict ks vs, h, hw => exact sm_test (pl h rfl) hw
 | .attr a i, h, hw => exact sm_test (pl h rfl) hw
 | .sub a i, h, hw => exact sm_test (pl h rfl) hw
 | .slice a lo hi, h, hw => exact sm_test (pl h rfl) hw
 | .call f args, h, hw => exact sm_test (pl h rfl) hw
 | .new k, h, hw => exact sm_test (pl h rfl) hw
 | .meth o i args, h, hw => exact sm_test (pl h rfl) hw
 | .bi b args, h, hw => exact sm_test (pl h rfl) hw
 | .isi a ks, h, hw => exact sm_test (pl h rfl) hw
 | .comp elt tg tup it conds, h, hw => exact sm_test (pl h rfl) hw
termination_by structural x
theorem sm_tstAnd (OK : SigOK S) {C : Calls} {n : Nat} (HC : CallsOK S C n) (x : Exs) {c : Cx} {ρ : List Addr} {sc : Scope} {loc : Loc} {l : List Expr} (K : CtxOK S (n + 2) c) (SO : ScOK sc c.env) (Vs : VarsOK S c sc ρ loc) (h : ckEs S.nam sc x l = true) :
  SM S c ρ EqR (allTrue .And l c.env) (tstAnd S.P C x loc) := by
 match x, l, h with
 | .nil, [], h => exact SM.pure fun _ _ => rfl
 | .cons e es, a :: as, h =>
  have h := and_t (show (_ && _) = true from h)
  rw [arm_allTrue_cons]
  refine (sm_tst OK HC e K SO Vs h.1 (sm_ev OK HC e K SO Vs h.1)).bind fun ρ' b b' k hb => ?_
  subst hb
  cases b
  ·exact SM.pure fun _ _ => rfl
  ·exact (sm_tstAnd OK HC es K SO Vs h.2).mono k
 | .nil, _ :: _, h => exact nomatch (show false = true from h)
 | .cons _ _, [], h => exact nomatch (show false = true from h)
termination_by structural x
theorem sm_tstOr (OK : SigOK S) {C : Calls} {n : Nat} (HC : CallsOK S C n) (x : Exs) {c : Cx} {ρ : List Addr} {sc : Scope} {loc : Loc} {l : List Expr} (K : CtxOK S (n + 2) c) (SO : ScOK sc c.env) (Vs : VarsOK S c sc ρ loc) (h : ckEs S.nam sc x l = true) :
  SM S c ρ EqR (allTrue .Or l c.env) (tstOr S.P C x loc) := by
 match x, l, h with
 | .nil, [], h => exact SM.pure fun _ _ => rfl
 | .cons e es, a :: as, h =>
  have h := and_t (show (_ && _) = true from h)
  rw [arm_allTrue_cons]
  refine (sm_tst OK HC e K SO Vs h.1 (sm_ev OK HC e K SO Vs h.1)).bind fun ρ' b b' k hb => ?_
  subst hb
  cases b
  ·exact (sm_tstOr OK HC es K SO Vs h.2).mono k
  ·exact SM.pure fun _ _ => rfl
 | .nil, _ :: _, h => exact nomatch (show false = true from h)
 | .cons _ _, [], h => exact nomatch (show false = true from h)
termination_by structural x
theorem sm_conds (OK : SigOK S) {C : Calls} {n : Nat} (HC : CallsOK S C n) (x : Exs) {c : Cx} {ρ : List Addr} {sc : Scope} {loc : Loc} {l : List Expr} (K : CtxOK S (n + 2) c) (SO : ScOK sc c.env) (Vs : VarsOK S c sc ρ loc) (h : ckEs S.nam sc x l = true) :
  SM S c ρ EqR (condTree l c.env) (tstAnd S.P C x loc) := by
 match x, l, h with
 | .nil, [], h => exact SM.pure fun _ _ => rfl
 | .cons e es, a :: as, h =>
  have h := and_t (show (_ && _) = true from h)
  exact sm_cond_cons (sm_tst OK HC e K SO Vs h.1 (sm_ev OK HC e K SO Vs h.1)) (sm_conds OK HC es K SO Vs h.2)
 | .nil, _ :: _, h => exact nomatch (show false = true from h)
 | .cons _ _, [], h => exact nomatch (show false = true from h)
termination_by structural x
end
theorem okH_inv {x : Ex} (ho : okH x = true) : (∃ a b, x = .band (.cons a (.cons b .nil)) ∧ okC a = true ∧ okC b = true) ∨ okC x = true := by
 cases x with
 | band l =>
  cases l with
  | nil => exact .inr ho
  | cons a r =>
   cases r with
   | nil => exact .inr ho
   | cons b q =>
    cases q with
    | nil => exact .inl ⟨a, b, rfl, and_t (show (okC a && okC b) = true from ho)⟩
    | cons _ _ => exact .inr ho
 | _ => exact .inr ho
inductive OkA : Ex → Prop
 | loc {i : Nat} : OkA (.loc i)
 | cint {i : Int} : OkA (.cint i)
 | cnone : OkA .cnone
 | len {i : Nat} : OkA (.bi .len (.cons (.loc i) .nil))
 | sub {i j : Nat} : OkA (.sub (.loc i) (.loc j))
theorem okA_inv {x : Ex} (ho : okA x = true) : OkA x := by
 cases x with
 | loc i => exact .loc
 | cint i => exact .cint
 | cnone => exact .cnone
 | bi b as =>
  cases b with
  | len =>
   cases as with
   | nil => exact nomatch (show false = true from ho)
   | cons a r =>
    cases r with
    | cons _ _ => cases a <;> exact nomatch (show false = true from ho)
    | nil =>
     cases a with
     | loc i => exact .len
     | _ => exact nomatch (show false = true from ho)
  | _ => exact nomatch (show false = true from ho)
 | sub a b =>
  cases a with
  | loc i =>
   cases b with
   | loc j => exact .sub
   | _ => exact nomatch (show false = true from ho)
  | _ => exact nomatch (show false = true from ho)
 | _ => exact nomatch (show false = true from ho)
section
variable {n : Nat} {c : Cx} {ρ : List Addr} {sc : Scope} {loc : Loc} {C : Calls}
theorem sm_hA (OK : SigOK S) (K : Ctx0 S n c) (SO : ScOK sc c.env) (Vs : VarsOK S c sc ρ loc) {x : Ex} {e : Expr} (ho : okA x = true) (h : ckE S.nam sc x e = true) : SM S c ρ VR (eval e c.env) (ev S.P C x loc) := by
 have ho := okA_inv ho
 cases ho with
 | loc => obtain ⟨nm, p, rfl, h1, h2, h3, h4⟩ := ck_loc h; exact sm_local K Vs (T_eq h1) h2 h3 h4
 | cint => obtain ⟨k, p, rfl⟩ := ck_cint h; exact sm_const_int
 | cnone => obtain ⟨k, p, rfl⟩ := ck_cnone h; exact sm_const_none
 | len =>
  obtain ⟨nm, q, l, p, rfl, h1, h2, h3⟩ := ck_bi h
  match l, h3 with
  | [a], h3 =>
   have h4 := (and_t (show (_ && _) = true from h3)).1
   subst h1
   have hg' := Bool.and_eq_true_iff.mp h2
   refine sm_Call (f := biVal .len) (sm_boot K (SO.glob _ (of_decide_eq_true hg'.1)) (by simpa using hg'.2) (OK.bis .len) (bi_boot .len) (bi_ne .len) fun _ => rfl) ?_
   refine sm_callWith K (kept_bi .len) (noStar_of h3) ?_ fun ρ' vs ws k h => sm_one h fun x v hv => sm_biLen hv
   rw [star_cons h4]
   obtain ⟨nm, p, rfl, h1, h2, h3, h4⟩ := ck_loc h4
   refine sm_splice (sm_local K Vs (T_eq h1) h2 h3 h4) fun ρ' v w k hv => ?_
   exact SM.map (SM.pure (RV := VRs) fun _ _ => .nil) fun ρ'' vs ws k' hw => .cons (hv.mono k') hw
  | [], h3 => exact nomatch (show false = true from h3)
  | _ :: _ :: _, h3 => exact nomatch (show false = true from (and_t (show (_ && _) = true from h3)).2)
 | sub =>
  obtain ⟨l, r, p, rfl, h0, h1, h2⟩ := ck_sub h
  obtain ⟨nm, p', rfl, g1, g2, g3, g4⟩ := ck_loc h1
  obtain ⟨nm', p'', rfl, f1, f2, f3, f4⟩ := ck_loc h2
  exact sm_sub h0 (sm_local K Vs (T_eq g1) g2 g3 g4) (sm_local K Vs (T_eq f1) f2 f3 f4)
theorem sm_hC (OK : SigOK S) (K : Ctx0 S n c) (SO : ScOK sc c.env) (Vs : VarsOK S c sc ρ loc) {x : Ex} {e : Expr} (ho : okC x = true) (h : ckE S.nam sc x e = true) : SM S c ρ VR (eval e c.env) (ev S.P C x loc) := by
 cases x with
 | cmp o a b =>
  obtain ⟨l, r, p, rfl, h0, h1, h2⟩ := ck_cmp h
  obtain ⟨o1, o2⟩ := and_t (show (okA a && okA b) = true from ho)
  exact sm_cmp K.room h0 (sm_hA OK K SO Vs o1 h1) (sm_hA OK K SO Vs o2 h2)
 | cnone => obtain ⟨k, p, rfl⟩ := ck_cnone h; exact sm_const_none
 | cbool b => obtain ⟨k, p, rfl⟩ := ck_cbool h; exact sm_const_bool
 | _ => exact nomatch (show false = true from ho)
theorem sm_h (OK : SigOK S) (K : Ctx0 S n c) (SO : ScOK sc c.env) (Vs : VarsOK S c sc ρ loc) {x : Ex} {e : Expr} (ho : okH x = true) (h : ckE S.nam sc x e = true) : SM S c ρ VR (eval e c.env) (ev S.P C x loc) := by
 rcases okH_inv ho with ⟨a, b, rfl, o1, o2⟩ | ho
 ·obtain ⟨l, p, rfl, h1⟩ := ck_band h
  match l, h1 with
  | [x1, x2], h1 =>
   have h2 := and_t (show (_ && _) = true from h1)
   have h3 := and_t (show (_ && _) = true from h2.2)
   refine (sm_bool_cons (pos := p) (o := .And) (sm_hC (C := C) OK K SO Vs o1 h2.1) (show SM S c ρ VR (boolOp p .And (evalEach [x2] c.env)) (evAnd S.P C (.cons b .nil) loc) from sm_hC OK K SO Vs o2 h3.1)).eqx ?_
   show X.bind (ev S.P C a loc) (fun v => X.bind (truth v) fun t => if t then evAnd S.P C (.cons b .nil) loc else X.pure v) = _
   first | rfl | (congr 1; funext v; congr 1; funext t; cases t <;> rfl)
  | [], h1 => exact nomatch (show false = true from h1)
  | [_], h1 => exact nomatch (show false = true from (and_t (show (_ && _) = true from h1)).2)
  | _ :: _ :: _ :: _, h1 => exact nomatch (show false = true from (and_t (show (_ && _) = true from (and_t (show (_ && _) = true from h1)).2)).2)
 ·exact sm_hC OK K SO Vs ho h
end
end Mine.Internal
set_option autoImplicit false
namespace Mine.Internal
open PySem PySem.W PySem.Calls PyProof.Rows
variable {S : Sig}
set_option genInjectivity false in
structure Dx where
 A : Around
 env : Env
 h₀ : Heap
 L : Addr
 fs : Fs
 kp : List (Addr × Obj)
noncomputable abbrev Dx.cx (d : Dx) (m : Str → Option Value) (cs : List (Addr × Obj)) : Cx := ⟨d.A, d.env, d.h₀, d.L, m, d.fs, d.kp ++ cs⟩
structure CellsOK (env : Env) (cs : List (Addr × Obj)) : Prop where
 all : All2 (fun (p : Str × Addr) (q : Addr × Obj) => p.2 = q.1 ∧ ∃ v, q.2.data = .cell v) env.cells cs
 nd : (env.cells.map (·.1)).Nodup
structure Fm (S : Sig) (d : Dx) (sc : Scope) (loc : Loc) (os : List (Addr × Obj)) (σ : H) (h : Heap) (m : Str → Option Value) (cs : List (Addr × Obj)) : Prop where
 vars : VarsOK S (d.cx m cs) sc (adr os) loc
 cells : CellsOK d.env cs
 led : (d.cx m cs).led S os σ h
noncomputable abbrev XS := Loc → H → Option (R (Option V) × Loc × H)
noncomputable def PostX (S : Sig) (d : Dx) (sc : Scope) (os : List (Addr × Obj)) (s : Shared) (r : R (Option V)) (loc' : Loc) (σ' : H) (Q : Flow → Shared → Prop) (E : Value → Shared → Prop) : Prop :=
 ∀ (m' : Str → Option Value) (cs' os' : List (Addr × Obj)) (h' : Heap) (tk : Nat), adr os <+: adr os' → Fm S d sc loc' os' σ' h' m' cs' → match r with
  | .ok none => Q .next { s with heap := h', toks := tk }
  | .ok (some v) => ∀ a, VR (adr os') v a → Q (.ret a) { s with heap := h', toks := tk }
  | .err k => ∀ e, Fly S (d.cx m' cs') os' e k h' → E e { s with heap := h', toks := tk }
noncomputable def PostE (S : Sig) (d : Dx) (sc : Scope) (os : List (Addr × Obj)) (s : Shared) (m : Str → Option Value) (cs : List (Addr × Obj)) (loc : Loc) (r : R (Option V)) (loc' : Loc) (σ' : H) (E : Value → Shared → Prop) : Prop :=
 ∀ k, r = .err k → loc' = loc → ∀ (os₁ : List (Addr × Obj)) (h₁ : Heap) (tk : Nat) (e : Value), adr os <+: adr os₁ → Fm S d sc loc os₁ σ' h₁ m cs → Fly S (d.cx m cs) os₁ e k h₁ → E e { s with heap := h₁, toks := tk }
theorem PostX.err {S : Sig} {d : Dx} {sc : Scope} {os : List (Addr × Obj)} {s : Shared} {r : R (Option V)} {loc' : Loc} {σ' : H} {Q : Flow → Shared → Prop} {E : Value → Shared → Prop} (hQ : PostX S d sc os s r loc' σ' Q E)
  {os₁ : List (Addr × Obj)} (k : adr os <+: adr os₁) {h : Heap} {t : Nat} {m : Str → Option Value} {cs : List (Addr × Obj)} {loc : Loc} : PostE S d sc os₁ { s with heap := h, toks := t } m cs loc r loc' σ' E := by
 rintro q rfl rfl os₂ h₂ tk e k₂ F f
 exact hQ m cs os₂ h₂ tk (k.trans k₂) F e f
noncomputable def SX (S : Sig) (d : Dx) (sc : Scope) (t : Sem Flow) (x : XS) : Prop :=
 ∀ (loc : Loc) (m : Str → Option Value) (cs os : List (Addr × Obj)) (σ : H) (s : Shared) (r : R (Option V)) (loc' : Loc) (σ' : H), Fm S d sc loc os σ s.heap m cs → x loc σ = some (r, loc', σ') →
  ∀ (Q : Flow → Shared → Prop) (E : Value → Shared → Prop),
   PostX S d sc os s r loc' σ' Q E →
   wpAny (model S.prog S.w) d.A t Q E s
inductive OnI {α : Type} (m : X α) (loc loc' : Loc) (f : α → H → Option (R (Option V) × Loc × H)) (σ σ' : H) (r : R (Option V)) : Prop
 | ok (a : α) (σ₁ : H) (e1 : m σ = some (.ok a, σ₁)) (e2 : f a σ₁ = some (r, loc', σ')) : OnI m loc loc' f σ σ' r
 | err (k : Nat) (e1 : m σ = some (.err k, σ')) (e2 : r = .err k) (e3 : loc' = loc) : OnI m loc loc' f σ σ' r
theorem onX_inv {α : Type} {m : X α} {loc loc' : Loc} {f : α → H → Option (R (Option V) × Loc × H)} {σ σ' : H} {r : R (Option V)} (h : onX m loc f σ = some (r, loc', σ')) :
  OnI m loc loc' f σ σ' r := by
 unfold onX at h
 split at h
 ·cases h
 ·rename_i k σ₁ e; cases h; exact .err k e rfl rfl
 ·rename_i a σ₁ e; exact .ok a σ₁ e h
section
variable {d : Dx} {sc : Scope} {loc : Loc} {os os' : List (Addr × Obj)} {σ σ' : H} {h h' : Heap} {m : Str → Option Value} {cs : List (Addr × Obj)}
theorem Fm.step (f : Fm S d sc loc os σ h m cs) (k : adr os <+: adr os') (l : (d.cx m cs).led S os' σ' h') : Fm S d sc loc os' σ' h' m cs := ⟨f.vars.mono k, f.cells, l⟩
theorem sx_on {α β : Type} {RV : List Addr → β → α → Prop} {t : Sem α} {x : X β} {s : Shared} {r : R (Option V)} {loc' : Loc} {f : β → H → Option (R (Option V) × Loc × H)}
  (F : Fm S d sc loc os σ s.heap m cs) (hx : SM S (d.cx m cs) (adr os) RV t x) (e : onX x loc f σ = some (r, loc', σ')) {Q : α → Shared → Prop} {E : Value → Shared → Prop} (hE : PostE S d sc os s m cs loc r loc' σ' E)
  (hQ : ∀ (b : β) (σ₁ : H), f b σ₁ = some (r, loc', σ') → ∀ (os₁ : List (Addr × Obj)) (h₁ : Heap) (tk : Nat) (a : α), adr os <+: adr os₁ → Fm S d sc loc os₁ σ₁ h₁ m cs → RV (adr os₁) b a → Q a { s with heap := h₁, toks := tk }) :
  wpAny (model S.prog S.w) d.A t Q E s := by
 rcases onX_inv e with ⟨b, σ₁, e1, e2⟩ | ⟨k, e1, rfl, rfl⟩
 ·exact hx os σ s _ _ List.prefix_rfl F.led e1 _ _ fun os₁ h₁ tk a k l hr => hQ b σ₁ e2 os₁ h₁ tk a k (F.step k l) hr
 ·exact hx os σ s _ _ List.prefix_rfl F.led e1 _ _ fun os₁ h₁ tk e k₁ l₁ f => hE k rfl rfl os₁ h₁ tk e k₁ (F.step k₁ l₁) f
end
section
variable {d : Dx} {sc : Scope}
noncomputable def isComp (v : Expr) : Bool := Nat.ble 8 (tagE v) && Nat.ble (tagE v) 10
theorem no_swap {v : Expr} (h : isComp v = false) (t : Option Expr) (line : Nat) (env : Env) : swapsWith v t line env = pure false := by
 cases v <;> first | rfl | cases h
theorem sx_expr (hk : d.env.scope.kind = .function) {v : Expr} {pos : Pos} {x : Loc → X V} (hc : isComp v = false) (hx : ∀ m cs ρ loc, VarsOK S (d.cx m cs) sc ρ loc → SM S (d.cx m cs) ρ VR (eval v d.env) (x loc)) :
  SX S d sc (exec (.Expr v pos) d.env) (fun loc h => onX (x loc) loc (fun _ h₁ => some (.ok none, loc, h₁)) h) := by
 intro loc m cs os σ s r loc' σ' F e Q E hQ
 refine wpAny_Expr_any (sx_on F (hx _ _ _ _ F.vars) e (hQ.err List.prefix_rfl) fun b σ₁ e2 os₁ h₁ tk a k F₁ hr => ?_) (by unfold interactive; rw [hk]; rfl) (no_swap hc _ _ _)
 cases e2
 exact hQ m cs os₁ h₁ tk k F₁
theorem sx_ret {v : Expr} {pos : Pos} {x : Loc → X V} (hx : ∀ m cs ρ loc, VarsOK S (d.cx m cs) sc ρ loc → SM S (d.cx m cs) ρ VR (eval v d.env) (x loc)) :
  SX S d sc (exec (.Return (some v) pos) d.env) (fun loc h => onX (x loc) loc (fun v h₁ => some (.ok (some v), loc, h₁)) h) := by
 intro loc m cs os σ s r loc' σ' F e Q E hQ
 refine wpAny_Return_some (sx_on F (hx _ _ _ _ F.vars) e (hQ.err List.prefix_rfl) fun b σ₁ e2 os₁ h₁ tk a k F₁ hr => ?_)
 cases e2
 exact hQ m cs os₁ h₁ tk k F₁ a hr
theorem sx_ret0 {pos : Pos} : SX S d sc (exec (.Return none pos) d.env) (fun loc h => some (.ok (some .none), loc, h)) := by
 intro loc m cs os σ s r loc' σ' F e Q E hQ
 cases e
 exact wpAny_Return_none (hQ m cs os s.heap s.toks List.prefix_rfl F .none rfl)
theorem sx_pass {pos : Pos} : SX S d sc (exec (.Pass pos) d.env) (fun loc h => some (.ok none, loc, h)) := by
 intro loc m cs os σ s r loc' σ' F e Q E hQ
 cases e
 exact wpAny_Pass (hQ m cs os s.heap s.toks List.prefix_rfl F)
theorem sx_nil : SX S d sc (execs [] d.env) (fun loc h => some (.ok none, loc, h)) := by
 intro loc m cs os σ s r loc' σ' F e Q E hQ
 cases e
 exact wpAny_execs_nil (hQ m cs os s.heap s.toks List.prefix_rfl F)
theorem sx_cons {st : Stmt} {rest : List Stmt} {x y : XS} (h1 : SX S d sc (exec st d.env) x) (h2 : SX S d sc (execs rest d.env) y) :
  SX S d sc (execs (st :: rest) d.env) (fun loc h => match x loc h with | some (.ok none, l₁, h₁) => y l₁ h₁ | r => r) := by
 intro loc m cs os σ s r loc' σ' F e Q E hQ
 refine wpAny_execs_cons ?_
 cases hx : x loc σ with
 | none => dsimp only at e; rw [hx] at e; cases e
 | some p =>
  obtain ⟨rr, l₁, σ₁⟩ := p
  dsimp only at e
  rw [hx] at e
  refine h1 loc m cs os σ s rr l₁ σ₁ F hx _ _ fun m₁ cs₁ os₁ h₁ tk₁ k₁ F₁ => ?_
  cases rr with
  | err q => cases e; exact hQ m₁ cs₁ os₁ h₁ tk₁ k₁ F₁
  | ok o =>
   cases o with
   | none => exact h2 l₁ m₁ cs₁ os₁ σ₁ { s with heap := h₁, toks := tk₁ } r loc' σ' F₁ e Q E fun m₂ cs₂ os₂ h₂ tk₂ k₂ F₂ => hQ m₂ cs₂ os₂ h₂ tk₂ (k₁.trans k₂) F₂
   | some v =>
    cases e
    exact hQ m₁ cs₁ os₁ h₁ tk₁ k₁ F₁
theorem sx_if {c : Expr} {a b : List Stmt} {pos : Pos} {x : Loc → X Bool} {y z : XS} (hx : ∀ m cs ρ loc, VarsOK S (d.cx m cs) sc ρ loc → SM S (d.cx m cs) ρ EqR (isTrue c d.env (eval c d.env)) (x loc)) (hy : SX S d sc (execs a d.env) y) (hz : SX S d sc (execs b d.env) z) :
  SX S d sc (exec (.If c a b pos) d.env) (fun loc h => onX (x loc) loc (fun t h₁ => if t then y loc h₁ else z loc h₁) h) := by
 intro loc m cs os σ s r loc' σ' F e Q E hQ
 refine wpAny_If (sx_on F (hx _ _ _ _ F.vars) e (hQ.err List.prefix_rfl) fun t σ₁ e2 os₁ h₁ tk a k F₁ hr => ?_)
 subst hr
 cases t
 ·exact hz loc m cs os₁ σ₁ { s with heap := h₁, toks := tk } r loc' σ' F₁ e2 Q E fun m₂ cs₂ os₂ h₂ tk₂ k₂ F₂ => hQ m₂ cs₂ os₂ h₂ tk₂ (k.trans k₂) F₂
 ·exact hy loc m cs os₁ σ₁ { s with heap := h₁, toks := tk } r loc' σ' F₁ e2 Q E fun m₂ cs₂ os₂ h₂ tk₂ k₂ F₂ => hQ m₂ cs₂ os₂ h₂ tk₂ (k.trans k₂) F₂
inductive AfI (x : Option (R (Option V) × Loc × H)) (k : Loc → H → Option (R (Option V) × Loc × H)) (r : R (Option V)) (l' : Loc) (σ' : H) : Prop
 | mk (o : Option V) (l₂ : Loc) (σ₂ : H) (e : x = some (.ok o, l₂, σ₂)) (hN : o = none → k l₂ σ₂ = some (r, l', σ')) (hV : ∀ w, o = some w → r = .ok (some w) ∧ l' = l₂ ∧ σ' = σ₂) : AfI x k r l' σ'
theorem after_inv {x : Option (R (Option V) × Loc × H)} {k : Loc → H → Option (R (Option V) × Loc × H)} {r : R (Option V)} {l' : Loc} {σ' : H} (h : afterX x k = some (r, l', σ')) : AfI x k r l' σ' := by
 match x, h with
 | some (.ok none, l₂, σ₂), h => exact ⟨none, l₂, σ₂, rfl, fun _ => h, fun w e => nomatch e⟩
 | some (.ok (some v), l₂, σ₂), h => cases h; exact ⟨some v, _, _, rfl, fun e => (nomatch e), fun w e => by cases e; exact ⟨rfl, rfl, rfl⟩⟩
inductive WlI (x : Loc → X Bool) (y : Loc → H → Option (R (Option V) × Loc × H)) (k : Nat) (l l' : Loc) (σ σ' : H) (r : R (Option V)) : Prop
 | mk (b : Bool) (σ₁ : H) (e : x l σ = some (.ok b, σ₁)) (hF : b = false → r = .ok none ∧ l' = l ∧ σ' = σ₁) (hT : b = true → AfI (y l σ₁) (fun l₂ h₂ => whileL x y k l₂ h₂) r l' σ') : WlI x y k l l' σ σ' r
theorem whileL_inv {x : Loc → X Bool} {y : Loc → H → Option (R (Option V) × Loc × H)} {k : Nat} {l l' : Loc} {σ σ' : H} {r : R (Option V)} (h : whileL x y (k + 1) l σ = some (r, l', σ')) : WlI x y k l l' σ σ' r := by
 unfold whileL at h
 cases ht : x l σ with
 | none => rw [ht] at h; cases h
 | some p =>
  obtain ⟨tr, σ₁⟩ := p
  rw [ht] at h
  cases tr with
  | err q => cases h
  | ok b =>
   refine ⟨b, σ₁, ht, ?_, ?_⟩
   ·rintro rfl; cases h; exact ⟨rfl, rfl, rfl⟩
   ·rintro rfl; exact after_inv h
theorem while_gen {M : Program} {w : World} {A : Around} {test : Expr} {body : List Stmt} {env : Env} {R : Result → Shared → Prop} {s : Shared} (I : Nat → Shared → Prop)
  (turn : ∀ n s, I n s → ∀ (P : Bool → Shared → Prop) (E' : Value → Shared → Prop), (∀ s₁, R (.ok .next) s₁ → P false s₁) →
   (∀ s₁, (∀ G : Flow → Shared → Prop, (∀ m s₃, m < n → I m s₃ → G .next s₃) → (∀ a s₃, R (.ok (.ret a)) s₃ → G (.ret a) s₃) → wpAny (model M w) A (execs body env) G E' s₁) → P true s₁) →
   wpAny (model M w) A (isTrue test env (eval test env)) P E' s) (n : Nat) (h : I n s) : codeAny (model M w) A (.whileLoop test body [] env) R s :=
 codeAny_whileLoop I (fun n s hI => turn n s hI _ _ (fun s₁ h₁ => wpAny_execs_nil h₁) fun s₁ h₁ => h₁ _ (fun m s₃ hm h₃ => ⟨m, hm, h₃⟩) fun a s₃ h₃ => h₃) n h
inductive WhI (S : Sig) (d : Dx) (sc : Scope) (f : Nat → Loc → H → Prop) (os : List (Addr × Obj)) (s : Shared) (k : Nat) (s' : Shared) : Prop
 | mk (h' : Heap) (tk : Nat) (os' : List (Addr × Obj)) (σ₁ : H) (m' : Str → Option Value) (cs' : List (Addr × Obj)) (l' : Loc) (e1 : s' = { s with heap := h', toks := tk }) (kp : adr os <+: adr os') (F : Fm S d sc l' os' σ₁ h' m' cs') (hL : f k l' σ₁) : WhI S d sc f os s k s'
theorem sx_while {c : Expr} {a : List Stmt} {pos : Pos} {x : Loc → X Bool} {y : XS} {fuel : Nat} (hx : ∀ m cs ρ loc, VarsOK S (d.cx m cs) sc ρ loc → SM S (d.cx m cs) ρ EqR (isTrue c d.env (eval c d.env)) (x loc)) (hy : SX S d sc (execs a d.env) y) :
  SX S d sc (exec (.While c a [] pos) d.env) (fun loc h => whileL x y fuel loc h) := by
 intro loc m cs os σ s r loc' σ' F e Q E hQ
 refine wpAny_While ?_
 refine while_gen (WhI S d sc (fun k l σ₁ => whileL x y k l σ₁ = some (r, loc', σ')) os s) ?_ fuel ⟨s.heap, s.toks, os, σ, m, cs, loc, rfl, List.prefix_rfl, F, e⟩
 rintro k s' ⟨h', tk, os', σ₁, m', cs', l', rfl, k', F', e'⟩ P E' hP hB
 cases k with
 | zero => cases e'
 | succ k =>
  obtain ⟨b, σ₂, ht, hF, hT⟩ := whileL_inv e'
  refine hx _ _ _ _ F'.vars os' σ₁ { s with heap := h', toks := tk } _ _ List.prefix_rfl F'.led ht _ _ fun os₂ h₂ tk₂ t' k₂ l₂ hb => ?_
  subst hb
  have F₂ := F'.step k₂ l₂
  cases b with
  | false =>
   obtain ⟨rfl, rfl, rfl⟩ := hF rfl
   exact hP _ (hQ m' cs' os₂ h₂ tk₂ (k'.trans k₂) F₂)
  | true =>
   obtain ⟨o, l₃, σ₃, hb, hN, hV⟩ := hT rfl
   refine hB _ fun G hG hR => ?_
   refine hy l' m' cs' os₂ σ₂ { s with heap := h₂, toks := tk₂ } _ l₃ σ₃ F₂ hb _ _ fun m₃ cs₃ os₃ h₃ tk₃ k₃ F₃ => ?_
   cases o with
   | none => exact hG k _ (Nat.lt_succ_self k) ⟨h₃, tk₃, os₃, σ₃, m₃, cs₃, l₃, rfl, k'.trans (k₂.trans k₃), F₃, hN rfl⟩
   | some v =>
    obtain ⟨rfl, rfl, rfl⟩ := hV v rfl
    exact fun a ha => hR a _ (hQ m₃ cs₃ os₃ h₃ tk₃ (k'.trans (k₂.trans k₃)) F₃ a ha)
end
end Mine.Internal
set_option autoImplicit false
namespace Mine.Internal
open PySem PySem.W PySem.Calls PyProof.Rows
variable {S : Sig}
theorem lookup_idx {α : Type} : ∀ {l : List (Str × α)} {n : Str} {a : α}, l.lookup n = some a → ∃ i : Nat, l[i]? = some (n, a)
 | [], _, _, h => by simp at h
 | (k, b) :: r, n, a, h => by
  by_cases hk : n = k
  ·subst hk
   simp at h; subst h; exact ⟨0, rfl⟩
  ·have : (n == k) = false := by simpa using hk
   rw [List.lookup_cons, this] at h
   obtain ⟨i, hi⟩ := lookup_idx h
   exact ⟨i + 1, hi⟩
theorem Led.kperm {h₀ h : Heap} {L : Addr} {m : Str → Option Value} {fs : Fs} {kp kp' os : List (Addr × Obj)} {σ : H} (l : Led S h₀ L m fs kp os σ h) (p : kp.Perm kp') : Led S h₀ L m fs kp' os σ h := by
 have p' : (kp ++ os).Perm (kp' ++ os) := p.append_right os
 have pa : (adr (kp ++ os)).Perm (adr (kp' ++ os)) := p'.map _
 exact ⟨l.fr, fun q hq => l.news q (p'.mem_iff.mpr hq), pa.nodup_iff.mp l.nd, l.objs, fun f hf => ⟨(l.outs f hf).1, (l.outs f hf).2.1, (l.outs f hf).2.2.1, fun q => (l.outs f hf).2.2.2 (pa.mem_iff.mpr q)⟩, l.top, fun b hb => l.big b (pa.mem_iff.mpr hb), l.frz⟩
theorem set_self {α : Type} : ∀ {l : List α} {i : Nat} {a : α}, l[i]? = some a → l.set i a = l
 | [], _, _, e => by simp at e
 | x :: r, 0, _, e => by simp only [List.getElem?_cons_zero, Option.some.injEq] at e; rw [e]; rfl
 | x :: r, i + 1, _, e => by simp only [List.getElem?_cons_succ] at e; rw [List.set_cons_succ, set_self e]
section
variable {d : Dx} {sc : Scope} {loc : Loc} {os : List (Addr × Obj)} {σ : H} {h : Heap} {m : Str → Option Value} {cs : List (Addr × Obj)}
theorem nd_parts {S : Sig} {h₀ : Heap} {L : Addr} {fs : Fs} {kp : List (Addr × Obj)} (l : Led S h₀ L m fs (kp ++ cs) os σ h) : (adr cs).Nodup ∧ ∀ p ∈ kp, ∀ q ∈ cs, p.1 ≠ q.1 := by
 have nd := l.nd
 simp only [adr, List.map_append] at nd
 obtain ⟨n1, _, _⟩ := List.nodup_append.mp nd
 obtain ⟨_, n2, n3⟩ := List.nodup_append.mp n1
 exact ⟨n2, fun p hp q hq e => n3 p.1 (List.mem_map_of_mem hp) q.1 (List.mem_map_of_mem hq) e⟩
theorem CellsOK.at {env : Env} (C : CellsOK env cs) {nm : Str} {a : Addr} (e : env.cells.lookup nm = some a) : ∃ (i : Nat) (o : Obj) (v : Option Value), env.cells[i]? = some (nm, a) ∧ cs[i]? = some (a, o) ∧ o.data = .cell v := by
 obtain ⟨i, hi⟩ := lookup_idx e
 obtain ⟨q, hq, h1, v, h2⟩ := C.all.get hi
 obtain ⟨b, o⟩ := q
 dsimp only at h1 h2
 subst h1
 exact ⟨i, o, v, hi, hq, h2⟩
theorem cell_mem {S : Sig} {h₀ : Heap} {L : Addr} {fs : Fs} {kp : List (Addr × Obj)} {env : Env} (l : Led S h₀ L m fs (kp ++ cs) os σ h) (C : CellsOK env cs) {nm : Str} {a : Addr} {o : Obj} (e : env.cells.lookup nm = some a) (hm : (a, o) ∈ kp ++ cs) : (a, o) ∈ cs := by
 obtain ⟨i, o', v, _, h2, _⟩ := C.at e
 rcases List.mem_append.mp hm with hm | hm
 ·exact absurd rfl ((nd_parts l).2 (a, o) hm (a, o') (List.mem_of_getElem? h2))
 ·exact hm
theorem vars_kp {kp' : List (Addr × Obj)} (F : Fm S d sc loc os σ h m cs) : VarsOK S ({ d with kp := kp' }.cx m cs) sc (adr os) loc := by
 intro i v nm h1 h2 h3
 obtain ⟨x, h4, h5⟩ := F.vars i v nm h1 h2 h3
 refine ⟨x, ?_, h5⟩
 rcases h4 with ⟨q1, q2⟩ | ⟨q1, a, o, q2, q3, q4⟩
 ·exact .inl ⟨q1, q2⟩
 ·exact .inr ⟨q1, a, o, q2, List.mem_append_right _ (cell_mem F.led F.cells q2 q3), q4⟩
theorem vars_up {W : List (Addr × Obj)} {ρ : List Addr} (V' : VarsOK S (d.cx m cs) sc ρ loc) : VarsOK S ({ d with kp := d.kp ++ W }.cx m cs) sc ρ loc := by
 intro a w nma h1 h2 h3
 obtain ⟨z, q, hz⟩ := V' a w nma h1 h2 h3
 refine ⟨z, ?_, hz⟩
 rcases q with q | ⟨q1, b, ob, q2, q3, q4⟩
 ·exact .inl q
 ·refine .inr ⟨q1, b, ob, q2, ?_, q4⟩
  rcases List.mem_append.mp q3 with q3 | q3
  ·exact List.mem_append_left _ (List.mem_append_left _ q3)
  ·exact List.mem_append_right _ q3
theorem upd_ne {loc : Loc} {i j : Nat} {v : V} (h : j ≠ i) : loc.upd i v j = loc j := by rw [Loc.upd, beq_eq_false_iff_ne.mpr h]; rfl
theorem upd_eq {loc : Loc} {i : Nat} {v : V} : loc.upd i v i = some v := by rw [Loc.upd, beq_self_eq_true]; rfl
theorem store_var (nd : S.T.Nodup) (SO : ScOK sc d.env) (hk : d.env.scope.kind = .function) (hloc : d.env.locals = d.L) {s : Shared} (F : Fm S d sc loc os σ s.heap m cs) {i : Nat} {nm : Str} {v : V} {x : Value} (hn : S.T[i]? = some nm)
  (hs : sc.names.lookup nm = some .local ∨ (sc.names.lookup nm = some .cell ∧ d.env.kindOf nm = some .cell)) (hv : VR (adr os) v x) {Q : Unit → Shared → Prop} {E : Value → Shared → Prop}
  (hQ : ∀ m' cs' h' tk, Fm S d sc (loc.upd i v) os σ h' m' cs' → Q () { s with heap := h', toks := tk }) : wpAny (model S.prog S.w) d.A (storeName d.env nm x) Q E s := by
 have inj : ∀ {j : Nat} {nmj : Str}, S.T[j]? = some nmj → j ≠ i → nmj ≠ nm := fun {j nmj} hj hji q => hji ((List.getElem?_inj (List.getElem?_eq_some_iff.mp hj).1 nd).mp (by rw [hj, hn, q]))
 rcases hs with hs | ⟨hs, hkc⟩
 ·have kind := SO.loc nm hs
  have hns : s.heap.Ns d.env.locals m := by rw [hloc]; exact F.led.fr.ns
  refine wpAny_storeName_local kind hns (fun h' hn' hs' => ?_) (by rw [hk]; rfl)
  rw [hloc] at hn' hs'
  refine hQ (fun y => if y = nm then some x else m y) cs h' _ ⟨fun j w nmj h1 h2 h3 => ?_, F.cells, F.led.lset hn' hs'⟩
  by_cases hji : j = i
  ·subst hji
   rw [upd_eq] at h1; cases h1
   rw [hn] at h2; cases h2
   exact ⟨x, .inl ⟨kind, by simp⟩, hv⟩
  ·rw [upd_ne hji] at h1
   obtain ⟨y, h4, h5⟩ := F.vars j w nmj h1 h2 h3
   refine ⟨y, ?_, h5⟩
   rcases h4 with ⟨q1, q2⟩ | q
   ·exact .inl ⟨q1, by show (if nmj = nm then some x else m nmj) = some y; rw [if_neg (inj h2 hji)]; exact q2⟩
   ·exact .inr q
 ·obtain ⟨a, ha⟩ := (SO.cell nm (by unfold isCell; rw [hs])).2
  obtain ⟨p, o, v₀, hp, hcs, hd⟩ := F.cells.at ha
  have hmem : (a, o) ∈ d.kp ++ cs := List.mem_append_right _ (List.mem_of_getElem? hcs)
  refine wpAny_storeName_cell hk hkc ha ⟨o, (F.led.news (a, o) (List.mem_append_left _ hmem)).1, hd⟩ fun h' hv' hs' => ?_
  obtain ⟨o', ho', hd'⟩ := hv'
  have sp : cs = cs.take p ++ (a, o) :: cs.drop (p + 1) := split_at hcs
  have sp' : cs.set p (a, o') = cs.take p ++ (a, o') :: cs.drop (p + 1) := set_split hcs
  have l' : (d.cx m (cs.set p (a, o'))).led S os σ h' := by
   have l := F.led
   show Led S d.h₀ d.L m d.fs (d.kp ++ cs.set p (a, o')) os σ h'
   rw [sp', ← List.append_assoc]
   refine Led.kset (x := o) ?_ hs' ho'
   rw [List.append_assoc, ← sp]; exact l
  have ndc := nd_parts F.led
  have mem' : ∀ {b : Addr} {ob : Obj}, b ≠ a → (b, ob) ∈ d.kp ++ cs → (b, ob) ∈ d.kp ++ cs.set p (a, o') := by
   intro b ob hb hm
   rcases List.mem_append.mp hm with hm | hm
   ·exact List.mem_append_left _ hm
   ·refine List.mem_append_right _ ?_
    rw [sp'] ; rw [sp] at hm
    simp only [List.mem_append, List.mem_cons] at hm ⊢
    rcases hm with hm | hm | hm
    ·exact .inl hm
    ·cases hm; exact absurd rfl hb
    ·exact .inr (.inr hm)
  refine hQ m (cs.set p (a, o')) h' s.toks ⟨fun j w nmj h1 h2 h3 => ?_, ⟨?_, F.cells.nd⟩, l'⟩
  ·by_cases hji : j = i
   ·subst hji
    rw [upd_eq] at h1; cases h1
    rw [hn] at h2; cases h2
    refine ⟨x, .inr ⟨.inl hkc, a, o', ha, List.mem_append_right _ ?_, hd'⟩, hv⟩
    rw [sp']; simp
   ·rw [upd_ne hji] at h1
    obtain ⟨y, h4, h5⟩ := F.vars j w nmj h1 h2 h3
    refine ⟨y, ?_, h5⟩
    rcases h4 with q | ⟨q1, b, ob, q2, q3, q4⟩
    ·exact .inl q
    ·refine .inr ⟨q1, b, ob, q2, mem' (fun q => ?_) q3, q4⟩
     subst q
     obtain ⟨p', _, _, hp', hcs', _⟩ := F.cells.at q2
     have e1 : (adr cs)[p]? = some b := by simp [adr, hcs]
     have e2 : (adr cs)[p']? = some b := by simp [adr, hcs']
     have : p = p' := (List.getElem?_inj (List.getElem?_eq_some_iff.mp e1).1 ndc.1).mp (e1.trans e2.symm)
     subst this
     rw [hp] at hp'; cases hp'
     exact inj h2 hji rfl
  ·have := F.cells.all.set (a := (nm, a)) (b := (a, o')) ⟨rfl, some x, hd'⟩ p
   have e : d.env.cells.set p (nm, a) = d.env.cells := set_self hp
   rwa [e] at this
end
section
variable {d : Dx} {sc : Scope} {n : Nat}
noncomputable def StoreOK (sc : Scope) (env : Env) (nm : Str) : Prop := sc.names.lookup nm = some .local ∨ (sc.names.lookup nm = some .cell ∧ env.kindOf nm = some .cell)
theorem sx_asg_var (nd : S.T.Nodup) (SO : ScOK sc d.env) (hk : d.env.scope.kind = .function) (hloc : d.env.locals = d.L) {v : Expr} {nm : Str} {px pos : Pos} {i : Nat} {x : Loc → X V} (hn : S.T[i]? = some nm) (hs : StoreOK sc d.env nm)
  (hsw : swapsWith v (some (.Name nm px)) pos.line d.env = pure false) (hx : ∀ m cs ρ loc, VarsOK S (d.cx m cs) sc ρ loc → SM S (d.cx m cs) ρ VR (eval v d.env) (x loc)) :
  SX S d sc (exec (.Assign [.Name nm px] v pos) d.env) (fun loc h => onX (x loc) loc (fun v h₁ => some (.ok none, loc.upd i v, h₁)) h) := by
 intro loc m cs os σ s r loc' σ' F e Q E hQ
 refine wpAny_Assign_Name (sx_on F (hx _ _ _ _ F.vars) e (hQ.err List.prefix_rfl) fun b σ₁ e2 os₁ h₁ tk a k F₁ hr => ?_) hsw
 cases e2
 exact store_var nd SO hk hloc (s := { s with heap := h₁, toks := tk }) F₁ hn hs hr fun m' cs' h' tk' F' => hQ m' cs' os₁ h' tk' k F'
theorem assign_arm {t v : Expr} {pos : Pos} {env : Env} (hs : swapsWith v (some t) pos.line env = pure false) (hw : swappedStores [t] v env = pure none) (he : (assignEach [t] env).map (·.2) = [assign t env]) {M : Model} {A : Around} {E : Value → Shared → Prop} {s : Shared} {Q : Flow → Shared → Prop}
  (h : wpAny M A (eval v env) (fun x s₁ => wpAny M A (assign t env x) (fun _ => Q .next) E s₁) E s) : wpAny M A (exec (.Assign [t] v pos) env) Q E s := by
 refine wpAny_Assign_stores (wpAny_mono h (fun x s₁ h₁ => ?_) fun _ _ y => y) hs hw
 rw [he]; exact h₁
theorem swap_attr {v o : Expr} {nm : Str} {p : Pos} {line : Nat} {env : Env} : swapsWith v (some (.Attribute o nm p)) line env = pure false := by cases v <;> rfl
theorem swap_sub {v o i : Expr} {p : Pos} {line : Nat} {env : Env} : swapsWith v (some (.Subscript o i p)) line env = pure false := by cases v <;> rfl
theorem stores_attr {v o : Expr} {nm : Str} {p : Pos} {env : Env} : swappedStores [.Attribute o nm p] v env = pure none := by cases v <;> rfl
theorem stores_sub {v o i : Expr} {p : Pos} {env : Env} : swappedStores [.Subscript o i p] v env = pure none := by cases v <;> rfl
theorem sx_asg_attr (TV : TabOK S) (K : ∀ m cs, CtxOK S n (d.cx m cs)) {v o : Expr} {nm : Str} {px pos : Pos} {i : Nat} {x y : Loc → X V} (hn : S.T[i]? = some nm)
  (hx : ∀ m cs ρ loc, VarsOK S (d.cx m cs) sc ρ loc → SM S (d.cx m cs) ρ VR (eval v d.env) (x loc)) (hy : ∀ m cs ρ loc, VarsOK S (d.cx m cs) sc ρ loc → SM S (d.cx m cs) ρ VR (eval o d.env) (y loc)) :
  SX S d sc (exec (.Assign [.Attribute o nm px] v pos) d.env) (fun loc h => onX (x loc) loc (fun v h₁ => onX (y loc) loc (fun ov h₂ => onX (setAttr S.P ov i v) loc (fun _ h₃ => some (.ok none, loc, h₃)) h₂) h₁) h) := by
 intro loc m cs os σ s r loc' σ' F e Q E hQ
 refine assign_arm swap_attr stores_attr rfl (sx_on F (hx _ _ _ _ F.vars) e (hQ.err List.prefix_rfl) fun b σ₁ e2 os₁ h₁ tk a k F₁ hr => ?_)
 rw [arm_assign_Attribute]
 refine wpAny_bind (wpAny_holding (sx_on (s := { s with heap := h₁, toks := tk }) F₁ (hy _ _ _ _ F₁.vars) e2 (hQ.err k) fun ob σ₂ e3 os₂ h₂ tk₂ oa k₂ F₂ hr₂ => wpAny_bind (wpAny_standAt (wpAny_bind (wpAny_holding ?_)))))
 refine sx_on (s := { s with heap := h₂, toks := tk₂ }) F₂ (sm_setAttr TV (K m cs).kin hn hr₂ (hr.mono k₂)) e3 (hQ.err (k.trans k₂)) fun _ σ₃ e4 os₃ h₃ tk₃ _ k₃ F₃ _ => wpAny_release' ?_
 cases e4
 exact hQ m cs os₃ h₃ tk₃ (k.trans (k₂.trans k₃)) F₃
theorem sx_asg_sub {v o j : Expr} {px pos : Pos} {x y z : Loc → X V}
  (hx : ∀ m cs ρ loc, VarsOK S (d.cx m cs) sc ρ loc → SM S (d.cx m cs) ρ VR (eval v d.env) (x loc)) (hy : ∀ m cs ρ loc, VarsOK S (d.cx m cs) sc ρ loc → SM S (d.cx m cs) ρ VR (eval o d.env) (y loc)) (hz : ∀ m cs ρ loc, VarsOK S (d.cx m cs) sc ρ loc → SM S (d.cx m cs) ρ VR (eval j d.env) (z loc)) :
  SX S d sc (exec (.Assign [.Subscript o j px] v pos) d.env) (fun loc h => onX (x loc) loc (fun v h₁ => onX (y loc) loc (fun ov h₂ => onX (z loc) loc (fun iv h₃ => onX (setItem S.P ov iv v) loc (fun _ h₄ => some (.ok none, loc, h₄)) h₃) h₂) h₁) h) := by
 intro loc m cs os σ s r loc' σ' F e Q E hQ
 refine assign_arm swap_sub stores_sub rfl (sx_on F (hx _ _ _ _ F.vars) e (hQ.err List.prefix_rfl) fun b σ₁ e2 os₁ h₁ tk a k F₁ hr => ?_)
 rw [arm_assign_Subscript]
 refine wpAny_bind (wpAny_holding (sx_on (s := { s with heap := h₁, toks := tk }) F₁ (hy _ _ _ _ F₁.vars) e2 (hQ.err k) fun ob σ₂ e3 os₂ h₂ tk₂ oa k₂ F₂ hr₂ => wpAny_bind (wpAny_holding ?_)))
 refine sx_on (s := { s with heap := h₂, toks := tk₂ }) F₂ (hz _ _ _ _ F₂.vars) e3 (hQ.err (k.trans k₂)) fun jb σ₃ e4 os₃ h₃ tk₃ ja k₃ F₃ hr₃ => wpAny_bind (wpAny_standAt (wpAny_bind (wpAny_holding ?_)))
 refine sx_on (s := { s with heap := h₃, toks := tk₃ }) F₃ (sm_setItem (hr₂.mono k₃) hr₃ (hr.mono (k₂.trans k₃))) e4 (hQ.err (k.trans (k₂.trans k₃))) fun _ σ₄ e5 os₄ h₄ tk₄ _ k₄ F₄ _ => wpAny_release' ?_
 cases e5
 exact hQ m cs os₄ h₄ tk₄ (k.trans (k₂.trans (k₃.trans k₄))) F₄
inductive AfE (x : Option (R (Option V) × Loc × H)) (k : Loc → H → Option (R (Option V) × Loc × H)) (r : R (Option V)) (l' : Loc) (σ' : H) : Prop
 | mk (o : R (Option V)) (l₂ : Loc) (σ₂ : H) (e : x = some (o, l₂, σ₂)) (hN : o = .ok none → k l₂ σ₂ = some (r, l', σ')) (hV : o ≠ .ok none → r = o ∧ l' = l₂ ∧ σ' = σ₂) : AfE x k r l' σ'
theorem afterE_inv {x : Option (R (Option V) × Loc × H)} {k : Loc → H → Option (R (Option V) × Loc × H)} {r : R (Option V)} {l' : Loc} {σ' : H} (h : afterE x k = some (r, l', σ')) : AfE x k r l' σ' := by
 match x, h with
 | some (.ok none, l₂, σ₂), h => exact ⟨_, l₂, σ₂, rfl, fun _ => h, fun e => (e rfl).elim⟩
 | some (.ok (some v), l₂, σ₂), h => cases h; exact ⟨_, _, _, rfl, fun e => (nomatch e), fun _ => ⟨rfl, rfl, rfl⟩⟩
 | some (.err q, l₂, σ₂), h => cases h; exact ⟨_, _, _, rfl, fun e => (nomatch e), fun _ => ⟨rfl, rfl, rfl⟩⟩
theorem forL_inv {v : V} {i : Nat} {y : Loc → H → Option (R (Option V) × Loc × H)} {σ σ₁ σ' : H} {yv : V} {ys : List V} {l l' : Loc} {r : R (Option V)} (h : forL v [i] false y σ (yv :: ys) l σ₁ = some (r, l', σ')) :
  AfE (y (l.upd i yv) σ₁) (fun l₂ h₂ => if still v σ h₂ then forL v [i] false y σ ys l₂ h₂ else none) r l' σ' := afterE_inv h
theorem if_inv {α : Type} {b : Bool} {x : Option α} {a : α} (h : (if b = true then x else none) = some a) : b = true ∧ x = some a := by
 cases b with
 | true => exact ⟨rfl, h⟩
 | false => cases h
theorem forE_gen {M : Program} {w : World} {A : Around} {target : Expr} {it : Value} {body : List Stmt} {env : Env} {R : Result → Shared → Prop} {s : Shared} (I : Nat → Shared → Prop)
  (turn : ∀ n s, I n s → ∀ (P : Option Value → Shared → Prop) (E' : Value → Shared → Prop), (∀ s₁, R (.ok .next) s₁ → P none s₁) →
   (∀ v s₁, (∀ B : Unit → Shared → Prop, (∀ s₂, (∀ G : Flow → Shared → Prop, (∀ m s₃, m < n → I m s₃ → G .next s₃) → (∀ a s₃, R (.ok (.ret a)) s₃ → G (.ret a) s₃) → wpAny (model M w) A (execs body env) G E' s₂) → B () s₂) →
    wpAny (model M w) A (letOwnedTupleGo target it v) (fun _ s' => wpAny (model M w) A (assign target env v) B E' s') E' s₁) → P (some v) s₁) →
   (∀ x s₁, notedBy (model M w) A env (fun e s' => R (.error e) s') x s₁ → E' x s₁) →
   wpAny (model M w) A (pyNext it) P E' s) (n : Nat) (h : I n s) : codeAny (model M w) A (.forLoop target it body [] env) R s :=
 codeAny_forLoop_any I (fun n s hI => turn n s hI _ _ (fun s₁ h₁ => wpAny_execs_nil h₁) (fun v s₁ h₁ => h₁ _ fun s₂ h₂ => h₂ _ (fun m s₃ hm h₃ => ⟨m, hm, h₃⟩) fun a s₃ h₃ => h₃) fun _ _ h₁ => h₁) n h
inductive FoI (S : Sig) (d : Dx) (sc : Scope) (I : Addr) (v : V) (σ₁ : H) (vs : List V) (f : List V → Loc → H → Prop) (os₁ : List (Addr × Obj)) (s : Shared) (kk : Nat) (s' : Shared) : Prop
 | mk (h' : Heap) (tk' : Nat) (os' : List (Addr × Obj)) (σ' : H) (m' : Str → Option Value) (cs' : List (Addr × Obj)) (l' : Loc) (o : Obj) (j : Nat) (e1 : s' = { s with heap := h', toks := tk' }) (kp : adr os₁ <+: adr os') (V' : VarsOK S (d.cx m' cs') sc (adr os') l') (C' : CellsOK d.env cs')
   (L : Led S d.h₀ d.L m' d.fs (d.kp ++ (I, o) :: cs') os' σ' h') (it : ItAt h' I (adr os') v σ' j) (st : still v σ₁ σ' = true) (hL : f (vs.drop j) l' σ') (hj : j ≤ vs.length) (hk : kk = vs.length + 1 - j) : FoI S d sc I v σ₁ vs f os₁ s kk s'
theorem sx_for (TF : ∃ outer, d.A.frames = some (d.env :: outer) ∧ d.env.frame = some d.L) (nd : S.T.Nodup) (SO : ScOK sc d.env) (hk : d.env.scope.kind = .function) (hloc : d.env.locals = d.L) (hh : d.A.handled = none) {it : Expr} {nm : Str} {px pos : Pos} {b : List Stmt} {i : Nat} {x : Loc → X V} {y : XS} (hn : S.T[i]? = some nm) (hs : StoreOK sc d.env nm) (hset : isSet it = false)
  (hx : ∀ m cs ρ loc, VarsOK S (d.cx m cs) sc ρ loc → SM S (d.cx m cs) ρ VR (eval it d.env) (x loc)) (hy : ∀ kp', SX S { d with kp := kp' } sc (execs b d.env) y) :
  SX S d sc (exec (.For (.Name nm px) it b [] pos) d.env) (fun loc h => onX (x loc) loc (fun v h₁ => match iterOf v h₁ with | none => none | some vs => forL v [i] false y h₁ vs loc h₁) h) := by
 intro loc m cs os σ s r loc' σE F e Q E hQ
 refine wpAny_For (sx_on F (hx _ _ _ _ F.vars) e (hQ.err List.prefix_rfl) fun v σ₁ e2 os₁ h₁ tk xv k F₁ hv => ?_) (not_set hset d.env)
 cases hi : iterOf v σ₁ with
 | none => rw [hi] at e2; cases e2
 | some vs =>
  rw [hi] at e2
  dsimp only at e2
  refine it_new (s := { s with heap := h₁, toks := tk }) F₁.led List.prefix_rfl hv hi fun I o₀ h₂ l₂ it₂ => ?_
  have l₂' : Led S d.h₀ d.L m d.fs (d.kp ++ (I, o₀) :: cs) os₁ σ₁ h₂ := l₂.kperm (by simpa using (List.perm_append_comm (l₁ := cs) (l₂ := [(I, o₀)])).append_left d.kp)
  refine forE_gen (FoI S d sc I v σ₁ vs (fun ws l σ' => forL v [i] false y σ₁ ws l σ' = some (r, loc', σE)) os₁ s) ?_ (vs.length + 1)
   ⟨h₂, tk, os₁, σ₁, m, cs, loc, o₀, 0, rfl, List.prefix_rfl, F₁.vars, F₁.cells, l₂', it₂, still_refl v σ₁, by simpa using e2, Nat.zero_le _, rfl⟩
  rintro kk s' ⟨h', tk', os', σ', m', cs', l', o, j, rfl, k', V', C', L', it', st, hL', hj, rfl⟩ P E' hP hB hX
  have hi' : iterOf v σ' = some vs := (still_iter st).trans hi
  cases hvj : vs[j]? with
  | none =>
   have hjv : vs.length ≤ j := List.getElem?_eq_none_iff.mp hvj
   rw [List.drop_eq_nil_of_le hjv] at hL'
   cases hL'
   exact it_done (s := { s with heap := h', toks := tk' }) hh L' it' hi' hvj fun h₄ l₄ => hP _ (hQ m' cs' os' h₄ tk' (k.trans k') ⟨V', C', l₄⟩)
  | some yv =>
   obtain ⟨hjl, hjy⟩ := List.getElem?_eq_some_iff.mp hvj
   rw [List.drop_eq_getElem_cons hjl, hjy] at hL'
   obtain ⟨rv, l₆, σ₆, hq, hN, hW⟩ := forL_inv hL'
   refine it_next (s := { s with heap := h', toks := tk' }) L' it' hi' hvj fun o' h₄ tk₄ xw l₄ it₄ hxw => hB _ _ fun B hB => ?_
   have l₄' : ({ d with kp := d.kp ++ (I, o') :: [] }.cx m' cs').led S os' σ' h₄ := by
    show Led S d.h₀ d.L m' d.fs ((d.kp ++ (I, o') :: []) ++ cs') os' σ' h₄
    simpa using l₄
   refine wpAny_of_eq (show letOwnedTupleGo (.Name nm px) (.ref I) xw = pure () from rfl) (wpAny_assign_Name (store_var (d := { d with kp := d.kp ++ (I, o') :: [] }) nd SO hk hloc (s := { s with heap := h₄, toks := tk₄ }) ⟨vars_up V', C', l₄'⟩ hn hs hxw fun m₅ cs₅ h₅ tk₅ F₅ => hB _ fun G hG hR => ?_))
   have memI : ∀ {hh : Heap} {oo : List (Addr × Obj)} {ss : H} {mm : Str → Option Value} {cc : List (Addr × Obj)}, ({ d with kp := d.kp ++ (I, o') :: [] }.cx mm cc).led S oo ss hh → hh.get? I = some o' := fun l => (l.news (I, o') (by simp)).1
   refine hy (d.kp ++ (I, o') :: []) (l'.upd i yv) m₅ cs₅ os' σ' { s with heap := h₅, toks := tk₅ } _ l₆ σ₆ F₅ hq _ _ fun m₆ cs₆ os₆ h₆ tk₆ k₆ F₆ => ?_
   have L₆ : Led S d.h₀ d.L m₆ d.fs (d.kp ++ (I, o') :: cs₆) os₆ σ₆ h₆ := by
    have this : Led S d.h₀ d.L m₆ d.fs ((d.kp ++ (I, o') :: []) ++ cs₆) os₆ σ₆ h₆ := F₆.led
    simpa using this
   have V₆ : VarsOK S (d.cx m₆ cs₆) sc (adr os₆) l₆ := vars_kp (d := { d with kp := d.kp ++ (I, o') :: [] }) (kp' := d.kp) F₆
   cases rv with
   | err q =>
    obtain ⟨rfl, rfl, rfl⟩ := hW (fun e => nomatch e)
    intro ev fl
    refine hX ev _ (loop_fly (c := d.cx m₆ cs₆) TF (s := { s with heap := h₆, toks := tk₆ }) L₆.kdrop ?_ fun h₇ l₇ f₇ => hQ m₆ cs₆ os₆ h₇ tk₆ (k.trans (k'.trans k₆)) ⟨V₆, F₆.cells, l₇⟩ ev f₇)
    obtain ⟨a, C, B, fr, f1, f2, f3, f4, f5, f6⟩ := fl
    refine ⟨a, C, B, fr, f1, f2, f3, f4, f5, fun p hp => f6 p ?_⟩
    rcases List.mem_append.mp hp with hp | hp
    ·rcases List.mem_append.mp hp with hp | hp
     ·exact List.mem_append_left _ (List.mem_append_left _ (List.mem_append_left _ hp))
     ·exact List.mem_append_left _ (List.mem_append_right _ hp)
    ·exact List.mem_append_right _ hp
   | ok ov =>
    cases ov with
    | none =>
     obtain ⟨hst, hL'⟩ := if_inv (hN rfl)
     refine hG (vs.length + 1 - (j + 1)) _ (Nat.sub_succ_lt_self _ _ (Nat.lt_succ_of_le hj)) ⟨h₆, tk₆, os₆, σ₆, m₆, cs₆, l₆, o', j + 1, rfl, k'.trans k₆, V₆, F₆.cells, L₆, it₄.at (fun ob q => ?_) k₆ (still_trans (still_sym st) hst), hst, hL', hjl, rfl⟩
     rw [memI l₄'] at q; cases q; exact memI F₆.led
    | some w =>
     obtain ⟨rfl, rfl, rfl⟩ := hW (fun e => nomatch e)
     exact fun a ha => hR a _ (hQ m₆ cs₆ os₆ h₆ tk₆ (k.trans (k'.trans k₆)) ⟨V₆, F₆.cells, L₆.kdrop⟩ a ha)
inductive FtI (y : Loc → H → Option (R (Option V) × Loc × H)) (v : V) (i i' : Nat) (σ σ₁ σ' : H) (yv : V) (ys : List V) (l l' : Loc) (r : R (Option V)) : Prop
 | mk (a : Nat) (u w : V) (e1 : yv = .ref a) (e2 : σ₁.get a = some (.tup [u, w])) (o : R (Option V)) (l₂ : Loc) (σ₂ : H) (e : y ((l.upd i u).upd i' w) σ₁ = some (o, l₂, σ₂)) (hN : o = .ok none → (if still v σ σ₂ then forL v [i, i'] true y σ ys l₂ σ₂ else none) = some (r, l', σ')) (hV : o ≠ .ok none → r = o ∧ l' = l₂ ∧ σ' = σ₂) : FtI y v i i' σ σ₁ σ' yv ys l l' r
theorem forT_inv {v : V} {i i' : Nat} {y : Loc → H → Option (R (Option V) × Loc × H)} {σ σ₁ σ' : H} {yv : V} {ys : List V} {l l' : Loc} {r : R (Option V)} (h : forL v [i, i'] true y σ (yv :: ys) l σ₁ = some (r, l', σ')) : FtI y v i i' σ σ₁ σ' yv ys l l' r := by
 unfold forL at h
 cases hb : bindTg [i, i'] true yv l σ₁ with
 | none => rw [hb] at h; cases h
 | some lb =>
  rw [hb] at h
  obtain ⟨a, u, w, e1, e2, rfl⟩ := bind_two hb
  obtain ⟨o, l₂, σ₂, e, hN, hV⟩ := afterE_inv h
  exact ⟨a, u, w, e1, e2, o, l₂, σ₂, e, hN, hV⟩
theorem sx_forT (TF : ∃ outer, d.A.frames = some (d.env :: outer) ∧ d.env.frame = some d.L) (nd : S.T.Nodup) (SO : ScOK sc d.env) (hk : d.env.scope.kind = .function) (hloc : d.env.locals = d.L) (hh : d.A.handled = none) {it : Expr} {na nb : Str} {pa pb pt pos : Pos} {kt : Nat} {b : List Stmt} {i i' : Nat} {x : Loc → X V} {y : XS} (hna : S.T[i]? = some na) (hsa : StoreOK sc d.env na) (hnb : S.T[i']? = some nb) (hsb : StoreOK sc d.env nb) (hset : isSet it = false)
  (hx : ∀ m cs ρ loc, VarsOK S (d.cx m cs) sc ρ loc → SM S (d.cx m cs) ρ VR (eval it d.env) (x loc)) (hy : ∀ kp', SX S { d with kp := kp' } sc (execs b d.env) y) :
  SX S d sc (exec (.For (.Tuple [.Name na pa, .Name nb pb] kt pt) it b [] pos) d.env) (fun loc h => onX (x loc) loc (fun v h₁ => match iterOf v h₁ with | none => none | some vs => forL v [i, i'] true y h₁ vs loc h₁) h) := by
 intro loc m cs os σ s r loc' σE F e Q E hQ
 refine wpAny_For (sx_on F (hx _ _ _ _ F.vars) e (hQ.err List.prefix_rfl) fun v σ₁ e2 os₁ h₁ tk xv k F₁ hv => ?_) (not_set hset d.env)
 cases hi : iterOf v σ₁ with
 | none => rw [hi] at e2; cases e2
 | some vs =>
  rw [hi] at e2
  dsimp only at e2
  refine it_new (s := { s with heap := h₁, toks := tk }) F₁.led List.prefix_rfl hv hi fun I o₀ h₂ l₂ it₂ => ?_
  have l₂' : Led S d.h₀ d.L m d.fs (d.kp ++ (I, o₀) :: cs) os₁ σ₁ h₂ := l₂.kperm (by simpa using (List.perm_append_comm (l₁ := cs) (l₂ := [(I, o₀)])).append_left d.kp)
  refine forE_gen (FoI S d sc I v σ₁ vs (fun ws l σ' => forL v [i, i'] true y σ₁ ws l σ' = some (r, loc', σE)) os₁ s) ?_ (vs.length + 1)
   ⟨h₂, tk, os₁, σ₁, m, cs, loc, o₀, 0, rfl, List.prefix_rfl, F₁.vars, F₁.cells, l₂', it₂, still_refl v σ₁, by simpa using e2, Nat.zero_le _, rfl⟩
  rintro kk s' ⟨h', tk', os', σ', m', cs', l', o, j, rfl, k', V', C', L', it', st, hL', hj, rfl⟩ P E' hP hB hX
  have hi' : iterOf v σ' = some vs := (still_iter st).trans hi
  cases hvj : vs[j]? with
  | none =>
   have hjv : vs.length ≤ j := List.getElem?_eq_none_iff.mp hvj
   rw [List.drop_eq_nil_of_le hjv] at hL'
   cases hL'
   exact it_done (s := { s with heap := h', toks := tk' }) hh L' it' hi' hvj fun h₄ l₄ => hP _ (hQ m' cs' os' h₄ tk' (k.trans k') ⟨V', C', l₄⟩)
  | some yv =>
   obtain ⟨hjl, hjy⟩ := List.getElem?_eq_some_iff.mp hvj
   rw [List.drop_eq_getElem_cons hjl, hjy] at hL'
   obtain ⟨ta, u, w', hyv, hta, rv, l₆, σ₆, hq, hN, hW⟩ := forT_inv hL'
   refine it_next (s := { s with heap := h', toks := tk' }) L' it' hi' hvj fun o' h₄ tk₄ xw l₄ it₄ hxw => hB _ _ fun B hB => ?_
   have l₄' : ({ d with kp := d.kp ++ (I, o') :: [] }.cx m' cs').led S os' σ' h₄ := by
    show Led S d.h₀ d.L m' d.fs ((d.kp ++ (I, o') :: []) ++ cs') os' σ' h₄
    simpa using l₄
   rw [hyv] at hxw
   obtain ⟨T, ob, rfl, _, _, ⟨ws', nt, rfl, hws', _⟩, hT, _⟩ := l₄'.ref List.prefix_rfl hta hxw
   obtain ⟨x1, x2, rfl, hu, hw'⟩ := hws'.inv2
   refine go_it (s := { s with heap := h₄, toks := tk₄ }) it₄ ?_
   refine wpAny_assign_Tuple hh (s := { s with heap := h₄, toks := tk₄ }) (show h₄.IsTuple T #[x1, x2] from ⟨_, hT, rfl, nt, rfl⟩) rfl rfl fun hA hxA => ?_
   have kA : ∀ b o, h₄.get? b = some o → hA.get? b = some o := fun b o e => hxA b o (Nat.ne_of_lt (Heap.lt_size e)) e
   show wpAny _ d.A (do holding [x2] (assign (.Name na pa) d.env x1); do holding [] (assign (.Name nb pb) d.env x2); pure ()) _ _ _
   refine wpAny_bind (wpAny_holding (wpAny_assign_Name (store_var (d := { d with kp := d.kp ++ (I, o') :: [] }) nd SO hk hloc (s := { s with heap := hA, toks := tk₄ }) ⟨vars_up V', C', l₄'.keep kA⟩ hna hsa hu fun mB csB hB' tkB FB => ?_)))
   refine wpAny_bind (wpAny_holding (wpAny_assign_Name (store_var (d := { d with kp := d.kp ++ (I, o') :: [] }) nd SO hk hloc (s := { s with heap := hB', toks := tkB }) FB hnb hsb hw' fun m₅ cs₅ h₅ tk₅ F₅ => wpAny_pure (hB _ fun G hG hR => ?_))))
   have memI : ∀ {hh : Heap} {oo : List (Addr × Obj)} {ss : H} {mm : Str → Option Value} {cc : List (Addr × Obj)}, ({ d with kp := d.kp ++ (I, o') :: [] }.cx mm cc).led S oo ss hh → hh.get? I = some o' := fun l => (l.news (I, o') (by simp)).1
   refine hy (d.kp ++ (I, o') :: []) ((l'.upd i u).upd i' w') m₅ cs₅ os' σ' { s with heap := h₅, toks := tk₅ } _ l₆ σ₆ F₅ hq _ _ fun m₆ cs₆ os₆ h₆ tk₆ k₆ F₆ => ?_
   have L₆ : Led S d.h₀ d.L m₆ d.fs (d.kp ++ (I, o') :: cs₆) os₆ σ₆ h₆ := by
    have this : Led S d.h₀ d.L m₆ d.fs ((d.kp ++ (I, o') :: []) ++ cs₆) os₆ σ₆ h₆ := F₆.led
    simpa using this
   have V₆ : VarsOK S (d.cx m₆ cs₆) sc (adr os₆) l₆ := vars_kp (d := { d with kp := d.kp ++ (I, o') :: [] }) (kp' := d.kp) F₆
   cases rv with
   | err q =>
    obtain ⟨rfl, rfl, rfl⟩ := hW (fun e => nomatch e)
    intro ev fl
    refine hX ev _ (loop_fly (c := d.cx m₆ cs₆) TF (s := { s with heap := h₆, toks := tk₆ }) L₆.kdrop ?_ fun h₇ l₇ f₇ => hQ m₆ cs₆ os₆ h₇ tk₆ (k.trans (k'.trans k₆)) ⟨V₆, F₆.cells, l₇⟩ ev f₇)
    obtain ⟨a, C, B, fr, f1, f2, f3, f4, f5, f6⟩ := fl
    refine ⟨a, C, B, fr, f1, f2, f3, f4, f5, fun p hp => f6 p ?_⟩
    rcases List.mem_append.mp hp with hp | hp
    ·rcases List.mem_append.mp hp with hp | hp
     ·exact List.mem_append_left _ (List.mem_append_left _ (List.mem_append_left _ hp))
     ·exact List.mem_append_left _ (List.mem_append_right _ hp)
    ·exact List.mem_append_right _ hp
   | ok ov =>
    cases ov with
    | none =>
     obtain ⟨hst, hL'⟩ := if_inv (hN rfl)
     refine hG (vs.length + 1 - (j + 1)) _ (Nat.sub_succ_lt_self _ _ (Nat.lt_succ_of_le hj)) ⟨h₆, tk₆, os₆, σ₆, m₆, cs₆, l₆, o', j + 1, rfl, k'.trans k₆, V₆, F₆.cells, L₆, it₄.at (fun ob q => ?_) k₆ (still_trans (still_sym st) hst), hst, hL', hjl, rfl⟩
     rw [memI l₄'] at q; cases q; exact memI F₆.led
    | some w =>
     obtain ⟨rfl, rfl, rfl⟩ := hW (fun e => nomatch e)
     exact fun a ha => hR a _ (hQ m₆ cs₆ os₆ h₆ tk₆ (k.trans (k'.trans k₆)) ⟨V₆, F₆.cells, L₆.kdrop⟩ a ha)
end
end Mine.Internal
set_option autoImplicit false
namespace Mine.Internal
open PySem PySem.W PySem.Calls PyProof.Rows
variable {S : Sig}
theorem excMatches_ref {M : Model} {A : Around} {E : Value → Shared → Prop} {nm q nm' q' : Str} {C N D N' : Addr} {bs bm bs' bm' : List Value} {hdct hdct' : Bool} {sn sn' : List Str} {sub sub' : List Value} {ab ab' : Bool} {col col' : Option Bool} {dd dd' : Option Addr} {k0 k1 k2 k3 k5 k0' k1' k2' k3' k5' : Option Value} {newId newId' : String}
  {h : Heap} {g : Array GenState} {d : Drawn} {t : Nat} {os : OsState} {e : Addr} {oe : Obj} {Q : Bool → Shared → Prop}
  (hC : h.get? C = some (excClassObj nm q C N bs bm hdct sn sub ab col dd k0 k1 k2 k3 k5 newId)) (hD : h.get? D = some (excClassObj nm' q' D N' bs' bm' hdct' sn' sub' ab' col' dd' k0' k1' k2' k3' k5' newId')) (he : h.get? e = some oe) (hcls : oe.cls = .ref C) (hbase : bm'.contains (.type "BaseException") = true)
  (hq : Q ((Value.ref C :: bm).contains (.ref D)) ⟨h, g, d, t, os⟩) : wpAny M A (excMatches (.ref e) (.ref D)) Q E ⟨h, g, d, t, os⟩ := by
 have hcB : (Value.ref D :: bm').contains (.type "BaseException") = true := by rw [List.contains_cons, hbase, Bool.or_true]
 have f := tc_notTuple
 unfold excMatches
 repeat (first | (with_reducible refine wpAny_loadPart_at he ?_; rw [hcls]) | with_reducible refine wpAny_loadPart_at hD ?_ | (with_reducible refine wpAny_isSubtype_exc hD ?_; rw [hcB]) | with_reducible refine wpAny_isSubtype_exc hC ?_ | wp_step)
 cases hb : (Value.ref C :: bm).contains (.ref D) <;> (rw [hb] at hq; wp_walk; exact hq)
section
variable {d : Dx} {sc : Scope} {n : Nat} {c : Nat} {C : Addr} {nm : Str}
theorem sx_rais (OK : SigOK S) (K : ∀ m cs, CtxOK S n (d.cx m cs)) (SO : ScOK sc d.env) (hC : S.ex c = some C) (hn : S.T[c]? = some nm) (hg : isGlob sc nm = true) {st : Str} (hs : okS st = true) {kd : Nat} {q cp p pos : Pos} :
  SX S d sc (exec (.Raise (some (.Call (.Name nm q) [.Constant (.str st) kd cp] [] p)) none pos) d.env) (fun loc h => some (.err c, loc, h)) := by
 intro loc m cs os σ s r loc' σ' F e Q E hQ
 cases e
 obtain ⟨nm', h1, h2, h3⟩ := OK.exs c C hC
 rw [hn] at h1; cases h1
 obtain ⟨N, nm', qn, bs, hdct, sn, sub, ab, col, dd, k0, k1, k2, k3, k5, mN, hC', hN, hni, T⟩ := h3 _ (K m cs).kin
 have hg' := Bool.and_eq_true_iff.mp hg
 refine wpAny_Raise_call_subT (C := C) (nm := nm') (q := qn) (N := N) (bs := bs) (bm := bmOf S C) (hdct := hdct) (sn := sn) (sub := sub) (ab := ab) (col := col) (dd := dd) (k0 := k0) (k1 := k1) (k2 := k2) (k3 := k3) (k5 := k5) PySem.F.excBase_ValueError (mN := mN) (T.hasType PySem.F.excBase_ValueError.hasBase) (K m cs).hand rfl hni ?_
 refine sm_top (c := d.cx m cs) (ρ := adr os) (x := V.none) (RV := fun _ _ v => v = .ref C) (K m cs).toCtx0 (SO.glob _ (of_decide_eq_true hg'.1)) (by simpa using hg'.2) h2 (fun _ => rfl) os σ s _ _ List.prefix_rfl F.led rfl _ _ fun os₁ h₁ tk₁ f k₁ l₁ hf => ?_
 refine ⟨hf, ?_⟩
 refine Calls.evalArgs_plain (Calls.spliced_cons (sm_const_str (c := d.cx m cs) (ρ := adr os₁) (k := kd) (p := cp) hs os₁ σ { s with heap := h₁, toks := tk₁ } _ _ List.prefix_rfl l₁ rfl _ _ fun os₂ h₂ tk₂ v k₂ l₂ _ => Calls.spliced_nil ?_))
 exact ⟨rfl, Nat.le_of_ble_eq_true rfl, l₂.fr.keep _ _ hC', hN.keeps l₂.fr.keep, T.keeps l₂.fr.keep, fun h' e hx => hQ m cs os₂ h' tk₂ (k₁.trans k₂) (F.step (k₁.trans k₂) (l₂.keep hx.keeps)) _ (fly_made (K m cs) l₂ hC hx)⟩
end
theorem bm_has (OK : SigOK S) {k c : Nat} {C D : Addr} (hC : S.ex k = some C) (hD : S.ex c = some D) : (Value.ref C :: bmOf S C).contains (.ref D) = decide (k = c ∨ c = S.P.xb) := by
 have b1 := OK.exb k C hC
 have b2 := OK.exb c D hD
 have vn : veL.contains (Value.ref D) = false := rfl
 have key : (Value.ref C :: bmOf S C).contains (.ref D) = decide (D = C ∨ D = S.xp) := by
  rw [List.contains_cons]
  have e1 : (Value.ref D == Value.ref C) = decide (D = C) := by
   by_cases h : D = C
   ·subst h; rw [decide_eq_true rfl]; exact beq_self_eq_true _
   ·rw [decide_eq_false h]; exact beq_eq_false_iff_ne.mpr fun e => h (Value.ref.inj e)
  rw [e1]
  unfold bmOf
  by_cases hx : C = S.xp
  ·rw [if_pos hx, vn, Bool.or_false]
   by_cases h : D = C
   ·rw [decide_eq_true h, decide_eq_true (.inl h)]
   ·rw [decide_eq_false h, decide_eq_false (by rintro (q | q); exact h q; exact h (q.trans hx.symm))]
  ·rw [if_neg hx, List.contains_cons, vn, Bool.or_false]
   have e2 : (Value.ref D == Value.ref S.xp) = decide (D = S.xp) := by
    by_cases h : D = S.xp
    ·rw [decide_eq_true h, h]; exact beq_self_eq_true _
    ·rw [decide_eq_false h]; exact beq_eq_false_iff_ne.mpr fun e => h (Value.ref.inj e)
   rw [e2, ← Bool.decide_or]
 rw [key]
 refine decide_eq_decide.mpr ⟨?_, ?_⟩
 ·rintro (h | h)
  ·subst h; exact .inl (OK.exi k c D hC hD)
  ·exact .inr (b2.mpr h)
 ·rintro (h | h)
  ·subst h; rw [hC] at hD; exact .inl (Option.some.inj hD).symm
  ·exact .inr (b2.mp h)
end Mine.Internal
set_option autoImplicit false
set_option maxRecDepth 100000
namespace Mine.Internal
open PySem PySem.W PySem.Calls PyProof.Rows Builtin Builtin.ObjectAttr Builtin.Getset_descriptor
variable {S : Sig}
section
variable {prog : Program} {w : World} {A : Around} {E : Value → Shared → Prop} {h : Heap} {g : Array GenState} {d : Drawn} {t : Nat} {os : OsState} {K : Frag} {a C : Addr} {o : Obj}
theorem exc_get {tp : Value} {R : Result → Shared → Prop} (X : K.In h) (q : ExQ K C) (hx : h.get? a = some o) (hc : o.cls = .ref C) (hq : R (.ok (.ret (.ref C))) ⟨h, g, d, t, os⟩) :
  codeAny (model prog w) A (.call (.builtin "getset_descriptor.__get__") ⟨[.builtin "object.__class__", .ref a, tp], []⟩) R ⟨h, g, d, t, os⟩ := by
 have L0 : Looks (model prog w) h (typeOf (.ref a)) (.ref C) := hc ▸ (Looks.ld hx).andThen .now
 have L1 := looks_mroIn (M := model prog w) X q.mo
 refine codeAny_call_builtin KF.slot_gs.plain KF.entry_gs (KF.slot_gs.check _ _ _ _ _ _ _ _ KF.type_class (KF.args_gs _ _ _) ?_)
 unfold Builtin.«getset_descriptor.__get__» descrGet
 rw [dga_obj]
 refine wpAny_bind (wpAny_pure ?_)
 unfold descrGetter descrCheckInstance descrNameAndClass isInstance
 simp only [KF.owner_class]
 repeat lk
 refine ⟨Code.quiet_builtin _ (by decide +kernel), codeAny_builtin KF.entry_class ?_⟩
 unfold Builtin.«object.__class__» shownTypeOf
 repeat lk
 exact hq
theorem exc_entry {tk : Tok} {Q : Fin → Shared → Prop} (X : K.In h) (q : ExQ K C) (hx : h.get? a = some o) (hc : o.cls = .ref C) (hq : Q (.done (.ret (.ref C))) ⟨h, g, d, t, os⟩) :
  wpAny (model prog w) A (Builtin.«object.__getattribute__» ⟨[.ref a, .str "__class__" tk], []⟩) Q E ⟨h, g, d, t, os⟩ := by
 have hT5 : (⟨h, g, d, t, os⟩ : Shared).TypeIs (.builtin "object.__class__") "getset_descriptor" := F.typeOf_object_class
 have f5 := F.typeOf_object_class
 have f6 := F.slot_gs_get.lookup
 have f7 := F.slot_gs_set.lookup
 have L1 := looks_findIn (M := model prog w) X q.cl
 repeat (any_goals (first | assumption | (with_reducible refine wpAny_loadPart_at hx ?_; rw [hc]) | with_reducible refine L1.at ?_ | wp_step))
 refine exc_get X q hx hc ?_
 repeat (any_goals (first | assumption | wp_step))
theorem exc_check {M : Model} {nameV : Value} {Q : Unit → Shared → Prop} (X : K.In h) (q : ExQ K C) (hx : h.get? a = some o) (hc : o.cls = .ref C) (hq : Q () ⟨h, g, d, t, os⟩) : wpAny M A (checkBuiltinCall "BaseException.__getattribute__" ⟨[.ref a, nameV], []⟩) Q E ⟨h, g, d, t, os⟩ := by
 have hk : builtinKind "BaseException.__getattribute__" = some .slot := by decide +kernel
 have hsplit : splitId "BaseException.__getattribute__" = some ("BaseException", "__getattribute__") := by decide +kernel
 have ha := F.args_bexc_ga (.ref a) nameV
 have L1 := looks_mroIn (M := M) X q.mb
 simp only [checkBuiltinCall, hk, hsplit]
 refine wpAny_bind ?_
 ·unfold isInstance
  repeat (first | (with_reducible refine wpAny_loadPart_at hx ?_; rw [hc]) | with_reducible refine L1.at ?_ | wp_step)
  exact hq
theorem exc_by {tk : Tok} {fill expr : Bool} {Q : Value → Shared → Prop} (X : K.In h) (q : ExQ K C) (hx : h.get? a = some o) (hc : o.cls = .ref C) (hq : Q (.ref C) ⟨h, g, d, t, os⟩) :
  wpAny (model prog w) A (getAttrBy (.ref a) (.str "__class__" tk) fill expr) Q E ⟨h, g, d, t, os⟩ := by
 have FB := F.attr_ValueError
 have f3 := FB.ga.bind (.ref a)
 have hx0 : (expr && onTheHeap (Value.builtin "BaseException.__getattribute__")) = false := by cases expr <;> rfl
 have hx2 : (Value.builtin "BaseException.__getattribute__" == Value.builtin "object.__getattribute__") = false := by decide +kernel
 have hx1 : (onTheHeap (Value.ref C) && Value.builtin "BaseException.__getattribute__" == Value.builtin "object.__getattribute__") = false := by rw [hx2]; rfl
 have L1 := looks_findIn (M := model prog w) X q.ga
 have L2 := looks_findIn (M := model prog w) X q.gt
 repeat (any_goals (first | assumption | (with_reducible refine wpAny_loadPart_at hx ?_; rw [hc]) | with_reducible refine L1.at ?_ | with_reducible refine L2.at ?_ | wp_step))
 refine codeAny_call_builtin FB.ga.plain F.entry_bexc_ga (exc_check X q hx hc (exc_entry X q hx hc ?_))
 repeat (any_goals (first | assumption | wp_step))
theorem exc_cls {Q : Option Value → Shared → Prop} (X : K.In h) (q : ExQ K C) (hx : h.get? a = some o) (hc : o.cls = .ref C) (hq : Q (some (.ref C)) ⟨h, g, d, t + 1, os⟩) :
  wpAny (model prog w) A (getAttr? (.ref a) "__class__") Q E ⟨h, g, d, t, os⟩ := by
 unfold getAttr? getAttrBy?
 repeat (any_goals (first | assumption | with_reducible apply exc_by X q hx hc | wp_step))
theorem exc_kit (q : ExQ K C) : KitX K (.ref a) (.ref C) (fun h => ∃ o, h.get? a = some o ∧ o.cls = .ref C) where
 ty := fun _ _ _ ⟨o, h1, h2⟩ => h2 ▸ (Looks.ld h1).andThen .now
 it := fun _ _ X _ => by
  have hcD := q.is
  unfold clsIn at hcD
  split at hcD
  ·rename_i c' d' cd' sl' ho
   intro A' Q' E' s' k q
   unfold isType loadHead
   exact wpAny_bind (wpAny_loadPart (k _ _ (X _ _ ho)) (wpAny_pure q))
  ·cases hcD
 ne := fun h tp dd its n sl X htp => by
  have hcD := q.is
  refine Bool.eq_false_iff.mpr fun q => ?_
  have e : C = tp := Value.ref.inj (beq_iff_eq.mp q)
  subst e
  unfold clsIn at hcD
  split at hcD
  ·rename_i c' d' cd' sl' ho
   have z := (X _ _ ho).symm.trans htp
   cases z
  ·cases hcD
 ca := fun {prog w A E Q s} X ⟨o, h1, h2⟩ k => by obtain ⟨h, g, d, t, os⟩ := s; exact exc_cls X q h1 h2 k
end
structure Gd (c : Cx) (nm : Str) (a C : Addr) (h : Heap) : Prop where
 keep : ∀ b o, c.h₀.get? b = some o → h.get? b = some o
 ns : ∃ m, h.Ns c.L m ∧ m nm = some (.ref a)
 ob : ∃ o, h.get? a = some o ∧ o.cls = .ref C
theorem Gd.keeps {c : Cx} {nm : Str} {a C : Addr} {h h' : Heap} (g : Gd c nm a C h) (k : ∀ b o, h.get? b = some o → h'.get? b = some o) : Gd c nm a C h' :=
 ⟨fun b o e => k _ _ (g.keep b o e), let ⟨m, h1, h2⟩ := g.ns; ⟨m, h1.keeps k, h2⟩, let ⟨o, h1, h2⟩ := g.ob; ⟨o, k _ _ h1, h2⟩⟩
noncomputable def ckCl (N : Nam) (sc : Scope) (k : Nat) (e : Expr) : Bool := isT e 23 && (nameIs N k (ptE e).nm && (isGlob sc (ptE e).nm && (N.ex k).isSome))
noncomputable def ckCls (N : Nam) (sc : Scope) : List Nat → List Expr → Bool
 | [], es => nil? es
 | k :: ks, es => match es with
  | e :: es => ckCl N sc k e && ckCls N sc ks es
  | [] => false
noncomputable def exAll (S : Sig) : List Nat → List Value → Prop
 | [], ws => ws = []
 | k :: ks, ws => ∃ D r, S.ex k = some D ∧ ws = .ref D :: r ∧ exAll S ks r
section
variable {c : Cx} {n : Nat} {sc : Scope} {nm : Str} {a C : Addr} {s : Shared} {E : Value → Shared → Prop}
theorem rd_cls (OK : SigOK S) (K : Ctx0 S n c) (SO : ScOK sc c.env) (G : ∀ b o, c.h₀.get? b = some o → s.heap.get? b = some o) {k : Nat} {e : Expr} (h : ckCl S.nam sc k e = true) {Q : Value → Shared → Prop} (hQ : ∀ D, S.ex k = some D → Q (.ref D) s) : wpAny (model S.prog S.w) c.A (eval e c.env) Q E s := by
 obtain ⟨h1, h2⟩ := and_t h
 obtain ⟨h2, h3⟩ := and_t h2
 obtain ⟨h3, h4⟩ := and_t h3
 obtain ⟨D, hD⟩ := Option.isSome_iff_exists.mp h4
 obtain ⟨nm', d1, d2, _⟩ := OK.exs k D hD
 rw [T_eq h2] at d1; cases d1
 obtain ⟨mg, mb, q1, q2, q3⟩ := K.top
 have hg := Bool.and_eq_true_iff.mp h3
 rw [t_name h1]
 exact Name_function_global K.kind (SO.glob _ (of_decide_eq_true hg.1)) (loadGlobal_global (K.glob ▸ q1.keeps G) (mg_of K.kin q1 d2) (hQ D hD)) (by simpa using hg.2)
theorem rd_boot (K : Ctx0 S n c) (SO : ScOK sc c.env) (G : ∀ b o, c.h₀.get? b = some o → s.heap.get? b = some o) {x : Str} {v : Value} {p : Pos} (hg : isGlob sc x = true) (e : nsIn S.K mainGlobals x = some none) (hv : bootBuiltins x = some v) (hx : x ≠ "__name__") {Q : Value → Shared → Prop} (hQ : Q v s) : wpAny (model S.prog S.w) c.A (eval (.Name x p) c.env) Q E s := by
 obtain ⟨mg, mb, q1, q2, q3⟩ := K.top
 have hg := Bool.and_eq_true_iff.mp hg
 exact Name_function_global K.kind (SO.glob _ (of_decide_eq_true hg.1)) (loadGlobal_builtin (K.glob ▸ q1.keeps G) (mg_none_of K.kin q1 e) (K.blt ▸ q2.keeps G) ((q3 x hx).trans hv) hQ) (by simpa using hg.2)
theorem rd_e (K : Ctx0 S n c) (SO : ScOK sc c.env) (G : Gd c nm a C s.heap) {p : Pos} (hl : sc.names.lookup nm = some .local) (hd : (nm == ("__debug__" : Str)) = false) {Q : Value → Shared → Prop} (hQ : Q (.ref a) s) : wpAny (model S.prog S.w) c.A (eval (.Name nm p) c.env) Q E s := by
 obtain ⟨m, h1, h2⟩ := G.ns
 exact wpAny_Name (wpAny_loadName_local K.kind (SO.loc _ hl) (K.locs ▸ h1) h2 hQ) hd
theorem star_cl {N : Nam} {k : Nat} {e : Expr} (h : ckCl N sc k e = true) (rest : List Expr) (env : Env) : starEach (e :: rest) env = (false, eval e env) :: starEach rest env := by
 rw [t_name (and_t h).1]; rfl
theorem rd_all (OK : SigOK S) (K : Ctx0 S n c) (SO : ScOK sc c.env) (G : Gd c nm a C s.heap) {pos : Pos} : ∀ {ks : List Nat} {es : List Expr} {Q : List Value → Shared → Prop}, ckCls S.nam sc ks es = true → (∀ ws, exAll S ks ws → Q ws s) → wpAny (model S.prog S.w) c.A (spliced (backTo pos (starEach es c.env))) Q E s
 | [], [], Q, _, hQ => wpAny_pure (hQ [] rfl)
 | [], _ :: _, _, h, _ => nomatch (show false = true from h)
 | _ :: _, [], _, h, _ => nomatch (show false = true from h)
 | k :: ks, e :: es, Q, h, hQ => by
  obtain ⟨h1, h2⟩ := and_t (show (_ && _) = true from h)
  rw [star_cl h1]
  exact spliced_cons (rd_cls OK K SO G.keep h1 fun D hD => rd_all OK K SO G h2 fun ws hw => hQ _ ⟨D, ws, hD, rfl, hw⟩)
theorem exAll_len : ∀ {ks : List Nat} {ws : List Value}, exAll S ks ws → ws.length = ks.length
 | [], _, h => by cases h; rfl
 | _ :: _, _, ⟨_, _, _, e, h⟩ => by rw [e]; exact congrArg (· + 1) (exAll_len h)
theorem kit_all (OK : SigOK S) {q : Nat} (hC : S.ex q = some C) : ∀ {ks : List Nat} {ws : List Value}, exAll S ks ws → ks.contains S.P.xb = false → kitAny S.K (.ref C) ws = some (ks.contains q)
 | [], _, h, _ => by cases h; rfl
 | k :: ks, _, ⟨D, r, hD, e, h⟩, hb => by
  rw [List.contains_cons] at hb ⊢
  obtain ⟨hb1, hb2⟩ := Bool.or_eq_false_iff.mp hb
  subst e
  unfold kitAny
  rw [OK.exk q k C D hC hD]
  have hx : ¬ k = S.P.xb := fun e => by rw [e, beq_self_eq_true] at hb1; cases hb1
  by_cases hqk : q = k
  ·rw [decide_eq_true (.inl hqk), hqk, beq_self_eq_true]; rfl
  ·rw [decide_eq_false (by rintro (e | e); exact hqk e; exact hx e), beq_eq_false_iff_ne.mpr hqk, Bool.false_or]
   exact kit_all OK hC h hb2
theorem rd_isi (OK : SigOK S) (K : Ctx0 S n c) (SO : ScOK sc c.env) (G : Gd c nm a C s.heap) (hg : isGlob sc "isinstance" = true) (hl : sc.names.lookup nm = some .local) (hd : (nm == ("__debug__" : Str)) = false) {p q pos : Pos} {x2 : Expr} (hs : starEach [x2] c.env = [(false, eval x2 c.env)]) {Q : Value → Shared → Prop}
  (h : wpAny (model S.prog S.w) c.A (eval x2 c.env) (fun w s' => S.K.In s'.heap ∧ wpAny (model S.prog S.w) c.A (call (.builtin "isinstance") [.ref a, w]) Q E s') E s) :
  wpAny (model S.prog S.w) c.A (eval (.Call (.Name "isinstance" p) [.Name nm q, x2] [] pos) c.env) Q E s := by
 rw [arm_eval_Call_Name']
 refine wpAny_bind (rd_boot K SO G.keep hg OK.isi isi_boot (by decide +kernel) ?_)
 have e : starEach [.Name nm q, x2] c.env = [(false, eval (.Name nm q) c.env), (false, eval x2 c.env)] := by
  show (false, eval (.Name nm q) c.env) :: starEach [x2] c.env = _; rw [hs]
 refine callWith_k K (kept_builtin "isinstance") (by unfold NoStar; rw [e]; rfl) ?_
 rw [e]
 refine spliced_cons (rd_e K SO G hl hd (spliced_cons (wpAny_mono h (fun w s' z => wpAny_pure ?_) fun _ _ z => z)))
 exact z
end
theorem ve_boot : bootBuiltins "ValueError" = some (.type "ValueError") := by decide +kernel
theorem sx_tryE (OK : SigOK S) {d : Dx} {n : Nat} (K : ∀ m cs, CtxOK S n (d.cx m cs)) (TF : ∃ outer, d.A.frames = some (d.env :: outer) ∧ d.env.frame = some d.L) (SO : ScOK d.env.scope d.env)
  {x : XS} {body : List Stmt} (hx : SX S d d.env.scope (execs body d.env) x) {nm : Str} {c i k : Nat} {ks : List Nat} {ce ke : Expr} {es : List Expr} {kt kb : Nat} {p1 p2 p3 p4 p5 p6 p7 p8 p9 p10 p11 p12 p13 p14 p15 p16 hp pos : Pos} {hs : List ExceptHandler}
  (hce : ckCl S.nam d.env.scope c ce = true) (hl : d.env.scope.names.lookup nm = some .local) (hd : (nm == ("__debug__" : Str)) = false) (hg : isGlob d.env.scope "isinstance" = true) (hgv : isGlob d.env.scope "ValueError" = true) (hks : ckCls S.nam d.env.scope ks es = true) (hlen : ks.length ≤ 30) (hkc : ks.contains c = false) (hkk : k ≠ c)
  (hke : ckCl S.nam d.env.scope k ke = true) :
  SX S d d.env.scope (exec (.Try body (.ExceptHandler (some ce) (some nm) [.If (.Call (.Name "isinstance" p1) [.Name nm p2, .Tuple es kt p3] [] p4) [.Return (some (.Constant (.bool false) kb p5)) p6] [] p7,
   .Return (some (.BoolOp .And [.Call (.Name "isinstance" p8) [.Name nm p9, .Name "ValueError" p10] [] p11, .Call (.Name "isinstance" p12) [.Name nm p13, ke] [] p14] p15)) p16] hp :: hs) [] [] pos) d.env) (fun loc h => tryE S.P (x loc h) c i ks k) := by
 intro loc m cs' os σ s r' loc' σ' F e Q E hQ
 refine wpAny_Try_except ?_
 have e : tryE S.P (x loc σ) c i ks k = some (r', loc', σ') := e
 cases hxx : x loc σ with
 | none => rw [hxx] at e; cases e
 | some p =>
  obtain ⟨rr, l₁, σ₁⟩ := p
  rw [hxx] at e
  refine hx loc m cs' os σ s rr l₁ σ₁ F hxx _ _ fun m₁ cs₁ os₁ h₁ tk₁ k₁ F₁ => ?_
  cases rr with
  | ok o =>
   cases e
   cases o with
   | none => exact wpAny_execs_nil (hQ m₁ cs₁ os₁ h₁ tk₁ k₁ F₁)
   | some w => exact hQ m₁ cs₁ os₁ h₁ tk₁ k₁ F₁
  | err q =>
   have e : (if c = S.P.xb then some (R.ok (some (V.bool (!ks.contains q && decide (q = k)))), (fun _ => none : Loc), σ₁) else none) = some (r', loc', σ') := e
   have hcb : c = S.P.xb := by
    by_cases z : c = S.P.xb
    ·exact z
    ·rw [if_neg z] at e; cases e
   rw [if_pos hcb] at e
   cases e
   rintro ev ⟨a, C', B, l, rfl, hC', hfr, FB, hB, hkB⟩
   obtain ⟨outer, t1, t2⟩ := TF
   obtain rfl : d.env :: outer = l := Option.some.inj (t1.symm.trans hfr)
   refine fly_note t1 t2 FB fun h₄ a0 held sm₄ => wpAny_landsW held fun h₅ fl₅ sm₅ => ?_
   have sm := sm₄.trans sm₅
   have L₅ := F₁.led.slots sm (fun b o q => fl₅.1 b o (hB b o q)) fun p hp => fl₅.1 _ _ (hkB p hp)
   obtain ⟨ob, hob, hobc⟩ := fl₅.there
   have K1 := K m₁ cs₁
   have KI := K1.kin.keeps L₅.fr.keep
   obtain ⟨_, _, _, c3⟩ := OK.exs q C' hC'
   obtain ⟨N, nm', qn, bs, hdct, sn, sub, ab, col, dd, k0, k1, k2, k3, k5, mN, hC'', _⟩ := c3 _ KI
   have K0 : Ctx0 S n { d.cx m₁ cs₁ with A := d.A.mark (some (.ref a)) } := ⟨K1.units, K1.depth, K1.kin, K1.top, K1.lim, K1.kind, K1.glob, K1.blt, K1.locs, K1.frs, K1.own⟩
   refine wpAny_handleBy_cons (codeAny_handlers_test (rd_cls (c := { d.cx m₁ cs₁ with A := d.A.mark (some (.ref a)) }) (s := { s with heap := h₅, toks := tk₁ }) OK K0 SO L₅.fr.keep hce fun D hD => ?_)) (by intro q; cases q)
   obtain ⟨nmD, d1, d2, d3⟩ := OK.exs c D hD
   obtain ⟨N', nm'', qn', bs', hdct', sn', sub', ab', col', dd', k0', k1', k2', k3', k5', mN', hD', hN', hni', T'⟩ := d3 _ KI
   refine excMatches_ref hC'' hD' hob hobc (T'.hasType PySem.F.excBase_ValueError.hasBase) ?_
   rw [bm_has OK hC' hD, decide_eq_true (.inr hcb)]
   refine codeAny_handlers_suite_as ?_
   refine lands_againW fl₅ fun h₆ fl₆ sm₆ => ?_
   have L₆ := L₅.slots sm₆ (fun b o q => fl₆.1 b o (hB b o q)) fun p hp => fl₆.1 _ _ (hkB p hp)
   have hkind : (d.env.scope.kind == .class || (d.env.scope.kind == .module && d.env.locals != d.env.globals)) = false := by rw [K1.kind]; rfl
   have hlc : d.env.locals = d.L := K1.locs
   refine wpAny_storeName_local (SO.loc nm hl) (show h₆.Ns d.env.locals m₁ by rw [hlc]; exact L₆.fr.ns) (fun h₇ hn₇ hs₇ => ?_) hkind
   rw [hlc] at hn₇ hs₇
   have L₇ := Led.lset L₆ hn₇ hs₇
   obtain ⟨_, _, _, oe, vs, T, oT, ts, he, hec, hed, _⟩ := fl₆
   have haL : a ≠ d.L := by
    rintro rfl
    obtain ⟨o, es', ep, ho, hod, _⟩ := L₆.fr.ns
    rw [he] at ho; cases ho
    rw [hed] at hod; cases hod
   have G₇ : Gd { d.cx m₁ cs₁ with A := d.A.mark (some (.ref a)) } nm a C' h₇ := ⟨L₇.fr.keep, ⟨_, hn₇, by simp⟩, ⟨oe, (hs₇.2 a haL).trans he, hec.1⟩⟩
   have Z := exc_kit (a := a) (OK.exq q C' hC')
   refine wpAny_execs_cons (wpAny_If (wpAny_isTrue_value ?_))
   refine rd_isi (c := { d.cx m₁ cs₁ with A := d.A.mark (some (.ref a)) }) (s := { s with heap := h₇, toks := tk₁ + 1 }) OK K0 SO G₇ hg hl hd rfl (wpAny_Tuple (rd_all (s := { s with heap := h₇, toks := tk₁ + 1 }) OK K0 SO G₇ hks fun ws hw => ⟨?_, ?_⟩))
   ·rw [exAll_len hw]; exact Nat.le_trans hlen (by decide)
   have kp₈ : ∀ b o, h₇.get? b = some o → (h₇.push { cls := .type "tuple", data := .seq ws.toArray }).get? b = some o := fun b o e => Heap.get?_push_of_some _ e
   have G₈ := G₇.keeps kp₈
   have X₈ : S.K.In (h₇.push { cls := .type "tuple", data := .seq ws.toArray }) := K1.kin.keeps G₈.keep
   have L₈ := L₇.keep kp₈
   have fin : ∀ (tk : Nat) (b : Bool), b = (!ks.contains q && decide (q = k)) → wpAny (model S.prog S.w) d.A (do bindName d.env nm .none; unbindBehindTheSuite d.env nm hp) (fun _ s' => Q (.ret (.bool b)) s') E { s with heap := h₇.push { cls := .type "tuple", data := .seq ws.toArray }, toks := tk } := by
    rintro tk b rfl
    refine wpAny_nameGoes_keeps (SO.loc nm hl) (show Heap.Ns _ d.env.locals _ by rw [hlc]; exact L₈.fr.ns) hkind fun h₉ v hn₉ hs₉ => ?_
    rw [hlc] at hn₉ hs₉
    exact hQ (fun x => if x = nm then v else if x = nm then some (.ref a) else m₁ x) cs₁ os₁ h₉ _ k₁ ⟨fun _ _ _ e => (nomatch e), F₁.cells, Led.lset L₈ hn₉ hs₉⟩ _ rfl
   refine ⟨X₈, kia_tup Z X₈ G₈.ob (Heap.get?_push_size _ rfl) (kit_all OK hC' hw (by rw [← hcb]; exact hkc)) (by intro q; cases q) fun tk => wpAny_truthy_bool ?_⟩
   cases hb : ks.contains q with
   | true =>
    rw [if_pos rfl]
    exact wpAny_execs_cons (wpAny_Return_some (wpAny_pure (fin tk false (by rw [hb]; rfl))))
   | false =>
    rw [if_neg (by decide)]
    refine wpAny_execs_nil (wpAny_execs_cons (wpAny_Return_some (BoolOp_and ?_)))
    refine rd_isi (c := { d.cx m₁ cs₁ with A := d.A.mark (some (.ref a)) }) (s := { s with heap := h₇.push { cls := .type "tuple", data := .seq ws.toArray }, toks := tk }) OK K0 SO G₈ hg hl hd rfl (rd_boot (s := { s with heap := h₇.push { cls := .type "tuple", data := .seq ws.toArray }, toks := tk }) K0 SO G₈.keep hgv OK.exv.1 ve_boot (by decide +kernel) ⟨X₈, ?_⟩)
    refine kia_one (s := { s with heap := h₇.push { cls := .type "tuple", data := .seq ws.toArray }, toks := tk }) Z X₈ G₈.ob (OK.exv.2 q C' hC') (by intro q; cases q) fun tk₂ => wpAny_truthy_bool ?_
    rw [if_pos rfl]
    refine BoolOp_one ?_
    refine rd_isi (c := { d.cx m₁ cs₁ with A := d.A.mark (some (.ref a)) }) (s := { s with heap := h₇.push { cls := .type "tuple", data := .seq ws.toArray }, toks := tk₂ }) OK K0 SO G₈ hg hl hd (star_cl hke [] _) (rd_cls (c := { d.cx m₁ cs₁ with A := d.A.mark (some (.ref a)) }) (s := { s with heap := h₇.push { cls := .type "tuple", data := .seq ws.toArray }, toks := tk₂ }) OK K0 SO G₈.keep hke fun D2 hD2 => ⟨X₈, ?_⟩)
    refine kia_one (s := { s with heap := h₇.push { cls := .type "tuple", data := .seq ws.toArray }, toks := tk₂ }) Z X₈ G₈.ob (OK.exk q k C' D2 hC' hD2) (by intro q; cases q) fun tk₃ => ?_
    refine fin tk₃ _ ?_
    rw [hb]
    exact decide_eq_decide.mpr ⟨fun h => h.resolve_right (fun e => hkk (e.trans hcb.symm)), .inl⟩
end Mine.Internal
set_option autoImplicit false
namespace Mine.Internal
open PySem PySem.W PySem.Calls PyProof.Rows Builtin Builtin.Str
variable {S : Sig}
theorem runs_toks {M : Model} {Γ : Ctx} {p : Pos} {t : Sem Fin} {fs : List Frame} {s s' : Shared} {e : End} (h : Runs M Γ p t fs s e s') : s.toks ≤ s'.toks := by
 induction h with
 | done => exact Nat.le_refl _
 | raise => exact Nat.le_refl _
 | yield => exact Nat.le_refl _
 | fresh _ ih => exact Nat.le_trans (Nat.le_succ _) ih
 | call _ _ i1 i2 => exact Nat.le_trans i1 i2
 | resumeFresh _ _ _ _ i1 i2 => exact Nat.le_trans i1 i2
 | resumeSuspended _ _ _ _ i1 i2 => exact Nat.le_trans i1 i2
 | segRet _ _ i1 i2 => exact Nat.le_trans i1 i2
 | segGen _ _ i1 i2 => exact Nat.le_trans i1 i2
 | segSuspGen _ _ _ _ i1 i2 => exact Nat.le_trans i1 i2
 | again _ _ ih => exact ih
 | load _ _ ih => exact ih
 | update _ _ ih => exact ih
 | choose _ _ ih => exact ih
 | genState _ _ ih => exact ih
 | resumeJustStarted _ _ _ ih => exact ih
 | resumeThrowFresh _ _ ih => exact ih
 | resumeRunning _ _ ih => exact ih
 | resumeFinished _ _ ih => exact ih
 | segSuspOut _ _ ih => exact ih
 | _ => assumption
theorem wakes_toks {M : Model} {Γ : Ctx} {p : Pos} {g : Nat} {r : Resume} {s s' : Shared} {res : GenResult} (h : Wakes M Γ p g r s res s') : s.toks ≤ s'.toks := by
 unfold Wakes at h
 split at h
 ·exact h.elim
 ·split at h
  ·obtain ⟨_, _, h, _, _, rfl⟩ := h; have := runs_toks h; exact this
  ·rw [h.2]; exact Nat.le_refl _
  ·rw [h.2]; exact Nat.le_refl _
 ·obtain ⟨_, _, h, _, _, rfl⟩ := h; have := runs_toks h; exact this
 ·rw [h.2]; exact Nat.le_refl _
 ·rw [h.2]; exact Nat.le_refl _
theorem wp_toks {α : Type} {M : Model} {Γ : Ctx} {Q : α → Pos → Shared → Prop} {E : Value → Pos → Shared → Prop} (n : Nat) : ∀ (t : Sem α) (p : Pos) (s : Shared), n ≤ s.toks → Sem.wp M Γ t Q E p s → Sem.wp M Γ t (fun a p' s' => n ≤ s'.toks ∧ Q a p' s') (fun e p' s' => n ≤ s'.toks ∧ E e p' s') p s := by
 intro t
 induction t with
 | pure a => exact fun p s hn h => ⟨hn, h⟩
 | raise e => exact fun p s hn h => ⟨hn, h⟩
 | load a pt k ih => exact fun p s hn ⟨o, h1, h2⟩ => ⟨o, h1, ih _ p s hn h2⟩
 | update a pt f k ih => exact fun p s hn ⟨h1, h2⟩ => ⟨h1, ih _ p _ hn h2⟩
 | fresh k ih => exact fun p s hn h => ih _ p _ (Nat.le_succ_of_le hn) h
 | choose src m k ih => exact fun p s hn ⟨h1, h2⟩ => ⟨h1, ih _ p _ hn h2⟩
 | call c h g l k ih => exact fun p s hn ⟨r, s₁, h1, h2⟩ => ⟨r, s₁, h1, ih _ p s₁ (Nat.le_trans hn (runs_toks h1)) h2⟩
 | genState g k ih => exact fun p s hn ⟨st, h1, h2⟩ => ⟨st, h1, ih _ p s hn h2⟩
 | resume g r l k ih => exact fun p s hn ⟨res, s₁, h1, h2⟩ => ⟨res, s₁, h1, ih _ p s₁ (Nat.le_trans hn (wakes_toks h1)) h2⟩
 | rule tag k ih => exact fun p s hn h => ih _ p s hn h
 | «at» p' k ih => exact fun p s hn h => ih _ p' s hn h
 | loadIfAlive a k ih => exact fun p s hn h => ih _ p s hn h
 | point l k ih => exact fun p s hn h => ih _ p s hn h
 | alloc o k ih => exact fun p s hn h => ih _ p _ hn h
 | ask k ih => exact fun p s hn h => ih _ p s hn h
 | os q l k ih => exact fun p s hn h => ih _ p _ hn h
 | handled own k ih => exact fun p s hn h => ih _ p s hn h
 | newGen c k ih => exact fun p s hn h => ih _ p _ hn h
 | stack k ih => exact fun p s hn h => ih _ p s hn h
 | thread k ih => exact fun p s hn h => ih _ p s hn h
 | _ => exact fun p s hn h => h.elim
theorem wpAny_toks {α : Type} {M : Model} {A : Around} {t : Sem α} {Q : α → Shared → Prop} {E : Value → Shared → Prop} {s : Shared} {n : Nat} (hn : n ≤ s.toks) (h : wpAny M A t Q E s) : wpAny M A t (fun a s' => n ≤ s'.toks ∧ Q a s') (fun e s' => n ≤ s'.toks ∧ E e s') s :=
 fun Γ p hΓ => wp_toks n t p s hn (h Γ p hΓ)
theorem gives_repl4 (x y z : Str) (t u v w : Tok) (n : Int) (hn : (decide (n < -(2 ^ 63 : Int)) || decide (n ≥ 2 ^ 63)) = false) (hn0 : ¬ n < 0) (h0 : (u == 0 || v == 0) = false) (huv : (u == v) = false) (hyz : (y == z) = false)
  (hl : tooLong (x.length + (occurrences x y 0 x.length n.toNat).length * z.length) = false) :
  Gives («str.replace» ⟨[.str x t, .str y u, .str z v, .int n w], []⟩) (if ((occurrences x y 0 x.length n.toNat).isEmpty || (y.length == 0 && z.length == 0)) = true then .val (.str x t) else .str (glued z (partsBetween x (occurrences x y 0 x.length n.toNat) y.length))) := by
 show Gives (do
  let limit ← countLimit "str.replace" (some (.int n w)) (x.length + 1)
  if ((occurrences x y 0 x.length limit).isEmpty || (y.length == 0 && z.length == 0)) = true then (do rule "str.replace.nothing"; ret (.str x t)) else (do let same ← isSame (.str y u) (.str z v); if same = true then (do rule "str.replace.old-is-new"; ret (.str x t)) else if tooLong (x.length + (occurrences x y 0 x.length limit).length * z.length) = true then unsupported "str.replace:memory" else retStr (glued z (partsBetween x (occurrences x y 0 x.length limit) y.length)))) _
 rw [countLimit_int "str.replace" n w (x.length + 1) hn, if_neg hn0]
 show Gives (if ((occurrences x y 0 x.length n.toNat).isEmpty || (y.length == 0 && z.length == 0)) = true then (do rule "str.replace.nothing"; ret (.str x t)) else (do let same ← isSame (.str y u) (.str z v); if same = true then (do rule "str.replace.old-is-new"; ret (.str x t)) else if tooLong (x.length + (occurrences x y 0 x.length n.toNat).length * z.length) = true then unsupported "str.replace:memory" else retStr (glued z (partsBetween x (occurrences x y 0 x.length n.toNat) y.length)))) _
 cases hc : ((occurrences x y 0 x.length n.toNat).isEmpty || (y.length == 0 && z.length == 0))
 ·rw [isSame_str_other y z u v h0 huv hyz, hl]
  exact .of_eq rfl
 ·exact .rule (.of_eq rfl)
theorem call_repl {prog : Program} {w : World} {A : Around} {E : Value → Shared → Prop} {s : Shared} {x y z r : Str} {t u v tn : Tok} {n j : Int} {zs : List Str} {Q : Value → Shared → Prop} {k : Nat} (hu : u ≠ 0) (hv : v ≠ 0) (huv : u ≠ v) (hk : idx j zs.length = some k) (hz : zs[k]? = some z) (h : replV (.str x) (.int j) (.int n) y zs = some r)
  (hQ : ∀ t' k, okS r = true → Q (.str r t') { s with toks := k }) : wpAny (model prog w) A (call (.builtin "str.replace") [.str x t, .str y u, .str z v, .int n tn]) Q E s := by
 have h : ((idx j zs.length).bind fun j => (zs[j]?).bind fun z => onOne y fun c =>
  if z ≠ y ∧ 0 < n ∧ n < 2 ^ 60 ∧ z.cps.toList.length ≤ 10 ∧ x.cps.toList.length ≤ 100000 ∧ okS (strL (replC c z.cps.toList n.toNat x.cps.toList)) = true then some (strL (replC c z.cps.toList n.toNat x.cps.toList)) else none) = some r := h
 rw [hk, Option.bind_some, hz, Option.bind_some] at h
 obtain ⟨c, hc, h⟩ := onOne_eq h
 split at h
 ·rename_i hh
  obtain ⟨h1, h2, h3, h4, h5, h6⟩ := hh
  cases h
  have hol := StrLaws.occ_length_le_len x y 0 x.length n.toNat
  rw [← len_toList] at h4 h5
  have hm : (occurrences x y 0 x.length n.toNat).length * z.length ≤ 100001 * 10 := Nat.mul_le_mul (by lia) h4
  have hl : tooLong (x.length + (occurrences x y 0 x.length n.toNat).length * z.length) = false := by
   unfold tooLong
   exact decide_eq_false (by rw [sizeLine_eq]; lia)
  have hyl : y.length = 1 := by rw [len_toList, hc]; rfl
  have hyz : (y == z) = false := beq_eq_false_iff_ne.mpr fun e => h1 e.symm
  refine call_gives F.slot_str_replace (typeIs_str _ _ _) F.entry_str_replace (F.args_str_replace_4 _ _ _ _)
   (gives_repl4 x y z t u v tn n (by rw [decide_eq_false (by lia), decide_eq_false (by lia)]; rfl) (by lia) (by simp [hu, hv]) (by simp [huv]) hyz hl) ?_
  have hg := repl_glued (s := x) (z := z) (n := n.toNat) hc
  rw [hyl] at hg
  rw [hyl]
  cases he : (occurrences x y 0 x.length n.toNat).isEmpty with
  | true =>
   rw [Bool.true_or, if_pos rfl]
   have : replC c z.cps.toList n.toNat x.cps.toList = x.cps.toList := by
    rw [occ_one hc] at he
    exact repl_none (k := 0) (by lia) he
   rw [this] at hQ h6
   exact hQ t s.toks h6
  | false =>
   rw [Bool.false_or, show ((1 : Nat) == 0) = false from rfl, Bool.false_and, if_neg (by decide), hg]
   have h7 := okS_len h6
   have h8 : lim ≤ 16777216 := by decide
   exact ⟨by rw [sizeLine_eq]; lia, hQ _ _ h6⟩
 ·cases h
theorem wpAny_tok {α : Type} {M : Model} {A : Around} {t : Sem α} {Q : α → Shared → Prop} {E : Value → Shared → Prop} {s : Shared} {n : Nat} (hn : n ≤ s.toks) (h : wpAny M A t (fun a s' => n ≤ s'.toks → Q a s') E s) : wpAny M A t Q E s :=
 wpAny_mono (wpAny_toks hn h) (fun _ _ z => z.2 z.1) fun _ _ z => z.2
noncomputable def SXT (S : Sig) (d : Dx) (sc : Scope) (t : Sem Flow) (x : XS) : Prop :=
 ∀ (loc : Loc) (m : Str → Option Value) (cs os : List (Addr × Obj)) (σ : H) (s : Shared) (r : R (Option V)) (loc' : Loc) (σ' : H), 1 ≤ s.toks → Fm S d sc loc os σ s.heap m cs → x loc σ = some (r, loc', σ') →
  ∀ (Q : Flow → Shared → Prop) (E : Value → Shared → Prop),
   PostX S d sc os s r loc' σ' Q E →
   wpAny (model S.prog S.w) d.A t Q E s
section
variable {d : Dx} {sc : Scope}
theorem SX.tok {t : Sem Flow} {x : XS} (h : SX S d sc t x) : SXT S d sc t x := fun loc m cs os σ s r loc' σ' _ F e Q E hQ => h loc m cs os σ s r loc' σ' F e Q E hQ
theorem sxt_cons {st : Stmt} {rest : List Stmt} {x y : XS} (h1 : SXT S d sc (exec st d.env) x) (h2 : SXT S d sc (execs rest d.env) y) :
  SXT S d sc (execs (st :: rest) d.env) (fun loc h => match x loc h with | some (.ok none, l₁, h₁) => y l₁ h₁ | r => r) := by
 intro loc m cs os σ s r loc' σ' ht F e Q E hQ
 refine wpAny_execs_cons ?_
 cases hx : x loc σ with
 | none => dsimp only at e; rw [hx] at e; cases e
 | some p =>
  obtain ⟨rr, l₁, σ₁⟩ := p
  dsimp only at e
  rw [hx] at e
  refine wpAny_tok ht (h1 loc m cs os σ s rr l₁ σ₁ ht F hx _ _ fun m₁ cs₁ os₁ h₁ tk₁ k₁ F₁ => ?_)
  cases rr with
  | err q => cases e; exact hQ m₁ cs₁ os₁ h₁ tk₁ k₁ F₁
  | ok o =>
   cases o with
   | none => exact fun htk => h2 l₁ m₁ cs₁ os₁ σ₁ { s with heap := h₁, toks := tk₁ } r loc' σ' htk F₁ e Q E fun m₂ cs₂ os₂ h₂ tk₂ k₂ F₂ => hQ m₂ cs₂ os₂ h₂ tk₂ (k₁.trans k₂) F₂
   | some v => cases e; exact fun a ha _ => hQ m₁ cs₁ os₁ h₁ tk₁ k₁ F₁ a ha
theorem sxt_if {c : Expr} {a b : List Stmt} {pos : Pos} {x : Loc → X Bool} {y z : XS} (hx : ∀ m cs ρ loc, VarsOK S (d.cx m cs) sc ρ loc → SM S (d.cx m cs) ρ EqR (isTrue c d.env (eval c d.env)) (x loc)) (hy : SXT S d sc (execs a d.env) y) (hz : SXT S d sc (execs b d.env) z) :
  SXT S d sc (exec (.If c a b pos) d.env) (fun loc h => onX (x loc) loc (fun t h₁ => if t then y loc h₁ else z loc h₁) h) := by
 intro loc m cs os σ s r loc' σ' ht F e Q E hQ
 refine wpAny_If (wpAny_tok ht (sx_on F (hx _ _ _ _ F.vars) e (hQ.err List.prefix_rfl) fun t σ₁ e2 os₁ h₁ tk a k F₁ hr htk => ?_))
 subst hr
 cases t
 ·exact hz loc m cs os₁ σ₁ { s with heap := h₁, toks := tk } r loc' σ' htk F₁ e2 Q E fun m₂ cs₂ os₂ h₂ tk₂ k₂ F₂ => hQ m₂ cs₂ os₂ h₂ tk₂ (k.trans k₂) F₂
 ·exact hy loc m cs os₁ σ₁ { s with heap := h₁, toks := tk } r loc' σ' htk F₁ e2 Q E fun m₂ cs₂ os₂ h₂ tk₂ k₂ F₂ => hQ m₂ cs₂ os₂ h₂ tk₂ (k.trans k₂) F₂
theorem sx_ctok (nd : S.T.Nodup) (SO : ScOK sc d.env) (hk : d.env.scope.kind = .function) (hloc : d.env.locals = d.L) {nm : Str} {px pc pos : Pos} {kc i : Nat} {y : Str} {rest : List Stmt} {x : XS} (hn : S.T[i]? = some nm) (hs : StoreOK sc d.env nm) (hy : okS y = true) (hx : SXT S d sc (execs rest d.env) x) :
  SX S d sc (execs (.Assign [.Name nm px] (.Constant (.str y) kc pc) pos :: rest) d.env) (fun loc h => x (loc.upd i (.str y)) h) := by
 intro loc m cs os σ s r loc' σ' F e Q E hQ
 refine wpAny_execs_cons (wpAny_Assign_Name (wpAny_Constant_str (wpAny_tok (n := s.toks + 1) (Nat.le_refl _) ?_)) rfl)
 refine store_var nd SO hk hloc (s := { s with toks := s.toks + 1 }) F hn hs (v := .str y) ⟨s.toks, rfl, hy⟩ fun m' cs' h' tk' F' htk => ?_
 exact hx _ m' cs' os σ { s with heap := h', toks := tk' } r loc' σ' (Nat.le_trans (Nat.succ_le_succ (Nat.zero_le _)) htk) F' e Q E hQ
noncomputable def tokL : Nat → List Str → List Value
 | _, [] => []
 | t, z :: zs => .str z t :: tokL (t + 1) zs
theorem tokL_len : ∀ {zs : List Str} {t : Nat}, (tokL t zs).length = zs.length
 | [], _ => rfl
 | _ :: _, _ => congrArg (· + 1) tokL_len
theorem tokL_get : ∀ {zs : List Str} {t k : Nat} {z : Str}, zs[k]? = some z → (tokL t zs)[k]? = some (.str z (t + k))
 | [], _, _, _, h => by simp at h
 | z :: zs, t, 0, _, h => by cases h; rfl
 | z :: zs, t, k + 1, w, h => by
  have := tokL_get (zs := zs) (t := t + 1) (k := k) (z := w) (by simpa using h)
  show (tokL (t + 1) zs)[k]? = _
  rw [this, Nat.add_assoc, Nat.add_comm 1 k]
noncomputable def ckStrs (N : Nam) (sc : Scope) : List Str → List Expr → Bool
 | [], es => nil? es
 | z :: zs, es => match es with
  | e :: es => ckE N sc (.cstr z) e && ckStrs N sc zs es
  | [] => false
theorem rd_strs {N : Nam} {A : Around} {E : Value → Shared → Prop} {env : Env} {pos : Pos} : ∀ {zs : List Str} {es : List Expr} {s : Shared} {Q : List Value → Shared → Prop}, ckStrs N sc zs es = true → Q (tokL s.toks zs) { s with toks := s.toks + zs.length } → wpAny (model S.prog S.w) A (spliced (backTo pos (starEach es env))) Q E s
 | [], [], s, Q, _, hQ => wpAny_pure hQ
 | [], _ :: _, _, _, h, _ => nomatch (show false = true from h)
 | _ :: _, [], _, _, h, _ => nomatch (show false = true from h)
 | z :: zs, e :: es, s, Q, h, hQ => by
  obtain ⟨h1, h2⟩ := and_t (show (_ && _) = true from h)
  obtain ⟨k, p, rfl, _⟩ := ck_cstr h1
  refine spliced_cons (wpAny_Constant_str (k := k) (pos := p) (rd_strs (s := { s with toks := s.toks + 1 }) h2 ?_))
  have : s.toks + 1 + zs.length = s.toks + (z :: zs).length := by rw [List.length_cons]; lia
  show Q _ { s with toks := s.toks + 1 + zs.length }
  rw [this]; exact hQ
theorem PostE.kp {os : List (Addr × Obj)} {s : Shared} {m : Str → Option Value} {cs : List (Addr × Obj)} {loc loc' : Loc} {r : R (Option V)} {σ' : H} {E : Value → Shared → Prop} {p : Addr × Obj} (h : PostE S d sc os s m cs loc r loc' σ' E) : PostE S { d with kp := d.kp ++ p :: [] } sc os s m cs loc r loc' σ' E := by
 intro k hr hl os₁ h₁ tk e k₁ F fl
 have l : Led S d.h₀ d.L m d.fs (d.kp ++ p :: cs) os₁ σ' h₁ := by
  have this : Led S d.h₀ d.L m d.fs ((d.kp ++ p :: []) ++ cs) os₁ σ' h₁ := F.led
  simpa using this
 refine h k hr hl os₁ h₁ tk e k₁ ⟨vars_kp (d := { d with kp := d.kp ++ p :: [] }) (kp' := d.kp) F, F.cells, l.kdrop⟩ ?_
 obtain ⟨a, C, B, fr, f1, f2, f3, f4, f5, f6⟩ := fl
 refine ⟨a, C, B, fr, f1, f2, f3, f4, f5, fun p hp => f6 p ?_⟩
 rcases List.mem_append.mp hp with hp | hp
 ·rcases List.mem_append.mp hp with hp | hp
  ·exact List.mem_append_left _ (List.mem_append_left _ (List.mem_append_left _ hp))
  ·exact List.mem_append_left _ (List.mem_append_right _ hp)
 ·exact List.mem_append_right _ hp
theorem sx_rrep {n : Nat} (K : ∀ m cs, CtxOK S n (d.cx m cs)) {nm : Str} {i : Nat} (hn : S.T[i]? = some nm) (hin : inScope sc nm = true) (hdb : (nm == ("__debug__" : Str)) = false) (hcd : (nm == ("__classdict__" : Str)) = false) {p apos pos rp py lp sp : Pos} (hline : (apos.endLine == pos.line) = true)
  {y : Str} {zs : List Str} {ky : Nat} {ze : List Expr} {N : Nam} (hze : ckStrs N sc zs ze = true) (hzl : zs.length ≤ 30) {je ne : Expr} (hsl : isSlice je = false) (hst : starEach [ne] d.env = [(false, eval ne d.env)]) {xj xn : Loc → X V}
  (hJ : ∀ kp' m cs ρ loc, VarsOK S ({ d with kp := kp' }.cx m cs) sc ρ loc → SM S ({ d with kp := kp' }.cx m cs) ρ VR (eval je d.env) (xj loc)) (hN : ∀ m cs ρ loc, VarsOK S (d.cx m cs) sc ρ loc → SM S (d.cx m cs) ρ VR (eval ne d.env) (xn loc)) :
  SXT S d sc (exec (.Return (some (.Call (.Attribute (.Name nm p) "replace" apos) [.Constant (.str y) ky py, .Subscript (.List ze lp) je sp, ne] [] pos)) rp) d.env)
   (fun loc h => match loc i with
    | some (.str x) => onX (xj loc) loc (fun jv h₁ => if jOK jv zs.length then onX (xn loc) loc (fun nv h₂ => (replV (.str x) jv nv y zs).map fun s => (.ok (some (.str s)), loc, h₂)) h₁ else none) h
    | _ => none) := by
 intro loc m cs os σ s r loc' σ' ht F e Q E hQ
 refine wpAny_Return_some ?_
 obtain ⟨x, hv, e⟩ : ∃ x, loc i = some (.str x) ∧ onX (xj loc) loc (fun jv h₁ => if jOK jv zs.length then onX (xn loc) loc (fun nv h₂ => (replV (.str x) jv nv y zs).map fun s => (.ok (some (.str s)), loc, h₂)) h₁ else none) σ = some (r, loc', σ') := by
  dsimp only at e
  split at e
  ·rename_i x hv; exact ⟨x, hv, e⟩
  ·cases e
 rw [arm_eval_Call, base_of rfl]
 refine wpAny_bind (wpAny_tok ht (sm_local (c := d.cx m cs) (K m cs).toCtx0 F.vars hn hin hdb hcd os σ s (.ok (.str x)) σ List.prefix_rfl F.led (by unfold X.lift; rw [hv]) _ _ fun os₁ h₁ tk₁ w k₁ l₁ hw htk => wpAny_bind (wpAny_standAt ?_)))
 obtain ⟨t, rfl, _⟩ := hw
 have F₁ := F.step k₁ l₁
 have e3 : starEach [.Constant (.str y) ky py, .Subscript (.List ze lp) je sp, ne] d.env = [(false, eval (.Constant (.str y) ky py) d.env), (false, eval (.Subscript (.List ze lp) je sp) d.env), (false, eval ne d.env)] := by
  show (false, _) :: (false, _) :: starEach [ne] d.env = _
  rw [hst]
 have hns : NoStar [.Constant (.str y) ky py, .Subscript (.List ze lp) je sp, ne] d.env := by unfold NoStar; rw [e3]; rfl
 show wpAny _ d.A (methodCall (.Name nm p) "replace" apos pos d.env (.str x t) (3 + 0) (backTo pos (starEach [.Constant (.str y) ky py, .Subscript (.List ze lp) je sp, ne] d.env)) []) _ _ _
 refine methodCall_of () (by unfold methodCallForm; rw [(back_noStar hns).2]; rfl) hline (fun Q' q' => by with_reducible exact PySem.GM.replace q') ?_
 refine callWith_k (c := d.cx m cs) (K m cs).toCtx0 (kept_builtin "str.replace") hns ?_
 show wpAny _ d.A (spliced (backTo pos (starEach _ d.env))) _ _ _
 rw [e3]
 refine spliced_cons (wpAny_Constant_str (k := ky) (pos := py) (spliced_cons (Subscript_ (wpAny_List (rd_strs (N := N) (sc := sc) hze ⟨by rw [tokL_len]; exact Nat.le_trans hzl (by decide), ?_⟩)))))
 let lo : Obj := { cls := .type "list", data := .seq (tokL (tk₁ + 1) zs).toArray }
 let B : Addr := h₁.objs.size
 have l₂ : Led S d.h₀ d.L m d.fs ((d.kp ++ (B, lo) :: []) ++ cs) os₁ σ (h₁.push lo) := by
  have := (Led.kpush (x := lo) l₁ rfl).kperm (kp' := (d.kp ++ (B, lo) :: []) ++ cs) (by
   show (d.kp ++ cs ++ (B, lo) :: []).Perm _
   have := (List.perm_append_comm (l₁ := cs) (l₂ := [(B, lo)])).append_left d.kp
   simpa using this)
  exact this
 have F₂ : Fm S { d with kp := d.kp ++ (B, lo) :: [] } sc loc os₁ σ (h₁.push lo) m cs := ⟨vars_kp F₁, F₁.cells, l₂⟩
 refine sx_on (d := { d with kp := d.kp ++ (B, lo) :: [] }) (s := { s with heap := h₁.push lo, toks := tk₁ + 1 + zs.length }) F₂ (hJ _ _ _ _ _ F₂.vars) e (PostE.kp (hQ.err k₁)) fun jv σ₁ e2 os₃ h₃ tk₃ jw k₃ F₃ hj => ?_
 obtain ⟨hjo, e2⟩ := if_inv e2
 have memB : h₃.get? B = some lo := (F₃.led.news (B, lo) (by show (B, lo) ∈ ((d.kp ++ (B, lo) :: []) ++ cs) ++ os₃; simp)).1
 have F₄ : Fm S d sc loc os₃ σ₁ h₃ m cs := by
  have l : Led S d.h₀ d.L m d.fs (d.kp ++ (B, lo) :: cs) os₃ σ₁ h₃ := by
   have this : Led S d.h₀ d.L m d.fs ((d.kp ++ (B, lo) :: []) ++ cs) os₃ σ₁ h₃ := F₃.led
   simpa using this
  exact ⟨vars_kp (d := { d with kp := d.kp ++ (B, lo) :: [] }) (kp' := d.kp) F₃, F₃.cells, l.kdrop⟩
 cases jv with
 | int j =>
  obtain ⟨tj, rfl⟩ := hj
  obtain ⟨k, hk⟩ := Option.isSome_iff_exists.mp (show (idx j zs.length).isSome = true from hjo)
  have hkl : k < zs.length := by
   rcases idx_some hk with ⟨i0, i1, rfl⟩ | ⟨i0, i1, rfl⟩ <;> lia
  obtain ⟨z, hz⟩ : ∃ z, zs[k]? = some z := ⟨_, List.getElem?_eq_getElem hkl⟩
  have hg := tokL_get (t := tk₁ + 1) hz
  have hL : h₃.IsList B (tokL (tk₁ + 1) zs).toArray := PySem.IsL.isList (n := 0) memB
  have hlen := tokL_len (zs := zs) (t := tk₁ + 1)
  have fin : wpAny (model S.prog S.w) d.A (spliced (backTo pos [(false, eval ne d.env)])) (fun vs s₂ => S.K.In s₂.heap ∧ wpAny (model S.prog S.w) d.A (call (.builtin "str.replace") ([.str x t] ++ (.str y tk₁ :: .str z (tk₁ + 1 + k) :: vs))) (fun v => Q (.ret v)) E s₂) E { s with heap := h₃, toks := tk₃ } := by
   refine spliced_cons (sx_on (s := { s with heap := h₃, toks := tk₃ }) F₄ (hN _ _ _ _ F₄.vars) e2 (hQ.err (k₁.trans k₃)) fun nv σ₂ e4 os₅ h₅ tk₅ nw k₅ F₅ hnr => wpAny_pure ⟨(K m cs).kin.keeps F₅.led.fr.keep, ?_⟩)
   obtain ⟨r', hr, e4⟩ := Option.map_eq_some_iff.mp e4
   cases e4
   cases nv with
   | int nn =>
    obtain ⟨tn, rfl⟩ := hnr
    refine call_repl (s := { s with heap := h₅, toks := tk₅ }) (u := tk₁) (v := tk₁ + 1 + k) (Nat.ne_of_gt htk) (by lia) (by lia) hk hz hr fun t' k' hok => ?_
    exact hQ m cs os₅ h₅ k' (k₁.trans (k₃.trans k₅)) F₅ (.str r' t') ⟨t', rfl, hok⟩
   | _ => cases hr
  have hs : ∀ o i, subscripted je false o i = operate [o, i] (PySem.getItem o i) := fun o i => by cases je <;> first | rfl | cases hsl
  have hty : ({ s with heap := h₃, toks := tk₃ } : Shared).TypeIs (.ref B) "list" := hL.typeIs
  rcases idx_some hk with ⟨i0, i1, rfl⟩ | ⟨i0, i1, rfl⟩
  ·exact tail_any hty slot_list_getitem.lookup (wpAny_getItem_list hL i0 (by lia) (by simpa using hg) fin) (hs _ _)
  ·exact tail_any hty slot_list_getitem.lookup (wpAny_getItem_list_neg hL i0 (by rw [List.size_toArray]; lia) (by lia) (by rw [List.size_toArray, hlen]; simpa using hg) fin) (hs _ _)
 | _ => cases hjo
end
end Mine.Internal
set_option autoImplicit false
namespace Mine.Internal
open PySem PySem.W PySem.Calls PyProof.Rows
variable {S : Sig}
theorem Led.leaveK {h₀ h : Heap} {L C : Addr} {m mC : Str → Option Value} {fs : Fs} {kp os : List (Addr × Obj)} {σ : H} (l : Led S h₀ C mC ((L, m) :: fs) kp os σ h) (ab : h₀.objs.size ≤ L) (ne : ∀ f ∈ fs, f.1 ≠ L) :
  ∃ oC, NsObj oC mC ∧ Led S h₀ L m fs (kp ++ (C, oC) :: []) os σ h := by
 obtain ⟨oC, hC, hN⟩ := ns_obj l.fr.ns
 have l' := l.leave ab ne (h' := h) fun b o _ e => e
 refine ⟨oC, hN, l'.kadd hC (Ne.symm (l.outs _ (.head _)).2.1) (none_above l.fr) (fun hm => ?_) (fun f hf => (l.outs f (.tail _ hf)).2.1) ?_⟩
 ·obtain ⟨p, hp, e⟩ := List.mem_map.mp hm
  exact (l.news p hp).2.1 e
 ·obtain ⟨o, ho⟩ := l.top
  exact Nat.lt_of_lt_of_le (Heap.lt_size ho) l.fr.above
section
variable {d : Dx} {sc sc' : Scope} {n : Nat}
theorem sx_asg_used (nd : S.T.Nodup) (SO : ScOK sc d.env) (K : ∀ m cs, CtxOK S n (d.cx m cs)) {nm : Str} {px pos pos' : Pos} {i : Nat} {tg : List Nat} {tup : Bool} {tgt : Expr} {ite elt : Expr} {ifs : List Expr} (hn : S.T[i]? = some nm) (hs : StoreOK sc d.env nm)
  (hsw : swapsWith (.ListComp elt [⟨tgt, ite, ifs, 0⟩] sc' pos') (some (.Name nm px)) pos.line d.env = pure true)
  (hn' : ckTg S.nam tg tup tgt = true) (hsc : compScope S.nam sc sc' (tgNms tup tgt) = true) (hset : isSet ite = false) {xi : Loc → X V} {t : Loc → X Bool} {e : Loc → X V}
  (hit : ∀ m cs ρ loc, VarsOK S (d.cx m cs) sc ρ loc → SM S (d.cx m cs) ρ VR (eval ite d.env) (xi loc))
  (ht : ∀ (c' : Cx) (ρ' : List Addr) (loc' : Loc), CtxOK S n c' → ScOK sc' c'.env → VarsOK S c' sc' ρ' loc' → SM S c' ρ' EqR (condTree ifs c'.env) (t loc'))
  (he : ∀ (c' : Cx) (ρ' : List Addr) (loc' : Loc), CtxOK S n c' → ScOK sc' c'.env → VarsOK S c' sc' ρ' loc' → SM S c' ρ' VR (eval elt c'.env) (e loc')) :
  SX S d sc (exec (.Assign [.Name nm px] (.ListComp elt [⟨tgt, ite, ifs, 0⟩] sc' pos') pos) d.env)
   (fun loc h => onX (X.bind (xi loc) fun v => fun h => match iterOf v h with | none => none | some vs => X.bind (compL v tg tup t e loc h vs) (fun ws => alloc (.list ws)) h) loc (fun v h₁ => some (.ok none, loc.upd i v, h₁)) h) := by
 intro loc m cs os σ s r loc' σ' F ee Q E hQ
 rw [exec_Assign_Name_used _ _ _ _ hsw]
 refine wpAny_bind (wpAny_standAt (wpAny_bind ?_))
 show wpAny _ d.A (do let _ ← comprehension (.ListComp elt [⟨tgt, ite, ifs, 0⟩] sc' pos') sc' d.env _ (newList []) false (eval ite d.env) (some (assign (.Name nm px) d.env))) _ _ s
 have fin : ∀ (rr : R V), X.bind (xi loc) (fun v => fun h => match iterOf v h with | none => none | some vs => X.bind (compL v tg tup t e loc h vs) (fun ws => alloc (.list ws)) h) σ = some (rr, σ') → (∀ b, rr = .ok b → r = .ok none ∧ loc' = loc.upd i b) → (∀ k, rr = .err k → r = .err k ∧ loc' = loc) →
   wpAny (model S.prog S.w) d.A (comprehension (.ListComp elt [⟨tgt, ite, ifs, 0⟩] sc' pos') sc' d.env (firstIterPos [⟨tgt, ite, ifs, 0⟩] pos') (newList []) false (eval ite d.env) (some (assign (.Name nm px) d.env))) (fun _ s' => Q .next s') E s := by
  intro rr hx hrr hre
  refine comp_run (c := d.cx m cs) (K m cs) SO F.vars nd hn' hsc hset (hit _ _ _ _ F.vars) ht he List.prefix_rfl F.led hx (use := some (assign (.Name nm px) d.env)) (Q := fun _ s' => Q .next s') (fun b hb os₁ h₁ tk₁ C mC D k₁ l₁ hD => ?_) fun k hk os₁ h₁ tk₁ e k₁ l₁ f => ?_
  rotate_left
  ·obtain ⟨rfl, rfl⟩ := hre k hk
   exact hQ m cs os₁ h₁ tk₁ k₁ (F.step k₁ l₁) e f
  obtain ⟨rfl, rfl⟩ := hrr b hb
  obtain ⟨oC, hN, l₂⟩ := l₁.leaveK F.led.fr.above fun f hf => (F.led.outs f hf).2.1
  have l₃ : ({ d with kp := d.kp ++ (C, oC) :: [] }.cx m cs).led S os₁ σ' h₁ := by
   show Led S d.h₀ d.L m d.fs ((d.kp ++ (C, oC) :: []) ++ cs) os₁ σ' h₁
   refine l₂.kperm ?_
   have := (List.perm_append_comm (l₁ := cs) (l₂ := [(C, oC)])).append_left d.kp
   simpa using this
  have V₃ : VarsOK S ({ d with kp := d.kp ++ (C, oC) :: [] }.cx m cs) sc (adr os₁) loc := by
   have := vars_kp (kp' := d.kp ++ (C, oC) :: []) F
   exact this.mono k₁
  show wpAny _ d.A (assign (.Name nm px) d.env (.ref D)) _ _ _
  refine wpAny_assign_Name (store_var (d := { d with kp := d.kp ++ (C, oC) :: [] }) nd SO (K m cs).kind (K m cs).locs (s := { s with heap := h₁, toks := tk₁ }) ⟨V₃, F.cells, l₃⟩ hn hs hD fun m₅ cs₅ h₅ tk₅ F₅ => ?_)
  have L₅ : Led S d.h₀ d.L m₅ d.fs (d.kp ++ (C, oC) :: cs₅) os₁ σ' h₅ := by
   have this : Led S d.h₀ d.L m₅ d.fs ((d.kp ++ (C, oC) :: []) ++ cs₅) os₁ σ' h₅ := F₅.led
   simpa using this
  refine ⟨mC, hN.ns L₅.kmid.1, fun h₆ hs₆ => ?_⟩
  exact hQ m₅ cs₅ os₁ h₆ tk₅ k₁ ⟨vars_kp (d := { d with kp := d.kp ++ (C, oC) :: [] }) (kp' := d.kp) F₅, F₅.cells, L₅.extBut hs₆.extBut⟩
 rcases onX_inv ee with ⟨b, σ₁, e1, e2⟩ | ⟨k, e1, rfl, rfl⟩
 ·cases e2
  refine wpAny_bind (wpAny_mono (fin _ e1 (fun b' hb => ?_) fun k hk => by cases hk) (fun _ s' hq => wpAny_pure (wpAny_pure hq)) fun _ _ z => z)
  cases hb; exact ⟨rfl, rfl⟩
 ·exact wpAny_bind (wpAny_mono (fin _ e1 (fun b' hb => by cases hb) fun k' hk => by cases hk; exact ⟨rfl, rfl⟩) (fun _ s' hq => wpAny_pure (wpAny_pure hq)) fun _ _ z => z)
end
noncomputable def storable (sc : Scope) (nm : Str) : Bool := match sc.names.lookup nm with
 | some .local => true
 | some .cell => true
 | _ => false
/- parts of statements -/
noncomputable def tagS : Stmt → Nat
 | .FunctionDef .. => 0 | .AsyncFunctionDef .. => 1 | .ClassDef .. => 2 | .Return .. => 3 | .Delete .. => 4 | .Assign .. => 5 | .TypeAlias .. => 6 | .AugAssign .. => 7 | .AnnAssign .. => 8 | .For .. => 9 | .AsyncFor .. => 10 | .While .. => 11 | .If .. => 12 | .With .. => 13 | .AsyncWith .. => 14
 | .Match .. => 15 | .Raise .. => 16 | .Try .. => 17 | .TryStar .. => 18 | .Assert .. => 19 | .Import .. => 20 | .ImportFrom .. => 21 | .Global .. => 22 | .Nonlocal .. => 23 | .Expr .. => 24 | .Pass .. => 25 | .Break .. => 26 | .Continue .. => 27
set_option genInjectivity false in
structure Ps where
 x : Expr
 y : Expr
 ts : List Expr
 a : List Stmt
 b : List Stmt
 v : Option Expr
 pos : Pos
 w : Option Expr := none
 hs : List ExceptHandler := []
 f : List Stmt := []
noncomputable def noE : Expr := .Name "" noPos
noncomputable def ptS (t : Stmt) : Ps := match t with
 | .Return v p => ⟨noE, noE, [], [], [], v, p, none, [], []⟩
 | .Assign ts v p => ⟨v, v, ts, [], [], none, p, none, [], []⟩
 | .For g e a b p => ⟨g, e, [], a, b, none, p, none, [], []⟩
 | .While e a b p => ⟨e, e, [], a, b, none, p, none, [], []⟩
 | .If e a b p => ⟨e, e, [], a, b, none, p, none, [], []⟩
 | .Expr v p => ⟨v, v, [], [], [], none, p, none, [], []⟩
 | .Pass p => ⟨noE, noE, [], [], [], none, p, none, [], []⟩
 | .Raise v w p => ⟨noE, noE, [], [], [], v, p, w, [], []⟩
 | .Try a hs b f p => ⟨noE, noE, [], a, b, none, p, none, hs, f⟩
 | _ => ⟨noE, noE, [], [], [], none, noPos, none, [], []⟩
noncomputable def isTS (t : Stmt) (n : Nat) : Bool := decide (tagS t = n)
noncomputable def ckT (N : Nam) (sc : Scope) (t : Tg) (x : Expr) : Bool := match t with
 | .var i => isT x 23 && (nameIs N i (ptE x).nm && storable sc (ptE x).nm)
 | .attr o i => isT x 20 && (nameIs N i (ptE x).nm && ckE N sc o (ptE x).x)
 | .sub o i => isT x 21 && (ckE N sc o (ptE x).x && ckE N sc i (ptE x).y)
noncomputable def hdT : ExceptHandler → Option Expr
 | .ExceptHandler t _ _ _ => t
noncomputable def hdN : ExceptHandler → Option Str
 | .ExceptHandler _ n _ _ => n
noncomputable def hdB : ExceptHandler → List Stmt
 | .ExceptHandler _ _ b _ => b
noncomputable def ckH (N : Nam) (sc : Scope) (c : Nat) (r : Ex) (h : ExceptHandler) : Bool :=
 (N.ex c).isSome && ((hdN h).isNone && ((onO (hdT h) fun e => isT e 23 && (nameIs N c (ptE e).nm && isGlob sc (ptE e).nm)) && onO (one (hdB h)) fun s => isTS s 3 && onO (ptS s).v fun v => okH r && ckE N sc r v))
noncomputable def ckHs (N : Nam) (sc : Scope) : List (Nat × Ex) → List ExceptHandler → Bool
 | [], hs => nil? hs
 | (c, r) :: cs, hs => match hs with
  | h :: hs => ckH N sc c r h && ckHs N sc cs hs
  | [] => false
noncomputable def ckFT (N : Nam) (sc : Scope) (tg : List Nat) (tup : Bool) (x : Expr) : Bool := match tup with
 | false => onO (one tg) fun i => isT x 23 && (nameIs N i (ptE x).nm && storable sc (ptE x).nm)
 | true => onO (two tg) fun ij => isT x 25 && onO (two (ptE x).xs) fun xs => isT xs.1 23 && (isT xs.2 23 && (nameIs N ij.1 (ptE xs.1).nm && (nameIs N ij.2 (ptE xs.2).nm && (storable sc (ptE xs.1).nm && storable sc (ptE xs.2).nm))))
noncomputable def isiA (nm : Str) (e : Expr) : Option Expr := if (isCallN e && decide (cN e = "isinstance")) = true then (two (cA e)).bind fun xy => if (isT xy.1 23 && decide ((ptE xy.1).nm = nm)) = true then some xy.2 else none else none
noncomputable def ckIf1 (N : Nam) (sc : Scope) (nm : Str) (ks : List Nat) (s : Stmt) : Bool := isTS s 12 && (nil? (ptS s).b && ((onO (isiA nm (ptS s).x) fun y => isT y 25 && ckCls N sc ks (ptE y).xs) && onO (one (ptS s).a) fun r => isTS r 3 && onO (ptS r).v fun v => ckE N sc (.cbool false) v))
noncomputable def ckRt1 (N : Nam) (sc : Scope) (nm : Str) (k : Nat) (s : Stmt) : Bool := isTS s 3 && onO (ptS s).v fun v => isT v 0 && (decide ((ptE v).lop = .And) && onO (two (ptE v).xs) fun xs => (onO (isiA nm xs.1) fun y => isT y 23 && decide ((ptE y).nm = "ValueError")) && onO (isiA nm xs.2) fun y => ckCl N sc k y)
noncomputable def ckHE (N : Nam) (sc : Scope) (c : Nat) (ks : List Nat) (k : Nat) (h : ExceptHandler) : Bool :=
 !ks.contains c && (decide (k ≠ c) && (decide (ks.length ≤ 30) && ((onO (hdT h) fun ce => ckCl N sc c ce) && onO (hdN h) fun nm => decide (sc.names.lookup nm = some .local) && (!(nm == ("__debug__" : Str)) && (isGlob sc "isinstance" && (isGlob sc "ValueError" && onO (two (hdB h)) fun ss => ckIf1 N sc nm ks ss.1 && ckRt1 N sc nm k ss.2))))))
noncomputable def three {α : Type} (l : List α) : Option (α × α × α) := match l with
 | [a, b, c] => some (a, b, c)
 | _ => none
noncomputable def ckRR (N : Nam) (sc : Scope) (i : Nat) (y : Str) (zs : List Str) (j n : Ex) (t : Stmt) : Bool := isTS t 3 && onO (ptS t).v fun v => isT v 16 && (nil? (ptE v).kws && (isT (ptE v).x 20 && (decide ((ptE (ptE v).x).nm = "replace") && (((ptE (ptE v).x).pos.endLine == (ptE v).pos.line) && (ckE N sc (.loc i) (ptE (ptE v).x).x && onO (three (ptE v).xs) fun xs =>
 ckE N sc (.cstr y) xs.1 && (isT xs.2.1 21 && (!isSlice (ptE xs.2.1).y && (isT (ptE xs.2.1).x 24 && (decide (zs.length ≤ 30) && (ckStrs N sc zs (ptE (ptE xs.2.1).x).xs && (ckE N sc j (ptE xs.2.1).y && ckE N sc n xs.2.2)))))))))))
mutual
noncomputable def ckST (N : Nam) (sc : Scope) : St → Stmt → Bool
 | .asg g e, t => isTS t 5 && onO (one (ptS t).ts) fun x => ckT N sc g x && ckE N sc e (ptS t).x
 | .ite c a b, t => isTS t 12 && (ckE N sc c (ptS t).x && (ckSsT N sc a (ptS t).a && ckSsT N sc b (ptS t).b))
 | .ret e, t => isTS t 3 && onO (ptS t).v fun v => ckE N sc e v
 | .rrep i y zs j n, t => ckRR N sc i y zs j n t
 | .expr _, _ => false
 | .whl _ _, _ => false
 | .for _ _ _ _, _ => false
 | .ret0, _ => false
 | .pass, _ => false
 | .rais _ _, _ => false
 | .try _ _, _ => false
 | .tryE _ _ _ _ _, _ => false
termination_by structural x => x
noncomputable def ckSsT (N : Nam) (sc : Scope) : Sts → List Stmt → Bool
 | .any, _ => true
 | .nil, xs => nil? xs
 | .cons s ss, xs => match xs with
  | x :: xs => ckST N sc s x && ckSsT N sc ss xs
  | [] => false
 | .ctok _ _ _, _ => false
termination_by structural x => x
end
mutual
noncomputable def ckS (N : Nam) (sc : Scope) : St → Stmt → Bool
 | .expr e, t => isTS t 24 && (!isComp (ptS t).x && ckE N sc e (ptS t).x)
 | .asg g e, t => isTS t 5 && onO (one (ptS t).ts) fun x => ckT N sc g x && ckE N sc e (ptS t).x
 | .ite c a b, t => isTS t 12 && (ckE N sc c (ptS t).x && (ckSs N sc a (ptS t).a && ckSs N sc b (ptS t).b))
 | .whl c b, t => isTS t 11 && (nil? (ptS t).b && (ckE N sc c (ptS t).x && ckSs N sc b (ptS t).a))
 | .for tg tup e b, t => isTS t 9 && (ckFT N sc tg tup (ptS t).x && (nil? (ptS t).b && (!isSet (ptS t).y && (ckE N sc e (ptS t).y && ckSs N sc b (ptS t).a))))
 | .ret e, t => isTS t 3 && onO (ptS t).v fun v => ckE N sc e v
 | .ret0, t => isTS t 3 && (ptS t).v.isNone
 | .pass, t => isTS t 25
 | .rais c s, t => isTS t 16 && ((ptS t).w.isNone && onO (ptS t).v fun e => isCallN e && (nameIs N c (cN e) && (isGlob sc (cN e) && ((N.ex c).isSome && onO (one (cA e)) fun a => ckE N sc (.cstr s) a))))
 | .try b cs, t => isTS t 17 && (nil? (ptS t).b && (nil? (ptS t).f && (ckSs N sc b (ptS t).a && (!cs.isEmpty && ckHs N sc cs (ptS t).hs))))
 | .tryE b c _ ks k, t => isTS t 17 && (nil? (ptS t).b && (nil? (ptS t).f && (ckSs N sc b (ptS t).a && onO (ptS t).hs.head? fun h => ckHE N sc c ks k h)))
 | .rrep _ _ _ _ _, _ => false
termination_by structural x => x
noncomputable def ckSs (N : Nam) (sc : Scope) : Sts → List Stmt → Bool
 | .any, _ => true
 | .nil, xs => nil? xs
 | .cons s ss, xs => match xs with
  | x :: xs => ckS N sc s x && ckSs N sc ss xs
  | [] => false
 | .ctok i s ss, xs => match xs with
  | x :: xs => (isTS x 5 && onO (one (ptS x).ts) fun g => ckT N sc (.var i) g && ckE N sc (.cstr s) (ptS x).x) && ckSsT N sc ss xs
  | [] => false
termination_by structural x => x
end
end Mine.Internal
set_option autoImplicit false
namespace Mine.Internal
open PySem PySem.W PySem.Calls PyProof.Rows
variable {S : Sig}
theorem store_ok {env : Env} {nm : Str} (h : storable env.scope nm = true) : StoreOK env.scope env nm := by
 unfold storable at h
 split at h
 ·rename_i e; exact .inl e
 ·rename_i e; exact .inr ⟨e, e⟩
 ·cases h
theorem ctx_kp {n : Nat} {d : Dx} (K : ∀ m cs, CtxOK S n (d.cx m cs)) (kp' : List (Addr × Obj)) : ∀ m cs, CtxOK S n ({ d with kp := kp' }.cx m cs) := fun m cs =>
 let k := K m cs; ⟨⟨k.units, k.depth, k.kin, k.top, k.lim, k.kind, k.glob, k.blt, k.locs, k.frs, k.own⟩, k.hand⟩
theorem swap_pure {v : Expr} {nm : Str} {p : Pos} {line : Nat} {env : Env} : ∃ b, swapsWith v (some (.Name nm p)) line env = pure b ∧ (isComp v = false → b = false) := by
 cases v <;> exact ⟨_, rfl, fun h => by first | rfl | cases h⟩
section
variable {N : Nam} {sc : Scope}
noncomputable def rebS (n : Nat) (t : Stmt) : Stmt := match n with
 | 24 => .Expr (ptS t).x (ptS t).pos
 | 5 => .Assign (ptS t).ts (ptS t).x (ptS t).pos
 | 12 => .If (ptS t).x (ptS t).a (ptS t).b (ptS t).pos
 | 11 => .While (ptS t).x (ptS t).a (ptS t).b (ptS t).pos
 | 9 => .For (ptS t).x (ptS t).y (ptS t).a (ptS t).b (ptS t).pos
 | 3 => .Return (ptS t).v (ptS t).pos
 | 25 => .Pass (ptS t).pos
 | 16 => .Raise (ptS t).v (ptS t).w (ptS t).pos
 | 17 => .Try (ptS t).a (ptS t).hs (ptS t).b (ptS t).f (ptS t).pos
 | _ => t
theorem stm_all (t : Stmt) : t = rebS (tagS t) t := by cases t <;> rfl
theorem stm_of {t : Stmt} {n : Nat} (h : isTS t n = true) : t = rebS n t := by
 have h2 := stm_all t
 rw [dec_t h] at h2
 exact h2
theorem u_expr {t : Stmt} (h : isTS t 24 = true) : t = .Expr (ptS t).x (ptS t).pos := stm_of h
theorem u_asg {t : Stmt} (h : isTS t 5 = true) : t = .Assign (ptS t).ts (ptS t).x (ptS t).pos := stm_of h
theorem u_if {t : Stmt} (h : isTS t 12 = true) : t = .If (ptS t).x (ptS t).a (ptS t).b (ptS t).pos := stm_of h
theorem u_while {t : Stmt} (h : isTS t 11 = true) : t = .While (ptS t).x (ptS t).a (ptS t).b (ptS t).pos := stm_of h
theorem u_for {t : Stmt} (h : isTS t 9 = true) : t = .For (ptS t).x (ptS t).y (ptS t).a (ptS t).b (ptS t).pos := stm_of h
theorem u_ret {t : Stmt} (h : isTS t 3 = true) : t = .Return (ptS t).v (ptS t).pos := stm_of h
theorem u_pass {t : Stmt} (h : isTS t 25 = true) : t = .Pass (ptS t).pos := stm_of h
theorem u_raise {t : Stmt} (h : isTS t 16 = true) : t = .Raise (ptS t).v (ptS t).w (ptS t).pos := stm_of h
theorem u_try {t : Stmt} (h : isTS t 17 = true) : t = .Try (ptS t).a (ptS t).hs (ptS t).b (ptS t).f (ptS t).pos := stm_of h
theorem cs_rais {c : Nat} {s : Str} {t : Stmt} (h : ckS N sc (.rais c s) t = true) : ∃ nm q k cp p pos, t = .Raise (some (.Call (.Name nm q) [.Constant (.str s) k cp] [] p)) none pos ∧ nameIs N c nm = true ∧ isGlob sc nm = true ∧ (N.ex c).isSome = true ∧ okS s = true := by
 obtain ⟨h1, h2⟩ := and_t (show (_ && _) = true from h)
 obtain ⟨g1, h2⟩ := and_t h2
 obtain ⟨e, h3, h2⟩ := onO_eq h2
 obtain ⟨g2, h2⟩ := and_t h2
 obtain ⟨g3, h2⟩ := and_t h2
 obtain ⟨g4, h2⟩ := and_t h2
 obtain ⟨g5, h2⟩ := and_t h2
 obtain ⟨a, h4, h2⟩ := onO_eq h2
 obtain ⟨k, cp, rfl, g6⟩ := ck_cstr h2
 obtain ⟨q, p, he⟩ := callN_eq g2
 rw [one_eq h4] at he
 have e1 := u_raise h1
 rw [Option.isNone_iff_eq_none.mp g1, h3] at e1
 exact ⟨_, q, k, cp, p, _, by rw [← he]; exact e1, g3, g4, g5, g6⟩
theorem cs_h {c : Nat} {r : Ex} {hd : ExceptHandler} (h2 : ckH N sc c r hd = true) : ∃ nm np re rp hp, hd = .ExceptHandler (some (.Name nm np)) none [.Return (some re) rp] hp ∧ nameIs N c nm = true ∧ isGlob sc nm = true ∧ (N.ex c).isSome = true ∧ okH r = true ∧ ckE N sc r re = true := by
 obtain ⟨ty, n, bd, hp⟩ := hd
 obtain ⟨g4, h2⟩ := and_t (show (_ && _) = true from h2)
 obtain ⟨g5, h2⟩ := and_t h2
 obtain ⟨g6, h2⟩ := and_t h2
 obtain ⟨e, h4, g6⟩ := onO_eq g6
 obtain ⟨g6, g7⟩ := and_t g6
 obtain ⟨g7, g8⟩ := and_t g7
 obtain ⟨st, h5, h2⟩ := onO_eq h2
 obtain ⟨g9, h2⟩ := and_t h2
 obtain ⟨re, h6, h2⟩ := onO_eq h2
 obtain ⟨g10, g11⟩ := and_t h2
 have e4 : ty = some e := h4
 have e5 : n = none := Option.isNone_iff_eq_none.mp g5
 have e6 : bd = [st] := one_eq h5
 have e7 := u_ret g9
 rw [h6] at e7
 have e8 := t_name g6
 rw [e4, e5, e6, e7, e8]
 exact ⟨_, _, re, _, hp, rfl, g7, g8, g4, g10, g11⟩
theorem cs_try {b : Sts} {cs : List (Nat × Ex)} {t : Stmt} (h : ckS N sc (.try b cs) t = true) : ∃ body hd hs pos, t = .Try body (hd :: hs) [] [] pos ∧ ckSs N sc b body = true ∧ ckHs N sc cs (hd :: hs) = true := by
 obtain ⟨h1, h2⟩ := and_t (show (_ && _) = true from h)
 obtain ⟨g1, h2⟩ := and_t h2
 obtain ⟨g2, h2⟩ := and_t h2
 obtain ⟨g3, h2⟩ := and_t h2
 obtain ⟨g4, g5⟩ := and_t h2
 have e1 := u_try h1
 rw [nil_eq g1, nil_eq g2] at e1
 cases hh : (ptS t).hs with
 | nil =>
  rw [hh] at g5
  cases cs with
  | nil => cases g4
  | cons p r => cases g5
 | cons hd hs =>
  rw [hh] at g5 e1
  exact ⟨_, hd, hs, _, e1, g3, g5⟩
theorem cs_expr {e : Ex} {t : Stmt} (h : ckS N sc (.expr e) t = true) : ∃ v p, t = .Expr v p ∧ isComp v = false ∧ ckE N sc e v = true := by
 obtain ⟨h1, h2⟩ := and_t (show (_ && _) = true from h)
 obtain ⟨g1, g2⟩ := and_t h2
 exact ⟨_, _, u_expr h1, not_t g1, g2⟩
theorem cs_asg {tg : Tg} {e : Ex} {t : Stmt} (h : ckS N sc (.asg tg e) t = true) : ∃ x v p, t = .Assign [x] v p ∧ ckT N sc tg x = true ∧ ckE N sc e v = true := by
 obtain ⟨h1, h2⟩ := and_t (show (_ && _) = true from h)
 obtain ⟨x, h3, h2⟩ := onO_eq h2
 obtain ⟨g1, g2⟩ := and_t h2
 exact ⟨x, _, _, by rw [← one_eq h3] <;> exact u_asg h1, g1, g2⟩
theorem cs_ite {c : Ex} {a b : Sts} {t : Stmt} (h : ckS N sc (.ite c a b) t = true) : ∃ e x y p, t = .If e x y p ∧ ckE N sc c e = true ∧ ckSs N sc a x = true ∧ ckSs N sc b y = true := by
 obtain ⟨h1, h2⟩ := and_t (show (_ && _) = true from h)
 obtain ⟨g1, r1⟩ := and_t h2
 obtain ⟨g2, g3⟩ := and_t r1
 exact ⟨_, _, _, _, u_if h1, g1, g2, g3⟩
theorem cs_whl {c : Ex} {b : Sts} {t : Stmt} (h : ckS N sc (.whl c b) t = true) : ∃ e x p, t = .While e x [] p ∧ ckE N sc c e = true ∧ ckSs N sc b x = true := by
 obtain ⟨h1, h2⟩ := and_t (show (_ && _) = true from h)
 obtain ⟨g1, r1⟩ := and_t h2
 obtain ⟨g2, g3⟩ := and_t r1
 exact ⟨_, _, _, by rw [← nil_eq g1] <;> exact u_while h1, g2, g3⟩
inductive FoT (N : Nam) (sc : Scope) (tg : List Nat) (tup : Bool) (e : Ex) (b : Sts) (t : Stmt) : Prop
 | one (i : Nat) (nm : Str) (q : Pos) (it : Expr) (x : List Stmt) (p : Pos) (e1 : tg = [i]) (e2 : tup = false) (e3 : t = .For (.Name nm q) it x [] p) (h1 : nameIs N i nm = true) (h2 : storable sc nm = true) (h3 : isSet it = false) (h4 : ckE N sc e it = true) (h5 : ckSs N sc b x = true) : FoT N sc tg tup e b t
 | two (i j : Nat) (na nb : Str) (pa pb pt : Pos) (kt : Nat) (it : Expr) (x : List Stmt) (p : Pos) (e1 : tg = [i, j]) (e2 : tup = true) (e3 : t = .For (.Tuple [.Name na pa, .Name nb pb] kt pt) it x [] p) (h1 : nameIs N i na = true) (h2 : nameIs N j nb = true) (h3 : storable sc na = true) (h4 : storable sc nb = true) (h5 : isSet it = false) (h6 : ckE N sc e it = true) (h7 : ckSs N sc b x = true) : FoT N sc tg tup e b t
theorem cs_for {tg : List Nat} {tup : Bool} {e : Ex} {b : Sts} {t : Stmt} (h : ckS N sc (.for tg tup e b) t = true) : FoT N sc tg tup e b t := by
 obtain ⟨h1, h2⟩ := and_t (show (_ && _) = true from h)
 obtain ⟨g1, h2⟩ := and_t h2
 obtain ⟨g2, h2⟩ := and_t h2
 obtain ⟨g3, h2⟩ := and_t h2
 obtain ⟨g4, g5⟩ := and_t h2
 have e1 := u_for h1
 rw [nil_eq g2] at e1
 cases tup with
 | false =>
  obtain ⟨i, h3, g1⟩ := onO_eq g1
  obtain ⟨f1, g1⟩ := and_t g1
  obtain ⟨f2, f3⟩ := and_t g1
  rw [t_name f1] at e1
  exact .one i _ _ _ _ _ (one_eq h3) rfl e1 f2 f3 (not_t g3) g4 g5
 | true =>
  obtain ⟨⟨i, j⟩, h3, g1⟩ := onO_eq g1
  obtain ⟨f1, g1⟩ := and_t g1
  obtain ⟨⟨x1, x2⟩, h4, g1⟩ := onO_eq g1
  obtain ⟨f2, g1⟩ := and_t g1
  obtain ⟨f3, g1⟩ := and_t g1
  obtain ⟨f4, g1⟩ := and_t g1
  obtain ⟨f5, g1⟩ := and_t g1
  obtain ⟨f6, f7⟩ := and_t g1
  have e2 := t_tup f1
  rw [two_eq h4] at e2
  have t1 : x1 = .Name (ptE x1).nm (ptE x1).pos := t_name f2
  have t2 : x2 = .Name (ptE x2).nm (ptE x2).pos := t_name f3
  rw [t1, t2] at e2
  rw [e2] at e1
  exact .two i j _ _ _ _ _ _ _ _ _ (two_eq h3) rfl e1 f4 f5 f6 f7 (not_t g3) g4 g5
theorem isiA_eq {nm : Str} {e y : Expr} (h : isiA nm e = some y) : ∃ p q pos, e = .Call (.Name "isinstance" p) [.Name nm q, y] [] pos := by
 unfold isiA at h
 split at h
 ·rename_i hc
  obtain ⟨g1, g2⟩ := and_t hc
  obtain ⟨⟨a, b⟩, h1, h⟩ := Option.bind_eq_some_iff.mp h
  split at h
  ·rename_i hd
   obtain ⟨g3, g4⟩ := and_t hd
   cases h
   obtain ⟨q, p, he⟩ := callN_eq g1
   rw [dec_t g2, two_eq h1] at he
   have t1 : a = .Name (ptE a).nm (ptE a).pos := t_name g3
   rw [show (ptE a).nm = nm from dec_t g4] at t1
   rw [t1] at he
   exact ⟨_, _, _, he⟩
  ·cases h
 ·cases h
inductive TeI (N : Nam) (sc : Scope) (b : Sts) (c : Nat) (ks : List Nat) (k : Nat) (t : Stmt) : Prop
 | mk (body : List Stmt) (nm : Str) (ce ke : Expr) (es : List Expr) (kt kb : Nat) (p1 p2 p3 p4 p5 p6 p7 p8 p9 p10 p11 p12 p13 p14 p15 p16 hp pos : Pos) (hs : List ExceptHandler)
   (e : t = .Try body (.ExceptHandler (some ce) (some nm) [.If (.Call (.Name "isinstance" p1) [.Name nm p2, .Tuple es kt p3] [] p4) [.Return (some (.Constant (.bool false) kb p5)) p6] [] p7,
    .Return (some (.BoolOp .And [.Call (.Name "isinstance" p8) [.Name nm p9, .Name "ValueError" p10] [] p11, .Call (.Name "isinstance" p12) [.Name nm p13, ke] [] p14] p15)) p16] hp :: hs) [] [] pos)
   (h0 : ckSs N sc b body = true) (h1 : ckCl N sc c ce = true) (h2 : sc.names.lookup nm = some .local) (h3 : (nm == ("__debug__" : Str)) = false) (h4 : isGlob sc "isinstance" = true) (h5 : isGlob sc "ValueError" = true) (h6 : ckCls N sc ks es = true) (h7 : ks.length ≤ 30) (h8 : ks.contains c = false) (h9 : k ≠ c) (h10 : ckCl N sc k ke = true) : TeI N sc b c ks k t
theorem if1_eq {nm : Str} {ks : List Nat} {s : Stmt} (h : ckIf1 N sc nm ks s = true) : ∃ p1 p2 es kt p3 p4 kb p5 p6 p7, s = .If (.Call (.Name "isinstance" p1) [.Name nm p2, .Tuple es kt p3] [] p4) [.Return (some (.Constant (.bool false) kb p5)) p6] [] p7 ∧ ckCls N sc ks es = true := by
 obtain ⟨h1, h2⟩ := and_t h
 obtain ⟨g1, h2⟩ := and_t h2
 obtain ⟨g2, h2⟩ := and_t h2
 obtain ⟨y, g3, g2⟩ := onO_eq g2
 obtain ⟨g4, g5⟩ := and_t g2
 obtain ⟨r, g6, h2⟩ := onO_eq h2
 obtain ⟨g7, h2⟩ := and_t h2
 obtain ⟨v, g8, h2⟩ := onO_eq h2
 obtain ⟨kb, p5, rfl⟩ := ck_cbool h2
 obtain ⟨p1, p2, p4, e2⟩ := isiA_eq g3
 rw [t_tup g4] at e2
 have e1 := u_if h1
 have e3 := u_ret g7
 rw [g8] at e3
 rw [nil_eq g1, one_eq g6, e2, e3] at e1
 exact ⟨_, _, _, _, _, _, _, _, _, _, e1, g5⟩
theorem rt1_eq {nm : Str} {k : Nat} {s : Stmt} (h : ckRt1 N sc nm k s = true) : ∃ p8 p9 p10 p11 p12 p13 ke p14 p15 p16, s = .Return (some (.BoolOp .And [.Call (.Name "isinstance" p8) [.Name nm p9, .Name "ValueError" p10] [] p11, .Call (.Name "isinstance" p12) [.Name nm p13, ke] [] p14] p15)) p16 ∧ ckCl N sc k ke = true := by
 obtain ⟨h1, h2⟩ := and_t h
 obtain ⟨v, g1, h2⟩ := onO_eq h2
 obtain ⟨g2, h2⟩ := and_t h2
 obtain ⟨g3, h2⟩ := and_t h2
 obtain ⟨⟨x1, x2⟩, g4, h2⟩ := onO_eq h2
 obtain ⟨h2, h3⟩ := and_t h2
 obtain ⟨y1, g5, h2⟩ := onO_eq h2
 obtain ⟨y2, g6, g7⟩ := onO_eq h3
 obtain ⟨g8, g9⟩ := and_t h2
 obtain ⟨p8, p9, p11, e1⟩ := isiA_eq g5
 obtain ⟨p12, p13, p14, e2⟩ := isiA_eq g6
 have e3 := t_name g8
 rw [dec_t g9] at e3
 rw [e3] at e1
 have e4 := t_bool g2
 rw [dec_t g3, two_eq g4] at e4
 dsimp only at e1 e2
 rw [e1, e2] at e4
 have e5 := u_ret h1
 rw [g1, e4] at e5
 exact ⟨_, _, _, _, _, _, _, _, _, _, e5, g7⟩
theorem cs_tryE {b : Sts} {c i : Nat} {ks : List Nat} {k : Nat} {t : Stmt} (h : ckS N sc (.tryE b c i ks k) t = true) : TeI N sc b c ks k t := by
 obtain ⟨h1, h2⟩ := and_t (show (_ && _) = true from h)
 obtain ⟨g1, h2⟩ := and_t h2
 obtain ⟨g2, h2⟩ := and_t h2
 obtain ⟨g3, h2⟩ := and_t h2
 obtain ⟨hd, g4, h2⟩ := onO_eq h2
 obtain ⟨f1, h2⟩ := and_t (show (_ && _) = true from h2)
 obtain ⟨f2, h2⟩ := and_t h2
 obtain ⟨f3, h2⟩ := and_t h2
 obtain ⟨f4, h2⟩ := and_t h2
 obtain ⟨ce, f5, f4'⟩ := onO_eq f4
 obtain ⟨nm, f6, h2⟩ := onO_eq h2
 obtain ⟨f7, h2⟩ := and_t h2
 obtain ⟨f8, h2⟩ := and_t h2
 obtain ⟨f9, h2⟩ := and_t h2
 obtain ⟨f10, h2⟩ := and_t h2
 obtain ⟨⟨s1, s2⟩, f11, h2⟩ := onO_eq h2
 obtain ⟨f12, f13⟩ := and_t h2
 obtain ⟨p1, p2, es, kt, p3, p4, kb, p5, p6, p7, e1, f14⟩ := if1_eq f12
 obtain ⟨p8, p9, p10, p11, p12, p13, ke, p14, p15, p16, e2, f15⟩ := rt1_eq f13
 obtain ⟨ty, n, bd, hp⟩ := hd
 have e3 : ty = some ce := f5
 have e4 : n = some nm := f6
 have e5 : bd = [s1, s2] := two_eq f11
 have e6 := u_try h1
 obtain ⟨hs, e7⟩ : ∃ hs, (ptS t).hs = .ExceptHandler ty n bd hp :: hs := by
  cases hh : (ptS t).hs with
  | nil => rw [hh] at g4; cases g4
  | cons a r => rw [hh] at g4; cases g4; exact ⟨r, rfl⟩
 dsimp only at e1 e2
 rw [nil_eq g1, nil_eq g2, e7, e3, e4, e5, e1, e2] at e6
 exact ⟨_, nm, ce, ke, es, kt, kb, p1, p2, p3, p4, p5, p6, p7, p8, p9, p10, p11, p12, p13, p14, p15, p16, hp, _, hs, e6, g3, f4', dec_t f7, not_t f8, f9, f10, f14, dec_t f3, not_t f1, dec_t f2, f15⟩
theorem three_eq {α : Type} {l : List α} {a b c : α} (h : three l = some (a, b, c)) : l = [a, b, c] := by
 match l, h with
 | [x, y, z], h => cases h; rfl
inductive RrI (N : Nam) (sc : Scope) (i : Nat) (y : Str) (zs : List Str) (j n : Ex) (t : Stmt) : Prop
 | mk (nm : Str) (p apos pos rp py lp sp : Pos) (ky : Nat) (ze : List Expr) (je ne : Expr)
   (e : t = .Return (some (.Call (.Attribute (.Name nm p) "replace" apos) [.Constant (.str y) ky py, .Subscript (.List ze lp) je sp, ne] [] pos)) rp)
   (h1 : nameIs N i nm = true) (h2 : inScope sc nm = true) (h3 : (nm == ("__debug__" : Str)) = false) (h4 : (nm == ("__classdict__" : Str)) = false) (h5 : (apos.endLine == pos.line) = true) (h6 : ckStrs N sc zs ze = true) (h7 : zs.length ≤ 30) (h8 : isSlice je = false) (h9 : ckE N sc j je = true) (h10 : ckE N sc n ne = true) : RrI N sc i y zs j n t
theorem cs_rrep {i : Nat} {y : Str} {zs : List Str} {j n : Ex} {t : Stmt} (h : ckST N sc (.rrep i y zs j n) t = true) : RrI N sc i y zs j n t := by
 obtain ⟨h1, h2⟩ := and_t (show (_ && _) = true from h)
 obtain ⟨v, g1, h2⟩ := onO_eq h2
 obtain ⟨g2, h2⟩ := and_t h2
 obtain ⟨g3, h2⟩ := and_t h2
 obtain ⟨g4, h2⟩ := and_t h2
 obtain ⟨g5, h2⟩ := and_t h2
 obtain ⟨g6, h2⟩ := and_t h2
 obtain ⟨g7, h2⟩ := and_t h2
 obtain ⟨⟨x1, x2, x3⟩, g8, h2⟩ := onO_eq h2
 obtain ⟨f1, h2⟩ := and_t h2
 obtain ⟨f2, h2⟩ := and_t h2
 obtain ⟨f3, h2⟩ := and_t h2
 obtain ⟨f4, h2⟩ := and_t h2
 obtain ⟨f5, h2⟩ := and_t h2
 obtain ⟨f6, h2⟩ := and_t h2
 obtain ⟨f7, f8⟩ := and_t h2
 obtain ⟨nm, p, e1, k1, k2, k3, k4⟩ := ck_loc g7
 obtain ⟨ky, py, e2, _⟩ := ck_cstr f1
 dsimp only at e2 f2 f3 f4 f6 f7 f8
 have e3 := t_sub f2
 have e4 := t_list f4
 have e5 := t_attr g4
 have e6 := t_call g2
 have e7 := u_ret h1
 rw [dec_t g5, e1] at e5
 rw [e4] at e3
 rw [nil_eq g3, three_eq g8, e5, e2, e3] at e6
 rw [g1, e6] at e7
 exact ⟨nm, p, _, _, _, py, _, _, ky, _, _, _, e7, k1, k2, k3, k4, g6, f6, dec_t f5, not_t f3, f7, f8⟩
theorem cs_ctok {i : Nat} {y : Str} {ss : Sts} {x : Stmt} {xs : List Stmt} (h : ckSs N sc (.ctok i y ss) (x :: xs) = true) : ∃ nm px kc pc pos, x = .Assign [.Name nm px] (.Constant (.str y) kc pc) pos ∧ nameIs N i nm = true ∧ storable sc nm = true ∧ okS y = true ∧ ckSsT N sc ss xs = true := by
 obtain ⟨h1, h2⟩ := and_t (show (_ && _) = true from h)
 obtain ⟨h1, h3⟩ := and_t h1
 obtain ⟨g, h4, h3⟩ := onO_eq h3
 obtain ⟨h5, h6⟩ := and_t h3
 obtain ⟨kc, pc, e1, g1⟩ := ck_cstr h6
 obtain ⟨f1, h5⟩ := and_t (show (_ && _) = true from h5)
 obtain ⟨f2, f3⟩ := and_t h5
 have e2 := u_asg h1
 rw [one_eq h4, e1, t_name f1] at e2
 exact ⟨_, _, _, _, _, e2, f2, f3, g1, h2⟩
theorem cs_ret {e : Ex} {t : Stmt} (h : ckS N sc (.ret e) t = true) : ∃ v p, t = .Return (some v) p ∧ ckE N sc e v = true := by
 obtain ⟨h1, h2⟩ := and_t (show (_ && _) = true from h)
 obtain ⟨w, h3, h2⟩ := onO_eq h2
 exact ⟨w, _, by rw [← h3] <;> exact u_ret h1, h2⟩
theorem cs_ret0  {t : Stmt} (h : ckS N sc .ret0 t = true) : ∃ p, t = .Return none p := by
 obtain ⟨h1, h2⟩ := and_t (show (_ && _) = true from h)
 exact ⟨_, by rw [← Option.isNone_iff_eq_none.mp h2] <;> exact u_ret h1⟩
theorem ct_var {i : Nat} {t : Expr} (h : ckT N sc (.var i) t = true) : ∃ nm p, t = .Name nm p ∧ nameIs N i nm = true ∧ storable sc nm = true := by
 obtain ⟨h1, h2⟩ := and_t (show (_ && _) = true from h)
 obtain ⟨g1, g2⟩ := and_t h2
 exact ⟨_, _, t_name h1, g1, g2⟩
theorem ct_attr {o : Ex} {i : Nat} {t : Expr} (h : ckT N sc (.attr o i) t = true) : ∃ x nm p, t = .Attribute x nm p ∧ nameIs N i nm = true ∧ ckE N sc o x = true := by
 obtain ⟨h1, h2⟩ := and_t (show (_ && _) = true from h)
 obtain ⟨g1, g2⟩ := and_t h2
 exact ⟨_, _, _, t_attr h1, g1, g2⟩
theorem ct_sub {o i : Ex} {t : Expr} (h : ckT N sc (.sub o i) t = true) : ∃ x y p, t = .Subscript x y p ∧ ckE N sc o x = true ∧ ckE N sc i y = true := by
 obtain ⟨h1, h2⟩ := and_t (show (_ && _) = true from h)
 obtain ⟨g1, g2⟩ := and_t h2
 exact ⟨_, _, _, t_sub h1, g1, g2⟩
theorem cs_pass {t : Stmt} (h : ckS N sc .pass t = true) : ∃ p, t = .Pass p := ⟨_, u_pass h⟩
theorem comp_tag {v : Expr} (h : isComp v = true) : 8 ≤ tagE v ∧ tagE v ≤ 11 := by
 have h := and_t h
 exact ⟨Nat.le_of_ble_eq_true h.1, Nat.le_succ_of_le (Nat.le_of_ble_eq_true h.2)⟩
theorem comp_of {e : Ex} {v : Expr} (hc : isComp v = true) (h : ckE N sc e v = true) : ∃ elt tg tup it conds, e = .comp elt tg tup it conds := by
 have h1 := comp_tag hc
 rw [tag_of h] at h1
 cases e <;> first | exact ⟨_, _, _, _, _, rfl⟩ | exact absurd (show 8 ≤ 19 ∧ 19 ≤ 11 from h1) (by decide) | exact absurd (show 8 ≤ 23 ∧ 23 ≤ 11 from h1) (by decide) | exact absurd (show 8 ≤ 2 ∧ 2 ≤ 11 from h1) (by decide) | exact absurd (show 8 ≤ 3 ∧ 3 ≤ 11 from h1) (by decide) | exact absurd (show 8 ≤ 0 ∧ 0 ≤ 11 from h1) (by decide) | exact absurd (show 8 ≤ 15 ∧ 15 ≤ 11 from h1) (by decide) | exact absurd (show 8 ≤ 24 ∧ 24 ≤ 11 from h1) (by decide) | exact absurd (show 8 ≤ 25 ∧ 25 ≤ 11 from h1) (by decide) | exact absurd (show 8 ≤ 6 ∧ 6 ≤ 11 from h1) (by decide) | exact absurd (show 8 ≤ 20 ∧ 20 ≤ 11 from h1) (by decide) | exact absurd (show 8 ≤ 21 ∧ 21 ≤ 11 from h1) (by decide) | exact absurd (show 8 ≤ 16 ∧ 16 ≤ 11 from h1) (by decide)
end
theorem sx_hand (OK : SigOK S) {d : Dx} {n : Nat} (K : ∀ m cs, CtxOK S n (d.cx m cs)) (SO : ScOK d.env.scope d.env) {k : Nat} {C : Addr} (hC : S.ex k = some C) {Cc : Calls} {l₁ : Loc} {σ₂ : H} {m₁ : Str → Option Value} {cs₁ os₁ : List (Addr × Obj)} {σ' : H} {s : Shared} {B : Heap} {outer : List Env} {a : Addr} {a0 : Value}
  (hB : d.h₀.StaysIn B) (hkB : ∀ p ∈ (d.cx m₁ cs₁).kp ++ os₁, B.get? p.1 = some p.2) {v : V} {Q : Flow → Shared → Prop} {E : Value → Shared → Prop} (L₅ : (d.cx m₁ cs₁).led S os₁ σ' s.heap) (fl₅ : Heap.FlyingW B (d.env :: outer) a (.ref C) a0 s.heap)
  (Vs : VarsOK S (d.cx m₁ cs₁) d.env.scope (adr os₁) l₁) (hQ : ∀ os₇ h₇ tk₇ w, adr os₁ <+: adr os₇ → (d.cx m₁ cs₁).led S os₇ σ₂ h₇ → VR (adr os₇) v w → Q (.ret w) { s with heap := h₇, toks := tk₇ }) :
  ∀ (cs : List (Nat × Ex)) (hs : List ExceptHandler), ckHs S.nam d.env.scope cs hs = true → catchX S.P Cc k cs l₁ σ' = some (.ok v, σ₂) → wpAny (model S.prog S.w) d.A (handleBy (.ref a) d.env hs) Q E s
 | [], _, _, h => nomatch h
 | (c, r) :: cs, [], h, _ => nomatch (show false = true from h)
 | (c, r) :: cs, hd :: hs, h, hv => by
  obtain ⟨h1, h2⟩ := and_t (show (_ && _) = true from h)
  obtain ⟨nm, np, re, rp, hp, rfl, g1, g2, g3, g4, g5⟩ := cs_h h1
  obtain ⟨D, hD⟩ := Option.isSome_iff_exists.mp g3
  obtain ⟨ob, hob, hobc⟩ := fl₅.there
  have KI := (K m₁ cs₁).kin.keeps L₅.fr.keep
  obtain ⟨_, _, _, c3⟩ := OK.exs k C hC
  obtain ⟨N, nm', qn, bs, hdct, sn, sub, ab, col, dd, k0, k1, k2, k3, k5, mN, hC', _⟩ := c3 _ KI
  obtain ⟨nmD, d1, d2, d3⟩ := OK.exs c D hD
  rw [T_eq g1] at d1; cases d1
  obtain ⟨N', nm'', qn', bs', hdct', sn', sub', ab', col', dd', k0', k1', k2', k3', k5', mN', hD', hN', hni', T'⟩ := d3 _ KI
  have hg' := Bool.and_eq_true_iff.mp g2
  obtain ⟨mg, mb, q1, q2, q3⟩ := (K m₁ cs₁).top
  refine wpAny_handleBy_cons (codeAny_handlers_test (Name_function_global (K m₁ cs₁).kind (SO.glob _ (of_decide_eq_true hg'.1)) (loadGlobal_global ((K m₁ cs₁).glob ▸ q1.keeps L₅.fr.keep) (mg_of (K m₁ cs₁).kin q1 d2) ?_) (by simpa using hg'.2))) (by intro q; cases q)
  refine excMatches_ref hC' hD' hob hobc (T'.hasType PySem.F.excBase_ValueError.hasBase) ?_
  rw [bm_has OK hC hD]
  by_cases hm : k = c ∨ c = S.P.xb
  ·rw [decide_eq_true hm]
   have hv : (if k = c ∨ c = S.P.xb then ev S.P Cc r l₁ else catchX S.P Cc k cs l₁) σ' = some (.ok v, σ₂) := hv
   rw [if_pos hm] at hv
   refine codeAny_handlers_suite ?_
   refine lands_againW fl₅ fun h₆ fl₆ sm₆ => ?_
   have L₆ := L₅.slots sm₆ (fun b o q => fl₆.1 b o (hB b o q)) fun p hp => fl₆.1 _ _ (hkB p hp)
   refine wpAny_execs_cons (wpAny_Return_some ?_)
   have K1 := K m₁ cs₁
   have K0 : Ctx0 S n { d.cx m₁ cs₁ with A := d.A.mark (some (.ref a)) } :=
    ⟨K1.units, K1.depth, K1.kin, K1.top, K1.lim, K1.kind, K1.glob, K1.blt, K1.locs, K1.frs, K1.own⟩
   exact sm_h (c := { d.cx m₁ cs₁ with A := d.A.mark (some (.ref a)) }) OK K0 SO Vs g4 g5 os₁ σ' { s with heap := h₆, toks := s.toks } _ _ List.prefix_rfl L₆ hv _ _ fun os₇ h₇ tk₇ w k₇ l₇ hw => hQ os₇ h₇ tk₇ w k₇ l₇ hw
  ·rw [decide_eq_false hm]
   have hv : (if k = c ∨ c = S.P.xb then ev S.P Cc r l₁ else catchX S.P Cc k cs l₁) σ' = some (.ok v, σ₂) := hv
   rw [if_neg hm] at hv
   exact sx_hand OK K SO hC hB hkB L₅ fl₅ Vs hQ cs hs h2 hv
theorem sx_try (OK : SigOK S) {Cc : Calls} {d : Dx} {n : Nat} (K : ∀ m cs, CtxOK S n (d.cx m cs)) (TF : ∃ outer, d.A.frames = some (d.env :: outer) ∧ d.env.frame = some d.L) (SO : ScOK d.env.scope d.env)
  {x : XS} {body : List Stmt} (hx : SX S d d.env.scope (execs body d.env) x) {cs : List (Nat × Ex)} {hd : ExceptHandler} {hs : List ExceptHandler} (hck : ckHs S.nam d.env.scope cs (hd :: hs) = true) {pos : Pos} :
  SX S d d.env.scope (exec (.Try body (hd :: hs) [] [] pos) d.env) (fun loc h => tryX S.P Cc (x loc h) cs) := by
 intro loc m cs' os σ s r' loc' σ' F e Q E hQ
 refine wpAny_Try_except ?_
 have e : tryX S.P Cc (x loc σ) cs = some (r', loc', σ') := e
 cases hxx : x loc σ with
 | none => rw [hxx] at e; cases e
 | some p =>
  obtain ⟨rr, l₁, σ₁⟩ := p
  rw [hxx] at e
  refine hx loc m cs' os σ s rr l₁ σ₁ F hxx _ _ fun m₁ cs₁ os₁ h₁ tk₁ k₁ F₁ => ?_
  cases rr with
  | ok o =>
   cases e
   cases o with
   | none => exact wpAny_execs_nil (hQ m₁ cs₁ os₁ h₁ tk₁ k₁ F₁)
   | some w => exact hQ m₁ cs₁ os₁ h₁ tk₁ k₁ F₁
  | err k =>
   have e : (match catchX S.P Cc k cs l₁ σ₁ with | some (.ok v, h₂) => some (R.ok (some v), l₁, h₂) | _ => none) = some (r', loc', σ') := e
   obtain ⟨v, σ₂, hv, e⟩ : ∃ v σ₂, catchX S.P Cc k cs l₁ σ₁ = some (.ok v, σ₂) ∧ (R.ok (some v), l₁, σ₂) = (r', loc', σ') := by
    split at e
    ·rename_i v σ₂ hv; exact ⟨v, σ₂, hv, Option.some.inj e⟩
    ·cases e
   cases e
   rintro ev ⟨a, C', B, l, rfl, hC', hfr, FB, hB, hkB⟩
   obtain ⟨outer, t1, t2⟩ := TF
   obtain rfl : d.env :: outer = l := Option.some.inj (t1.symm.trans hfr)
   refine fly_note t1 t2 FB fun h₄ a0 held sm₄ => wpAny_landsW held fun h₅ fl₅ sm₅ => ?_
   have sm := sm₄.trans sm₅
   have L₅ := F₁.led.slots sm (fun b o q => fl₅.1 b o (hB b o q)) fun p hp => fl₅.1 _ _ (hkB p hp)
   exact sx_hand OK K SO hC' hB hkB (s := { s with heap := h₅, toks := tk₁ }) L₅ fl₅ F₁.vars (fun os₇ h₇ tk₇ w k₇ l₇ hw => hQ m₁ cs₁ os₇ h₇ tk₇ (k₁.trans k₇) ⟨F₁.vars.mono k₇, F₁.cells, l₇⟩ w hw) cs (hd :: hs) hck hv
theorem sx_asg (OK : SigOK S) {C : Calls} {n : Nat} (HC : CallsOK S C n) (fuel : Nat) (g : Tg) (e : Ex) {d : Dx} {t : Stmt} (K : ∀ m cs, CtxOK S (n + 2) (d.cx m cs)) (SO : ScOK d.env.scope d.env) (h : ckS S.nam d.env.scope (.asg g e) t = true) :
  SX S d d.env.scope (exec t d.env) (ex S.P C fuel (.asg g e)) := by
 match g, h with
 | .var i, h =>
  obtain ⟨tx, v, pos, rfl, h1, h2⟩ := cs_asg h
  obtain ⟨nm, px, rfl, h3, h4⟩ := ct_var h1
  obtain ⟨b, hb, hb'⟩ := swap_pure (v := v) (nm := nm) (p := px) (line := pos.line) (env := d.env)
  cases b with
  | false => exact sx_asg_var OK.tab.nodup SO (K (fun _ => none) []).kind (K (fun _ => none) []).locs (T_eq h3) (store_ok h4) hb fun m cs ρ loc V => sm_ev OK HC e (K m cs) SO V h2
  | true =>
   have hc : isComp v = true := by
    cases q : isComp v with
    | true => rfl
    | false => exact (Bool.false_ne_true (hb' q).symm).elim
   have hcomp := comp_of hc h2
   obtain ⟨elt, tg, tup, it, conds, rfl⟩ := hcomp
   obtain ⟨l, tgt, ite, ifs, sc', p, rfl, g1, g2, g3, g4, g5, g6⟩ := ck_comp h2
   exact sx_asg_used OK.tab.nodup SO K (T_eq h3) (store_ok h4) hb g1 g2 g3 (fun m cs ρ loc V => sm_ev OK HC it (K m cs) SO V g4)
    (fun c' ρ' loc' K' SO' V' => sm_conds OK HC conds K' SO' V' g6) (fun c' ρ' loc' K' SO' V' => sm_ev OK HC elt K' SO' V' g5)
 | .attr o i, h =>
  obtain ⟨tx, v, pos, rfl, h1, h2⟩ := cs_asg h
  obtain ⟨y, nm, px, rfl, h3, h4⟩ := ct_attr h1
  exact sx_asg_attr OK.tab K (T_eq h3) (fun m cs ρ loc V => sm_ev OK HC e (K m cs) SO V h2) fun m cs ρ loc V => sm_ev OK HC o (K m cs) SO V h4
 | .sub o i, h =>
  obtain ⟨tx, v, pos, rfl, h1, h2⟩ := cs_asg h
  obtain ⟨y, z, px, rfl, h3, h4⟩ := ct_sub h1
  exact sx_asg_sub (fun m cs ρ loc V => sm_ev OK HC e (K m cs) SO V h2) (fun m cs ρ loc V => sm_ev OK HC o (K m cs) SO V h3) fun m cs ρ loc V => sm_ev OK HC i (K m cs) SO V h4
mutual
theorem sxt_st (OK : SigOK S) {C : Calls} {n : Nat} (HC : CallsOK S C n) (fuel : Nat) (x : St) {d : Dx} {t : Stmt} (K : ∀ m cs, CtxOK S (n + 2) (d.cx m cs)) (SO : ScOK d.env.scope d.env) (h : ckST S.nam d.env.scope x t = true) :
  SXT S d d.env.scope (exec t d.env) (ex S.P C fuel x) := by
 match x, h with
 | .asg g e, h => exact (sx_asg OK HC fuel g e K SO h).tok
 | .ite c a b, h =>
  obtain ⟨h1, h2⟩ := and_t (show (_ && _) = true from h)
  obtain ⟨g1, r1⟩ := and_t h2
  obtain ⟨g2, g3⟩ := and_t r1
  rw [u_if h1]
  exact sxt_if (fun m cs ρ loc V => sm_tst OK HC c (K m cs) SO V g1 (sm_ev OK HC c (K m cs) SO V g1)) (sxt_sts OK HC fuel a K SO g2) (sxt_sts OK HC fuel b K SO g3)
 | .ret e, h =>
  obtain ⟨v, p, rfl, h1⟩ := cs_ret (N := S.nam) (sc := d.env.scope) (e := e) h
  exact (sx_ret fun m cs ρ loc V => sm_ev OK HC e (K m cs) SO V h1).tok
 | .rrep i y zs j n, h =>
  obtain ⟨nm, p, apos, pos, rp, py, lp, sp, ky, ze, je, ne, rfl, h1, h2, h3, h4, h5, h6, h7, h8, h9, h10⟩ := cs_rrep h
  exact sx_rrep K (T_eq h1) h2 h3 h4 h5 h6 h7 h8 (star_cons h10 [] _) (fun kp' m cs ρ loc V => sm_ev OK HC j (ctx_kp K kp' m cs) SO V h9) fun m cs ρ loc V => sm_ev OK HC n (K m cs) SO V h10
 | .expr _, h => exact nomatch (show false = true from h)
 | .whl _ _, h => exact nomatch (show false = true from h)
 | .for _ _ _ _, h => exact nomatch (show false = true from h)
 | .ret0, h => exact nomatch (show false = true from h)
 | .pass, h => exact nomatch (show false = true from h)
 | .rais _ _, h => exact nomatch (show false = true from h)
 | .try _ _, h => exact nomatch (show false = true from h)
 | .tryE _ _ _ _ _, h => exact nomatch (show false = true from h)
termination_by structural x
theorem sxt_sts (OK : SigOK S) {C : Calls} {n : Nat} (HC : CallsOK S C n) (fuel : Nat) (x : Sts) {d : Dx} {t : List Stmt} (K : ∀ m cs, CtxOK S (n + 2) (d.cx m cs)) (SO : ScOK d.env.scope d.env) (h : ckSsT S.nam d.env.scope x t = true) :
  SXT S d d.env.scope (execs t d.env) (exs S.P C fuel x) := by
 match x, t, h with
 | .any, _, _ => exact fun _ _ _ _ _ _ _ _ _ _ _ e => nomatch (show none = some _ from e)
 | .nil, [], h => exact sx_nil.tok
 | .cons s ss, a :: as, h =>
  have h := and_t (show (_ && _) = true from h)
  exact sxt_cons (sxt_st OK HC fuel s K SO h.1) (sxt_sts OK HC fuel ss K SO h.2)
 | .nil, _ :: _, h => exact nomatch (show false = true from h)
 | .cons _ _, [], h => exact nomatch (show false = true from h)
 | .ctok _ _ _, _, h => exact nomatch (show false = true from h)
termination_by structural x
end
mutual
theorem sx_st (OK : SigOK S) {C : Calls} {n : Nat} (HC : CallsOK S C n) (fuel : Nat) (x : St) {d : Dx} {t : Stmt} (K : ∀ m cs, CtxOK S (n + 2) (d.cx m cs)) (TF : ∃ outer, d.A.frames = some (d.env :: outer) ∧ d.env.frame = some d.L) (SO : ScOK d.env.scope d.env) (h : ckS S.nam d.env.scope x t = true) :
  SX S d d.env.scope (exec t d.env) (ex S.P C fuel x) := by
 match x, h with
 | .expr e, h =>
  obtain ⟨v, p, rfl, h1, h2⟩ := cs_expr h
  exact sx_expr (K (fun _ => none) []).kind h1 fun m cs ρ loc V => sm_ev OK HC e (K m cs) SO V h2
 | .asg g e, h => exact sx_asg OK HC fuel g e K SO h
 | .ite c a b, h =>
  obtain ⟨e, y, z, p, rfl, h1, h2, h3⟩ := cs_ite h
  exact sx_if (fun m cs ρ loc V => sm_tst OK HC c (K m cs) SO V h1 (sm_ev OK HC c (K m cs) SO V h1)) (sx_sts OK HC fuel a K TF SO h2) (sx_sts OK HC fuel b K TF SO h3)
 | .whl c b, h =>
  obtain ⟨e, y, p, rfl, h1, h2⟩ := cs_whl h
  exact sx_while (fun m cs ρ loc V => sm_tst OK HC c (K m cs) SO V h1 (sm_ev OK HC c (K m cs) SO V h1)) (sx_sts OK HC fuel b K TF SO h2)
 | .for tg tup e b, h =>
  obtain ⟨i, nm, q, it, y, p, rfl, rfl, rfl, h1, h2, h3, h4, h5⟩ | ⟨i, j, na, nb, pa, pb, pt, kt, it, y, p, rfl, rfl, rfl, h1, h2, h3, h4, h5, h6, h7⟩ := cs_for h
  ·exact sx_for TF OK.tab.nodup SO (K (fun _ => none) []).kind (K (fun _ => none) []).locs (K (fun _ => none) []).hand (T_eq h1) (store_ok h2) h3 (fun m cs ρ loc V => sm_ev OK HC e (K m cs) SO V h4)
    fun kp' => sx_sts OK HC fuel b (d := { d with kp := kp' }) (ctx_kp K kp') TF SO h5
  ·exact sx_forT TF OK.tab.nodup SO (K (fun _ => none) []).kind (K (fun _ => none) []).locs (K (fun _ => none) []).hand (T_eq h1) (store_ok h3) (T_eq h2) (store_ok h4) h5 (fun m cs ρ loc V => sm_ev OK HC e (K m cs) SO V h6)
    fun kp' => sx_sts OK HC fuel b (d := { d with kp := kp' }) (ctx_kp K kp') TF SO h7
 | .ret e, h =>
  obtain ⟨v, p, rfl, h1⟩ := cs_ret h
  exact sx_ret fun m cs ρ loc V => sm_ev OK HC e (K m cs) SO V h1
 | .ret0, h =>
  obtain ⟨p, rfl⟩ := cs_ret0 h
  exact sx_ret0
 | .pass, h =>
  obtain ⟨p, rfl⟩ := cs_pass h
  exact sx_pass
 | .rais c msg, h =>
  obtain ⟨nm, q, k, cp, p, pos, rfl, h1, h2, h3, h4⟩ := cs_rais h
  obtain ⟨C', hC⟩ := Option.isSome_iff_exists.mp h3
  exact sx_rais OK K SO hC (T_eq h1) h2 h4
 | .try b cs, h =>
  obtain ⟨body, hd, hs, pos, rfl, h1, h2⟩ := cs_try h
  exact sx_try OK K TF SO (sx_sts OK HC fuel b K TF SO h1) h2
 | .tryE b c i ks k, h =>
  obtain ⟨body, nm, ce, ke, es, kt, kb, p1, p2, p3, p4, p5, p6, p7, p8, p9, p10, p11, p12, p13, p14, p15, p16, hp, pos, hs, rfl, h0, h1, h2, h3, h4, h5, h6, h7, h8, h9, h10⟩ := cs_tryE h
  exact sx_tryE (i := i) OK K TF SO (sx_sts OK HC fuel b K TF SO h0) h1 h2 h3 h4 h5 h6 h7 h8 h9 h10
 | .rrep _ _ _ _ _, h => exact nomatch (show false = true from h)
termination_by structural x
theorem sx_sts (OK : SigOK S) {C : Calls} {n : Nat} (HC : CallsOK S C n) (fuel : Nat) (x : Sts) {d : Dx} {t : List Stmt} (K : ∀ m cs, CtxOK S (n + 2) (d.cx m cs)) (TF : ∃ outer, d.A.frames = some (d.env :: outer) ∧ d.env.frame = some d.L) (SO : ScOK d.env.scope d.env) (h : ckSs S.nam d.env.scope x t = true) :
  SX S d d.env.scope (execs t d.env) (exs S.P C fuel x) := by
 match x, t, h with
 | .any, _, _ => exact fun _ _ _ _ _ _ _ _ _ _ e => nomatch (show none = some _ from e)
 | .nil, [], h => exact sx_nil
 | .cons s ss, a :: as, h =>
  have h := and_t (show (_ && _) = true from h)
  exact sx_cons (sx_st OK HC fuel s K TF SO h.1) (sx_sts OK HC fuel ss K TF SO h.2)
 | .nil, _ :: _, h => exact nomatch (show false = true from h)
 | .cons _ _, [], h => exact nomatch (show false = true from h)
 | .ctok i y ss, [], h => exact nomatch (show false = true from h)
 | .ctok i y ss, a :: as, h =>
  obtain ⟨nm, px, kc, pc, pos, rfl, h1, h2, h3, h4⟩ := cs_ctok h
  exact sx_ctok OK.tab.nodup SO (K (fun _ => none) []).kind (K (fun _ => none) []).locs (T_eq h1) (store_ok h2) h3 (sxt_sts OK HC fuel ss K SO h4)
termination_by structural x
end
end Mine.Internal
set_option autoImplicit false
namespace Mine.Internal
open PySem PySem.W PySem.Calls PyProof.Rows
variable {S : Sig}
theorem cellsFrom_has {nm : Str} : ∀ (l : List (Str × NameKind)) (n : Nat) (acc : List (Str × Addr)), ((nm, NameKind.cell) ∈ l ∨ ∃ a, (nm, a) ∈ acc) → ∃ a, (nm, a) ∈ cellsFrom n l acc
 | [], n, acc, h => by
  rcases h with h | h
  ·cases h
  ·exact h
 | (x, k) :: r, n, acc, h => by
  unfold cellsFrom
  split
  ·rename_i hk
   refine cellsFrom_has r (n + 1) _ ?_
   rcases h with h | ⟨a, h⟩
   ·rcases List.mem_cons.mp h with h | h
    ·cases h; exact .inr ⟨n, .head _⟩
    ·exact .inl h
   ·exact .inr ⟨a, .tail _ h⟩
  ·rename_i hk
   refine cellsFrom_has r n acc ?_
   rcases h with h | h
   ·rcases List.mem_cons.mp h with h | h
    ·cases h; exact absurd rfl hk
    ·exact .inl h
   ·exact .inr h
theorem lookup_of_mem {α : Type} {nm : Str} : ∀ {l : List (Str × α)}, (∃ a, (nm, a) ∈ l) → ∃ a, l.lookup nm = some a
 | [], h => by obtain ⟨_, h⟩ := h; cases h
 | (x, b) :: r, h => by
  rw [List.lookup_cons]
  split
  ·exact ⟨b, rfl⟩
  ·rename_i hx
   refine lookup_of_mem ?_
   obtain ⟨a, h⟩ := h
   rcases List.mem_cons.mp h with h | h
   ·cases h; simp at hx
   ·exact ⟨a, h⟩
theorem lookup_nodup {α : Type} : ∀ {l : List (Str × α)} {n : Str} {a : α}, (l.map (·.1)).Nodup → (n, a) ∈ l → l.lookup n = some a
 | [], _, _, _, h => by cases h
 | (x, b) :: r, n, a, nd, h => by
  rw [List.map_cons, List.nodup_cons] at nd
  rw [List.lookup_cons]
  rcases List.mem_cons.mp h with h | h
  ·cases h; simp
  ·have : (n == x) = false := by
    refine beq_eq_false_iff_ne.mpr fun q => nd.1 ?_
    rw [← q]; exact List.mem_map.mpr ⟨(n, a), h, rfl⟩
   rw [this]; exact lookup_nodup nd.2 h
theorem scOK_fn {env : Env} {n : Nat} (hcells : env.cells = cellsFrom n env.scope.names []) (hfree : ∀ x ∈ env.scope.names, x.2 ≠ .free) : ScOK env.scope env := by
 refine ⟨fun nm h => h, fun nm h => h, fun nm h => ?_⟩
 unfold isCell at h
 split at h
 ·rename_i e
  refine ⟨.inl e, ?_⟩
  rw [hcells]
  exact lookup_of_mem (cellsFrom_has _ _ _ (.inl (PySem.mem_of_lookup e)))
 ·rename_i e; exact absurd rfl (hfree _ (PySem.mem_of_lookup e))
 ·cases h
theorem loc_of {ps : List Nat} {xs : List V} {i : Nat} {v : V} : ∀ {l₀ : Loc}, (ps.zip xs).foldl (fun l p => l.upd p.1 p.2) l₀ i = some v → l₀ i = some v ∨ ∃ k : Nat, ps[k]? = some i ∧ xs[k]? = some v := by
 induction ps generalizing xs with
 | nil => intro l₀ h; exact .inl h
 | cons p ps ih =>
  intro l₀ h
  cases xs with
  | nil => exact .inl h
  | cons x xs =>
   simp only [List.zip_cons_cons, List.foldl_cons] at h
   rcases ih h with h | ⟨k, h1, h2⟩
   ·by_cases hp : i = p
    ·subst hp; rw [upd_eq] at h; exact .inr ⟨0, rfl, h⟩
    ·rw [upd_ne hp] at h; exact .inl h
   ·exact .inr ⟨k + 1, h1, h2⟩
theorem bindL_skip {kd : Str → Option NameKind} {nm : Str} : ∀ {bs : List (Str × Value)} {m : Str → Option Value}, (∀ p ∈ bs, p.1 ≠ nm) → bindL kd bs m nm = m nm
 | [], m, _ => rfl
 | (n, v) :: r, m, h => by
  unfold bindL
  rw [bindL_skip fun p hp => h p (.tail _ hp)]
  split
  ·exact if_neg (Ne.symm (h _ (.head _)))
  ·rfl
theorem bindC_skip {kd : Str → Option NameKind} {nm : Str} : ∀ {bs : List (Str × Value)} {m : Str → Option Value}, (∀ p ∈ bs, p.1 ≠ nm) → bindC kd bs m nm = m nm
 | [], m, _ => rfl
 | (n, v) :: r, m, h => by
  unfold bindC
  rw [bindC_skip fun p hp => h p (.tail _ hp)]
  split
  ·rfl
  ·exact if_neg (Ne.symm (h _ (.head _)))
theorem bindL_of {kd : Str → Option NameKind} {nm : Str} {x : Value} (hk : kd nm = some .local) : ∀ {bs : List (Str × Value)} {m : Str → Option Value}, (bs.map (·.1)).Nodup → (nm, x) ∈ bs → bindL kd bs m nm = some x
 | [], m, _, h => by cases h
 | (n, v) :: r, m, nd, h => by
  rw [List.map_cons, List.nodup_cons] at nd
  unfold bindL
  rcases List.mem_cons.mp h with h | h
  ·cases h
   rw [bindL_skip fun p hp q => nd.1 (List.mem_map.mpr ⟨p, hp, q⟩), if_pos hk]
   simp
  ·exact bindL_of hk nd.2 h
theorem bindC_of {kd : Str → Option NameKind} {nm : Str} {x : Value} (hk : kd nm = some .cell) : ∀ {bs : List (Str × Value)} {m : Str → Option Value}, (bs.map (·.1)).Nodup → (nm, x) ∈ bs → bindC kd bs m nm = some x
 | [], m, _, h => by cases h
 | (n, v) :: r, m, nd, h => by
  rw [List.map_cons, List.nodup_cons] at nd
  unfold bindC
  rcases List.mem_cons.mp h with h | h
  ·cases h
   rw [bindC_skip fun p hp q => nd.1 (List.mem_map.mpr ⟨p, hp, q⟩), if_neg (by rw [hk]; simp)]
   simp
  ·exact bindC_of hk nd.2 h
theorem cells_are {h : Heap} : ∀ (l : List (Str × Addr)), (∀ p ∈ l, ∃ o v, h.get? p.2 = some o ∧ o.data = .cell v) → ∃ cs : List (Addr × Obj), All2 (fun (p : Str × Addr) (q : Addr × Obj) => p.2 = q.1 ∧ ∃ v, q.2.data = .cell v) l cs ∧ ∀ q ∈ cs, h.get? q.1 = some q.2 ∧ ∃ p ∈ l, p.2 = q.1
 | [], _ => ⟨[], .nil, fun q hq => nomatch hq⟩
 | p :: r, hl => by
  obtain ⟨cs, h1, h2⟩ := cells_are r fun q hq => hl q (.tail _ hq)
  obtain ⟨o, v, ho, hv⟩ := hl p (.head _)
  refine ⟨(p.2, o) :: cs, .cons ⟨rfl, v, hv⟩ h1, fun q hq => ?_⟩
  rcases List.mem_cons.mp hq with rfl | hq
  ·exact ⟨ho, p, .head _, rfl⟩
  ·obtain ⟨g1, p', g2, g3⟩ := h2 q hq
   exact ⟨g1, p', .tail _ g2, g3⟩
theorem cells_adr {l : List (Str × Addr)} {cs : List (Addr × Obj)} (h : All2 (fun (p : Str × Addr) (q : Addr × Obj) => p.2 = q.1 ∧ ∃ v, q.2.data = .cell v) l cs) : l.map (·.2) = adr cs := by
 induction h with
 | nil => rfl
 | cons h1 _ ih => simp only [List.map_cons, adr, h1.1]; rw [ih]
structure FnOK (S : Sig) (A : Addr) (fd : FD) (fo : Obj) (name qual : Str) (params : Arguments) (body : List Stmt) (scope : Scope) (dV kV doc pm : Value) (an : Option Addr) (cdv ct : Value) (names : List Str) : Prop where
 look : S.K.lookup A = some fo
 data : fo.data = .func (fnX name qual params body scope [] dV kV doc pm an cdv ct)
 code : codeIn S.K cdv qual = true
 co : scope.isCoroutine = false
 gen : scope.isGenerator = false
 kind : scope.kind = .function
 bind : ∀ vs : List Value, vs.length = names.length → bindArgs (fnX name qual params body scope [] dV kV doc pm an cdv ct) ⟨vs, []⟩ = pure (names.zip vs)
 pars : All2 (fun i nm => S.T[i]? = some nm) fd.params names
 nd : names.Nodup
 stor : ∀ nm ∈ names, storable scope nm = true
 cells : ((cellsFrom 0 scope.names []).map (·.1)).Nodup
 free : ∀ x ∈ scope.names, x.2 ≠ .free
 ck : ckSs S.nam scope fd.body body = true
inductive FnI (S : Sig) (A : Addr) (fd : FD) : Prop
 | mk (fo : Obj) (name qual : Str) (params : Arguments) (body : List Stmt) (scope : Scope) (dV kV doc pm : Value) (an : Option Addr) (cdv ct : Value) (names : List Str) (h : FnOK S A fd fo name qual params body scope dV kV doc pm an cdv ct names) : FnI S A fd
theorem zip_map_fst {names : List Str} : ∀ {vs : List Value}, vs.length = names.length → (names.zip vs).map (·.1) = names := by
 induction names with
 | nil => intro vs _; simp
 | cons n r ih =>
  intro vs h
  cases vs with
  | nil => simp at h
  | cons v vs => simp only [List.zip_cons_cons, List.map_cons]; rw [ih (by simpa using h)]
theorem body_ok (OK : SigOK S) {C : Calls} {n : Nat} (HC : CallsOK S C n) (fuel : Nat) {A : Addr} {fd : FD} {fo : Obj} {name qual : Str} {params : Arguments} {body : List Stmt} {scope : Scope} {dV kV doc pm : Value} {an : Option Addr} {cdv ct : Value} {names : List Str}
  (O : FnOK S A fd fo name qual params body scope dV kV doc pm an cdv ct names) {Ar : Around} {h₀ : Heap} {L : Addr} {fs : Fs} {kp os : List (Addr × Obj)} {σ σ' : H} {s : Shared} {xs : List V} {vs : List Value} {r : R (Option V)} {loc' : Loc}
  (K : ∀ m cs, CtxOK S (n + 2) ⟨Ar, envOfC qual scope L A cdv, h₀, L, m, fs, kp ++ cs⟩) (TF : ∃ outer, Ar.frames = some (envOfC qual scope L A cdv :: outer)) (hlen : xs.length = fd.params.length) (hvs : All2 (VR (adr os)) xs vs)
  (l : Led S h₀ L (bindL (envOfC qual scope L A cdv).kindOf (names.zip vs) fun _ => none) fs kp os σ s.heap)
  (hcell : ∀ nm a, (envOfC qual scope L A cdv).cells.lookup nm = some a → s.heap.IsCell a (bindC (envOfC qual scope L A cdv).kindOf (names.zip vs) (fun _ => none) nm))
  (apart : (envOfC qual scope L A cdv).cells.Pairwise fun x y => x.2 ≠ y.2) (hnew : ∀ nm a, (nm, a) ∈ (envOfC qual scope L A cdv).cells → L < a ∧ (∀ p ∈ kp ++ os, p.1 < a) ∧ ∀ f ∈ fs, f.1 < a)
  (he : exs S.P C fuel fd.body ((fd.params.zip xs).foldl (fun l p => l.upd p.1 p.2) fun _ => none) σ = some (r, loc', σ')) {Q : Flow → Shared → Prop} {E : Value → Shared → Prop}
  (hQ : ∀ (m' : Str → Option Value) (os' : List (Addr × Obj)) (h' : Heap) (tk : Nat), adr os <+: adr os' → Led S h₀ L m' fs kp os' σ' h' → ∀ o, r = .ok o → ∀ f, (match o with | none => f = Flow.next | some v => ∃ a, f = .ret a ∧ VR (adr os') v a) → Q f { s with heap := h', toks := tk })
  (hE : ∀ (m' : Str → Option Value) (cs' os' : List (Addr × Obj)) (h' : Heap) (tk : Nat), adr os <+: adr os' → Led S h₀ L m' fs kp os' σ' h' → ∀ k, r = .err k → ∀ e, Fly S ⟨Ar, envOfC qual scope L A cdv, h₀, L, m', fs, kp ++ cs'⟩ os' e k h' → E e { s with heap := h', toks := tk }) :
  wpAny (model S.prog S.w) Ar (execs body (envOfC qual scope L A cdv)) Q E s := by
 have hcn : ((envOfC qual scope L A cdv).cells.map (·.1)).Nodup := cellsFrom_names scope.names 0 (L + 1) [] [] rfl ▸ O.cells
 obtain ⟨cs, ca, cb⟩ := cells_are (h := s.heap) (envOfC qual scope L A cdv).cells fun p hp => by
  obtain ⟨o, ho, hd⟩ := hcell p.1 p.2 (lookup_nodup hcn hp)
  exact ⟨o, _, ho, hd⟩
 have hl2 := hvs.length
 have hl1 := O.pars.length
 have hvl : vs.length = names.length := by lia
 have nda : (adr cs).Nodup := by
  have e : (envOfC qual scope L A cdv).cells.map (·.2) = adr cs := cells_adr ca
  rw [← e]
  exact List.pairwise_map.mpr apart
 have top := l.room
 have Lc : Led S h₀ L (bindL (envOfC qual scope L A cdv).kindOf (names.zip vs) fun _ => none) fs (kp ++ cs) os σ s.heap := by
  refine l.kadds nda fun q hq => ?_
  obtain ⟨g1, ⟨pn, pa⟩, g2, g3⟩ := cb q hq
  dsimp only at g3
  subst g3
  obtain ⟨n1, n2, n3⟩ := hnew pn q.1 g2
  refine ⟨g1, Nat.ne_of_gt n1, ?_, fun hm => ?_, fun f hf => Nat.ne_of_lt (n3 f hf), ?_⟩
  ·cases e : h₀.get? q.1 with
   | none => rfl
   | some o => exact absurd (Heap.lt_size e) (Nat.not_lt.mpr (Nat.le_trans l.fr.above (Nat.le_of_lt n1)))
  ·obtain ⟨p, hp, e⟩ := List.mem_map.mp hm
   exact absurd e (Nat.ne_of_lt (n2 p hp))
  ·obtain ⟨o, ho⟩ := l.top
   exact Nat.lt_trans (Nat.lt_of_lt_of_le (Heap.lt_size ho) l.fr.above) n1
 let d : Dx := ⟨Ar, envOfC qual scope L A cdv, h₀, L, fs, kp⟩
 have CO : CellsOK d.env cs := ⟨ca, hcn⟩
 have SO : ScOK d.env.scope d.env := scOK_fn rfl O.free
 have Vs : VarsOK S (d.cx (bindL (envOfC qual scope L A cdv).kindOf (names.zip vs) fun _ => none) cs) d.env.scope (adr os) ((fd.params.zip xs).foldl (fun l p => l.upd p.1 p.2) fun _ => none) := by
  intro i v nm h1 h2 h3
  rcases loc_of h1 with h | ⟨k, k1, k2⟩
  ·cases h
  ·obtain ⟨nm', k3, k4⟩ := O.pars.get k1
   rw [h2] at k4; cases k4
   obtain ⟨x, k5, k6⟩ := hvs.get k2
   have hmem : (nm, x) ∈ names.zip vs := by
    refine List.mem_of_getElem? (i := k) ?_
    rw [List.getElem?_zip_eq_some]; exact ⟨k3, k5⟩
   have hnz : ((names.zip vs).map (·.1)).Nodup := by rw [zip_map_fst hvl]; exact O.nd
   have hst := O.stor nm (List.mem_of_getElem? k3)
   unfold storable at hst
   split at hst
   ·rename_i e
    exact ⟨x, .inl ⟨e, bindL_of e hnz hmem⟩, k6⟩
   ·rename_i e
    obtain ⟨a, ha⟩ := (SO.cell nm (by unfold isCell; rw [show d.env.scope.names.lookup nm = some .cell from e])).2
    obtain ⟨o, ho, hd⟩ := hcell nm a ha
    obtain ⟨p, o', v', p1, p2, p3⟩ := CO.at ha
    have hoo : o = o' := by
     have := (cb _ (List.mem_of_getElem? p2)).1
     dsimp only at this
     rw [ho] at this; cases this; rfl
    subst hoo
    refine ⟨x, .inr ⟨.inl e, a, o, ha, List.mem_append_right _ (List.mem_of_getElem? p2), ?_⟩, k6⟩
    rw [hd, bindC_of e hnz hmem]
   ·cases hst
 refine sx_sts OK HC fuel fd.body (d := d) K (let ⟨o, h⟩ := TF; ⟨o, h, rfl⟩) SO O.ck _ _ cs os σ s r loc' σ' ⟨Vs, CO, Lc⟩ he Q E fun m' cs' os' h' tk k F => ?_
 cases r with
 | err q => exact fun e f => hE m' cs' os' h' tk k (Led.kdrops (cs := cs') F.led) q rfl e f
 | ok o =>
  have fin := fun f hf => hQ m' os' h' tk k (Led.kdrops (cs := cs') F.led) o rfl f hf
  cases o with
  | none => exact fin .next rfl
  | some v => exact fun a ha => fin (.ret a) ⟨a, rfl, ha⟩
noncomputable def FnAll (S : Sig) : Prop :=
 (∀ f A, S.fn f = some A → ∃ fd, S.P.funs.lookup f = some fd ∧ FnI S A fd) ∧
 (∀ f A, S.me f = some A → ∃ fd, S.P.meths.lookup f = some fd ∧ FnI S A fd)
theorem call_ok (OK : SigOK S) {C : Calls} {n : Nat} (HC : CallsOK S C n) (fuel : Nat) {A : Addr} {fd : FD} {fo : Obj} {name qual : Str} {params : Arguments} {body : List Stmt} {scope : Scope} {dV kV doc pm : Value} {an : Option Addr} {cdv ct : Value} {names : List Str}
  (O : FnOK S A fd fo name qual params body scope dV kV doc pm an cdv ct names) {c : Cx} {ρ : List Addr} (K : CtxOK S (n + 5) c) {xs : List V} {vs : List Value} (hvs : All2 (VR ρ) xs vs) :
  SC S c ρ (.ref A) vs (fun h => if xs.length = fd.params.length then
    match exs S.P C fuel fd.body ((fd.params.zip xs).foldl (fun l p => l.upd p.1 p.2) (fun _ => none)) h with
    | none => none
    | some (.err c, _, h₁) => some (.err c, h₁)
    | some (.ok r, _, h₁) => some (.ok (r.getD .none), h₁)
   else none) := by
 intro os σ s r σ' hp hl hx R hR
 dsimp only at hx
 split at hx
 ·rename_i hlen
  have hl1 := O.pars.length
  have hl2 := hvs.length
  have hvl : vs.length = names.length := by lia
  cases hb : exs S.P C fuel fd.body ((fd.params.zip xs).foldl (fun l p => l.upd p.1 p.2) (fun _ => none)) σ with
  | none => rw [hb] at hx; cases hx
  | some p =>
   obtain ⟨rr, loc', σ₁⟩ := p
   rw [hb] at hx
   have KX := K.kin.keeps hl.fr.keep
   refine codeAny_call_function (by have := K.depth; lia) (KX _ _ O.look) O.data O.co O.gen rfl (codeRec_of KX O.code) (BindsTo.of_eq (s := s) (O.bind vs hvl) _ _ _ _ ?_)
   refine wpAny_newFunctionEnv_cells O.kind (fun x hx => ?_) fun env' he s' x => ?_
   ·have hm : x.1 ∈ names := by rw [← zip_map_fst hvl]; exact List.mem_map_of_mem hx
    have hst := O.stor x.1 hm
    unfold storable at hst
    split at hst
    ·rename_i e; exact .inl e
    ·rename_i e
     refine .inr ⟨e, ?_⟩
     obtain ⟨a, ha⟩ := lookup_of_mem (cellsFrom_has scope.names (s.heap.objs.size + 1) [] (.inl (PySem.mem_of_lookup e)))
     rw [ha]; rfl
    ·cases hst
   ·have he' : env' = envOfC qual scope s.heap.objs.size A cdv := he
    subst he'
    refine ⟨(K.lim.keeps hl.fr.keep).keeps x.toInCall.keep, codeAny_func ?_⟩
    obtain ⟨h₁, tk, rfl, hk₁⟩ := x.done
    have lE : Led S c.h₀ s.heap.objs.size (bindL (envOfC qual scope s.heap.objs.size A cdv).kindOf (names.zip vs) fun _ => none) ((c.L, c.m) :: c.fs) c.kp os σ h₁ := hl.enter x.toInCall.ns hk₁ (get_size _) (Nat.le_refl _)
    refine body_ok OK HC fuel O (s := { s with heap := h₁, toks := tk }) (Ar := c.A.deeper (envOfC qual scope s.heap.objs.size A cdv)) (fun m cs => ?_) (let ⟨l, h, _⟩ := K.frs; ⟨l, Around.frames_deeper h⟩) hlen (VRs.mono hp hvs) lE x.cell x.apart (fun nm a hm => ?_) hb (fun m' os' h' tk' k l' o ho f hf => ?_) fun m' cs' os' h' tk' k l' q hq e f => ?_
    ·refine ⟨⟨?_, ?_, K.kin, K.top, K.lim, O.kind, rfl, rfl, rfl, ?_, let ⟨l, g1, _⟩ := K.frs; ⟨_, l, _, Around.frames_deeper g1, rfl, rfl⟩⟩, K.hand⟩
     ·have := K.units; show c.A.units + 3 + _ + _ < _; lia
     ·have := K.depth; show c.A.depth + 1 + _ < _; lia
     ·obtain ⟨l, g1, g2⟩ := K.frs
      refine ⟨_, Around.frames_deeper g1, fun e he => ?_⟩
      rcases List.mem_cons.mp he with rfl | he
      ·exact ⟨by rw [show (envOfC qual scope s.heap.objs.size A cdv).scope.kind = .function from O.kind]; exact nofun, _, rfl, .head _⟩
      ·obtain ⟨g3, b, g4, g5⟩ := g2 e he
       exact ⟨g3, b, g4, .tail _ g5⟩
    ·have hlt : s.heap.objs.size < a := x.above nm a hm
     refine ⟨hlt, fun p hp' => Nat.lt_trans (Heap.lt_size (hl.news p hp').1) hlt, fun f hf => ?_⟩
     rcases List.mem_cons.mp hf with rfl | hf
     ·obtain ⟨oL, _, _, hL, _⟩ := hl.fr.ns
      exact Nat.lt_trans (Heap.lt_size hL) hlt
     ·obtain ⟨oL, _, _, hL, _⟩ := (hl.outs f hf).1
      exact Nat.lt_trans (Heap.lt_size hL) hlt
    ·subst ho
     cases hx
     have lB := l'.leave hl.fr.above (fun f hf => (hl.outs f hf).2.1) (h' := h') fun b o _ e => e
     cases o with
     | none => subst hf; exact hR os' h' tk' .none k lB rfl
     | some v => obtain ⟨a, rfl, ha⟩ := hf; exact hR os' h' tk' a k lB ha
    ·subst hq
     cases hx
     obtain ⟨a, C', B, l, rfl, hC, hfr, FB, hB, hkB⟩ := f
     obtain ⟨fr, g1, g2⟩ := K.frs
     obtain rfl : envOfC qual scope s.heap.objs.size A cdv :: fr = l := Option.some.inj ((Around.frames_deeper g1).symm.trans hfr)
     refine fly_leave (Around.frames_deeper g1) rfl FB fun h₂ F₂ sm₂ => ?_
     have kb : ∀ p ∈ c.kp ++ os', B.get? p.1 = some p.2 := fun p hp' => by
      rcases List.mem_append.mp hp' with hp' | hp'
      ·exact hkB p (List.mem_append_left _ (List.mem_append_left _ hp'))
      ·exact hkB p (List.mem_append_right _ hp')
     have lB := (l'.leave hl.fr.above (fun f hf => (hl.outs f hf).2.1) (h' := h') fun b o _ e => e).slots sm₂ (fun b o q => F₂.1 b o (hB b o q)) fun p hp' => F₂.1 _ _ (kb p hp')
     exact hR os' h₂ tk' _ k lB ⟨a, C', B, fr, rfl, hC, g1, F₂, hB, kb⟩
 ·cases hx
theorem run_ok (OK : SigOK S) (hA : FnAll S) (fuel : Nat) : ∀ d, CallsOK S (run S.P fuel d) (5 * d)
 | 0 => ⟨fun _ _ _ => (fun os σ s r σ' _ _ hx => by cases hx), fun _ _ _ => (fun os σ s r σ' _ _ hx => by cases hx)⟩
 | d + 1 => by
  have ih := run_ok OK hA fuel d
  refine ⟨fun {c ρ f A xs vs} K hf hvs => ?_, fun {c ρ f A xs vs} K hf hvs => ?_⟩
  ·obtain ⟨fd, hfd, fo, name, qual, params, body, scope, dV, kV, doc, pm, an, cdv, ct, names, O⟩ := hA.1 f A hf
   have := call_ok OK ih fuel O (c := c) K hvs
   intro os σ s r σ' hp hl hx
   refine this os σ s r σ' hp hl ?_
   rw [← hx]
   have e : run S.P fuel (d + 1) false f xs σ = (match S.P.funs.lookup f with
    | none => none
    | some fd => if xs.length = fd.params.length then
      match exs S.P (run S.P fuel d) fuel fd.body ((fd.params.zip xs).foldl (fun l p => l.upd p.1 p.2) (fun _ => none)) σ with
      | none => none
      | some (.err c, _, h₁) => some (.err c, h₁)
      | some (.ok r, _, h₁) => some (.ok (r.getD .none), h₁)
     else none) := rfl
   rw [e, hfd]
  ·obtain ⟨fd, hfd, fo, name, qual, params, body, scope, dV, kV, doc, pm, an, cdv, ct, names, O⟩ := hA.2 f A hf
   have := call_ok OK ih fuel O (c := c) K hvs
   intro os σ s r σ' hp hl hx
   refine this os σ s r σ' hp hl ?_
   rw [← hx]
   have e : run S.P fuel (d + 1) true f xs σ = (match S.P.meths.lookup f with
    | none => none
    | some fd => if xs.length = fd.params.length then
      match exs S.P (run S.P fuel d) fuel fd.body ((fd.params.zip xs).foldl (fun l p => l.upd p.1 p.2) (fun _ => none)) σ with
      | none => none
      | some (.err c, _, h₁) => some (.err c, h₁)
      | some (.ok r, _, h₁) => some (.ok (r.getD .none), h₁)
     else none) := rfl
   rw [e, hfd]
end Mine.Internal
set_option autoImplicit false
namespace Mine.Internal
open PySem PySem.W PySem.Calls PyProof.Rows
theorem lookup_zip {names : List Str} : ∀ {vs : List Value} {k : Nat} {nm : Str} {v : Value}, names.Nodup → names[k]? = some nm → vs[k]? = some v → (names.zip vs).lookup nm = some v := by
 induction names with
 | nil => intro vs k nm v _ h; simp at h
 | cons n r ih =>
  intro vs k nm v nd h1 h2
  rw [List.nodup_cons] at nd
  cases vs with
  | nil => simp at h2
  | cons x xs =>
   cases k with
   | zero => simp at h1 h2; subst h1 h2; simp
   | succ k =>
    simp only [List.getElem?_cons_succ] at h1 h2
    have : (nm == n) = false := beq_eq_false_iff_ne.mpr fun q => nd.1 (q ▸ List.mem_of_getElem? h1)
    simp only [List.zip_cons_cons, List.lookup_cons, this]
    exact ih nd.2 h1 h2
theorem filterMap_zip {names : List Str} : ∀ {vs : List Value} {f : Str → Option Value}, vs.length = names.length → (∀ (k : Nat) nm v, names[k]? = some nm → vs[k]? = some v → f nm = some v) → names.filterMap (fun n => (f n).map (n, ·)) = names.zip vs := by
 induction names with
 | nil => intro vs f _ _; simp
 | cons n r ih =>
  intro vs f h1 h2
  cases vs with
  | nil => simp at h1
  | cons x xs =>
   have e := h2 0 n x rfl rfl
   rw [List.filterMap_cons, e]
   simp only [Option.map_some, List.zip_cons_cons]
   rw [ih (by simpa using h1) fun k nm v a b => h2 (k + 1) nm v a b]
theorem ite_skip {α : Type} {c : Prop} [i : Decidable c] {A B R : α} (h : ¬c) (e : B = R) : ite c A B = R := (if_neg h).trans e
theorem drop_no (n : Nat) : List.drop n ((none : Option (Array Value)).getD #[]).toList = [] := List.drop_nil
theorem bind_core {fd : FuncData} {vs : List Value} {ns : List Str} {z : List (Str × Value)} (hn : ns = fd.params.args.map (·.arg)) (h1 : fd.params.posonlyargs = []) (h2 : fd.params.kwonlyargs = []) (h3 : fd.params.vararg = none) (h4 : fd.params.kwarg = none) (h5 : fd.defaults = .none)
  (hl : ¬ ns.length < vs.length) (mis : (ns.take ns.length).filter (fun n => ((ns.zip vs).lookup n).isNone) = []) (fm : ns.filterMap (fun n => ((ns.zip vs).lookup n).map (n, ·)) = z) : bindArgs fd ⟨vs, []⟩ = pure z := by
 obtain ⟨name, qual, ⟨po, args, va, ko, kwd, ka, df⟩, body, scope, g, clo, dd, kd⟩ := fd
 dsimp only at hn h1 h2 h3 h4 h5
 subst h1 h2 h3 h4 h5 hn
 refine ite_skip (c := (decide (vs.length > (([] : List Str) ++ args.map Arg.arg).length) && (none : Option Arg).isNone) = true) (fun q => ?_) ?_
 ·exact hl (of_decide_eq_true (Bool.and_eq_true_iff.mp q).1)
 ·rw [drop_no]
  refine ite_skip (c := (!List.isEmpty _) = true) (fun q => ?_) ?_
  ·exact Bool.false_ne_true ((congrArg (fun l => !List.isEmpty l) mis).symm.trans q)
  ·rw [List.zip_nil_right]
   exact congrArg (pure (f := Sem)) ((congrArg (fun l => List.filterMap _ l) (List.append_nil _)).trans fm)
theorem bind_plain {fd : FuncData} {vs : List Value} (h1 : fd.params.posonlyargs = []) (h2 : fd.params.kwonlyargs = []) (h3 : fd.params.vararg = none) (h4 : fd.params.kwarg = none) (h5 : fd.defaults = .none)
  (nd : (fd.params.args.map (·.arg)).Nodup) (hl : vs.length = (fd.params.args.map (·.arg)).length) : bindArgs fd ⟨vs, []⟩ = pure ((fd.params.args.map (·.arg)).zip vs) := by
 generalize hn : fd.params.args.map (·.arg) = ns at nd hl ⊢
 have look : ∀ k nm v, ns[k]? = some nm → vs[k]? = some v → (ns.zip vs).lookup nm = some v := fun k nm v a b => lookup_zip nd a b
 refine bind_core hn.symm h1 h2 h3 h4 h5 (fun q => absurd hl (Nat.ne_of_gt q)) ?_ (filterMap_zip (f := fun n => (ns.zip vs).lookup n) hl look)
 rw [List.filter_eq_nil_iff]
 intro nm hm
 rw [List.take_length] at hm
 obtain ⟨k, hk⟩ := List.getElem?_of_mem hm
 have hk' := (List.getElem?_eq_some_iff.mp hk).1
 rw [← hl] at hk'
 rw [look k nm vs[k] hk (List.getElem?_eq_getElem hk')]
 exact Bool.false_ne_true
noncomputable def vIs : V → Value → Bool
 | .none, .none => true
 | .bool b, .bool b' => b == b'
 | .int i, .int j _ => decide (i = j)
 | .str s, .str s' _ => decide (s = s') && okS s
 | _, _ => false
theorem vIs_vr {v : V} {x : Value} (h : vIs v x = true) (ρ : List Addr) : VR ρ v x := by
 cases v with
 | none => cases x <;> first | rfl | exact (Bool.false_ne_true h).elim
 | bool b => cases x <;> first | exact (Bool.false_ne_true h).elim | (have := beq_iff_eq.mp h; subst this; rfl)
 | int i => cases x <;> first | exact (Bool.false_ne_true h).elim | (have := of_decide_eq_true h; subst this; exact ⟨_, rfl⟩)
 | str s =>
  cases x with
  | str s' o =>
   have h : (decide (s = s') && okS s) = true := h
   simp only [Bool.and_eq_true, decide_eq_true_eq] at h
   obtain ⟨rfl, h2⟩ := h; exact ⟨_, rfl, h2⟩
  | _ => exact (Bool.false_ne_true h).elim
 | _ => exact (Bool.false_ne_true h).elim
noncomputable def isRef (x : Option (Option Value)) (A : Addr) : Bool := decide (x = some (some (.ref A)))
theorem isRef_eq {x : Option (Option Value)} {A : Addr} (h : isRef x A = true) : x = some (some (.ref A)) := of_decide_eq_true h
noncomputable def isNo {α : Type} (x : Option (Option α)) : Bool := match x with
 | some none => true
 | some (some _) => false
 | none => false
theorem isNo_eq {α : Type} {x : Option (Option α)} (h : isNo x = true) : x = some none := by
 rcases x with _ | _ | _
 ·exact (Bool.false_ne_true h).elim
 ·rfl
 ·exact (Bool.false_ne_true h).elim
noncomputable def isBi (x : Option (Option Value)) (id : String) : Bool := decide (x = some (some (.builtin id)))
theorem isBi_eq {x : Option (Option Value)} {id : String} (h : isBi x id = true) : x = some (some (.builtin id)) := of_decide_eq_true h
set_option backward.match.sparseCases true in
noncomputable def nsObOk (o : Obj) : Bool := match o.data with
 | .dict es _ => es.all (fun e => match e.key with | .str _ _ => true | _ => false) && (nsFind es "__init__").isNone
 | _ => false
set_option backward.match.sparseCases true in
theorem ns_of {K : Frag} {h : Heap} {N : Addr} (X : K.In h) (e : onO (K.lookup N) nsObOk = true) : ∃ mN, h.Ns N mN ∧ mN "__init__" = none := by
 obtain ⟨o, hk, e⟩ := onO_eq e
 have ho := X _ _ hk
 unfold nsObOk at e
 cases hd : o.data with
 | dict es n =>
  rw [hd] at e
  obtain ⟨e1, e2⟩ := and_t e
  refine ⟨h.nsMap N, .of_isNs ?_, ?_⟩
  ·unfold Heap.isNs; rw [ho]; dsimp only; rw [hd]; exact e1
  ·unfold Heap.nsMap; rw [ho]; dsimp only; rw [hd]; exact Option.isNone_iff_eq_none.mp e2
 | _ => rw [hd] at e; exact (Bool.false_ne_true e).elim
noncomputable def clsD (o : Obj) : Option ClassData := match o.data with
 | .cls cd => some cd
 | _ => none
theorem clsD_eq {o : Obj} {cd : ClassData} (h : clsD o = some cd) : o.data = .cls cd := by
 unfold clsD at h
 cases hd : o.data with
 | cls c => rw [hd] at h; cases h; rfl
 | _ => rw [hd] at h; cases h
noncomputable def exOne (K : Frag) (C : Addr) (bm : List Value) : Bool := onO (K.lookup C) fun o => onO (clsD o) fun cd =>
 decide (o.cls = .type "type") && (decide (cd.mro = .ref C :: bm) && (!cd.hasDel && (decide (o.slots.size = 6) && (decide (o.slots[4]? = some (some (.builtin "ValueError.__new__"))) && onO (K.lookup cd.ns) nsObOk))))
noncomputable def exIn (K : Frag) (P C : Addr) : Bool := exOne K C (if C = P then veL else .ref P :: veL) && exOne K P veL
theorem six {α : Type} : ∀ {l : List α}, l.length = 6 → ∃ a b c d e f, l = [a, b, c, d, e, f]
 | [a, b, c, d, e, f], _ => ⟨a, b, c, d, e, f, rfl⟩
theorem exc_eq {o : Obj} {cd : ClassData} {C : Addr} {bm : List Value} (hd : o.data = .cls cd) (m1 : o.cls = .type "type") (m2 : cd.mro = .ref C :: bm) (m3 : cd.hasDel = false) (m4 : o.slots.size = 6) (m5 : o.slots[4]? = some (some (.builtin "ValueError.__new__"))) :
  ∃ k0 k1 k2 k3 k5, o = excClassObj cd.name cd.qualname C cd.ns cd.bases bm cd.hasDict cd.slotNames cd.subclasses cd.abstract cd.collection o.dict k0 k1 k2 k3 k5 "ValueError.__new__" := by
 obtain ⟨c, dd, dt, ⟨l⟩⟩ := o
 obtain ⟨nm, bs, mro, ns, qn, hdc, sn, sub, ab, col, del⟩ := cd
 cases hd
 cases m1
 cases m2
 cases m3
 obtain ⟨k0, k1, k2, k3, k4, k5, rfl⟩ := six m4
 cases m5
 exact ⟨k0, k1, k2, k3, k5, rfl⟩
theorem exOne_of {K : Frag} {h : Heap} {C : Addr} {bm : List Value} (X : K.In h) (e : exOne K C bm = true) (T : OwnTail h veL bm) : ExOb h C bm := by
 obtain ⟨o, hC, e⟩ := onO_eq e
 obtain ⟨cd, hd, e⟩ := onO_eq e
 have ⟨g1, e⟩ := and_t e
 have ⟨g2, e⟩ := and_t e
 have ⟨g3, e⟩ := and_t e
 have ⟨g4, e⟩ := and_t e
 have ⟨g5, g6⟩ := and_t e
 have ⟨mN, n1, n2⟩ := ns_of X g6
 have ⟨k0, k1, k2, k3, k5, eo⟩ := exc_eq (clsD_eq hd) (dec_t g1) (dec_t g2) (not_t g3) (dec_t g4) (dec_t g5)
 exact ⟨_, _, _, _, _, _, _, _, _, _, k0, k1, k2, k3, k5, mN, (X _ _ hC).trans (congrArg some eo), n1, n2, T⟩
theorem exOb_of {K : Frag} {h : Heap} {C P : Addr} (X : K.In h) (e : exIn K P C = true) : ExOb h C (if C = P then veL else .ref P :: veL) := by
 have ⟨e1, e2⟩ := and_t e
 refine exOne_of X e1 ?_
 split
 ·exact .base
 ·obtain ⟨N, nm, q, bs, hdct, sn, sub, ab, col, dd, k0, k1, k2, k3, k5, mN, hC, hN, hni, _⟩ := exOne_of X e2 .base
  exact .own hC hN hni .base
noncomputable def ckAttr (K : Frag) (C : Addr) (nm : Str) : Bool :=
 plainGet K C nm && hasDictIn K C && isNo (findIn K (.ref C) nm) && isBi (findIn K (.ref C) "__setattr__") "object.__setattr__" && plainOver K C && isNo (takerIn K C nm)
theorem attr_ok {S : Sig} {C : Addr} {nm : Str} (h : ckAttr S.K C nm = true) : AttrOK S C nm := by
 have ⟨h, h6⟩ := and_t h
 have ⟨h, h5⟩ := and_t h
 have ⟨h, h4⟩ := and_t h
 have ⟨h, h3⟩ := and_t h
 have ⟨h1, h2⟩ := and_t h
 exact ⟨h1, h2, isNo_eq h3, isBi_eq h4, h5, isNo_eq h6⟩
noncomputable def fdOf (o : Obj) : Option FuncData := match o.data with
 | .func f => some f
 | _ => none
theorem fdOf_eq {o : Obj} {f : FuncData} (h : fdOf o = some f) : o.data = .func f := by
 unfold fdOf at h
 cases e : o.data with
 | func g => rw [e] at h; cases h; rfl
 | _ => rw [e] at h; cases h
noncomputable def stmtsOf : FuncBody → Option (List Stmt)
 | .stmts b => some b
 | _ => none
theorem stmtsOf_eq {b : FuncBody} {l : List Stmt} (h : stmtsOf b = some l) : b = .stmts l := by
 cases b <;> cases h; rfl
noncomputable def noV : Value → Bool
 | .none => true
 | _ => false
theorem noV_eq {v : Value} (h : noV v = true) : v = .none := by
 cases v with
 | none => rfl
 | _ => exact (Bool.false_ne_true h).elim
noncomputable def ckFn (N : Nam) (K : Frag) (A : Addr) (fd : FD) : Bool := onO (K.lookup A) fun o => onO (fdOf o) fun f => onO (stmtsOf f.body) fun body =>
 nil? f.params.posonlyargs && (nil? f.params.kwonlyargs && (f.params.vararg.isNone && (f.params.kwarg.isNone && (nil? f.closure && (noV f.defaults && (decide (f.globals = mainGlobals) && (decide (f.builtins = builtinsNs) &&
  (codeIn K f.code f.qualname && (!f.scope.isCoroutine && (!f.scope.isGenerator && (decide (f.scope.kind = .function) && (decide (fd.params.map (fun i => N.T[i]?) = (f.params.args.map (·.arg)).map some) &&
  (decide (f.params.args.map (·.arg)).Nodup && ((f.params.args.map (·.arg)).all (storable f.scope) && (decide ((cellsFrom 0 f.scope.names []).map (·.1)).Nodup && (f.scope.names.all (fun x => decide (x.2 ≠ .free)) && ckSs N f.scope fd.body body))))))))))))))))
theorem all2_map {T : List Str} : ∀ {ps : List Nat} {ns : List Str}, ps.map (fun i => T[i]?) = ns.map some → All2 (fun i nm => T[i]? = some nm) ps ns
 | [], [], _ => .nil
 | [], _ :: _, h => by simp at h
 | _ :: _, [], h => by simp at h
 | p :: ps, n :: ns, h => by
  simp only [List.map_cons, List.cons.injEq] at h
  exact .cons h.1 (all2_map h.2)
theorem fn_mk {f : FuncData} {body : List Stmt} (e1 : f.closure = []) (e2 : f.globals = mainGlobals) (e3 : f.builtins = builtinsNs) (e4 : f.body = .stmts body) :
  f = fnX f.name f.qualname f.params body f.scope [] f.defaults f.kwdefaults f.doc f.pyModule f.annotations f.code f.closureTuple := by
 cases f; cases e1; cases e2; cases e3; cases e4; rfl
theorem fn_ok {S : Sig} {A : Addr} {fd : FD} (h : ckFn S.nam S.K A fd = true) : FnI S A fd := by
 obtain ⟨o, hk, h⟩ := onO_eq h
 obtain ⟨f, hf, h⟩ := onO_eq h
 obtain ⟨body, hb, h⟩ := onO_eq h
 exact ⟨o, f.name, f.qualname, f.params, body, f.scope, f.defaults, f.kwdefaults, f.doc, f.pyModule, f.annotations, f.code, f.closureTuple, f.params.args.map Arg.arg,
  hk, (fdOf_eq hf).trans (congrArg _ (fn_mk (nil_eq (and_t (and_t (and_t (and_t (and_t h).2).2).2).2).1) (of_decide_eq_true (and_t (and_t (and_t (and_t (and_t (and_t (and_t h).2).2).2).2).2).2).1) (of_decide_eq_true (and_t (and_t (and_t (and_t (and_t (and_t (and_t (and_t h).2).2).2).2).2).2).2).1) (stmtsOf_eq hb))), (and_t (and_t (and_t (and_t (and_t (and_t (and_t (and_t (and_t h).2).2).2).2).2).2).2).2).1, (Bool.not_eq_true' _).mp (and_t (and_t (and_t (and_t (and_t (and_t (and_t (and_t (and_t (and_t h).2).2).2).2).2).2).2).2).2).1, (Bool.not_eq_true' _).mp (and_t (and_t (and_t (and_t (and_t (and_t (and_t (and_t (and_t (and_t (and_t h).2).2).2).2).2).2).2).2).2).2).1, of_decide_eq_true (and_t (and_t (and_t (and_t (and_t (and_t (and_t (and_t (and_t (and_t (and_t (and_t h).2).2).2).2).2).2).2).2).2).2).2).1,
  fun vs hl => bind_plain (fd := fnX f.name f.qualname f.params body f.scope [] f.defaults f.kwdefaults f.doc f.pyModule f.annotations f.code f.closureTuple) (nil_eq (and_t h).1) (nil_eq (and_t (and_t h).2).1) (Option.isNone_iff_eq_none.mp (and_t (and_t (and_t h).2).2).1) (Option.isNone_iff_eq_none.mp (and_t (and_t (and_t (and_t h).2).2).2).1) (noV_eq (and_t (and_t (and_t (and_t (and_t (and_t h).2).2).2).2).2).1) (of_decide_eq_true (and_t (and_t (and_t (and_t (and_t (and_t (and_t (and_t (and_t (and_t (and_t (and_t (and_t (and_t h).2).2).2).2).2).2).2).2).2).2).2).2).2).1) hl,
  all2_map (T := S.nam.T) (of_decide_eq_true (and_t (and_t (and_t (and_t (and_t (and_t (and_t (and_t (and_t (and_t (and_t (and_t (and_t h).2).2).2).2).2).2).2).2).2).2).2).2).1), of_decide_eq_true (and_t (and_t (and_t (and_t (and_t (and_t (and_t (and_t (and_t (and_t (and_t (and_t (and_t (and_t h).2).2).2).2).2).2).2).2).2).2).2).2).2).1, List.all_eq_true.mp (and_t (and_t (and_t (and_t (and_t (and_t (and_t (and_t (and_t (and_t (and_t (and_t (and_t (and_t (and_t h).2).2).2).2).2).2).2).2).2).2).2).2).2).2).1, of_decide_eq_true (and_t (and_t (and_t (and_t (and_t (and_t (and_t (and_t (and_t (and_t (and_t (and_t (and_t (and_t (and_t (and_t h).2).2).2).2).2).2).2).2).2).2).2).2).2).2).2).1, fun x hx => of_decide_eq_true (List.all_eq_true.mp (and_t (and_t (and_t (and_t (and_t (and_t (and_t (and_t (and_t (and_t (and_t (and_t (and_t (and_t (and_t (and_t (and_t h).2).2).2).2).2).2).2).2).2).2).2).2).2).2).2).2).1 x hx), (and_t (and_t (and_t (and_t (and_t (and_t (and_t (and_t (and_t (and_t (and_t (and_t (and_t (and_t (and_t (and_t (and_t h).2).2).2).2).2).2).2).2).2).2).2).2).2).2).2).2).2⟩
noncomputable abbrev mkSig (prog : Program) (w : World) (K : Frag) (T : List Str) (P : Prog) (clsL fnL meL exL : List (Nat × Addr)) (xP : Addr) (fz : List (Addr × Obj)) : Sig :=
 { prog := prog, w := w, K := K, T := T, P := P, cls := fun i => clsL.lookup i, fn := fun i => fnL.lookup i, me := fun i => meL.lookup i, ex := fun i => exL.lookup i, xp := xP, fz := fz }
noncomputable abbrev mkNam (T : List Str) (clsL fnL meL exL : List (Nat × Addr)) : Nam := ⟨T, fun i => fnL.lookup i, fun i => meL.lookup i, fun i => clsL.lookup i, fun i => exL.lookup i⟩
noncomputable def allBi : List Bi := [.len, .sorted, .list, .range, .min]
 ++ [.tuple, .str, .int]
noncomputable abbrev clsK : List Nat := [0, 1, 2, 3, 4]
noncomputable def gIs (wA : Addr) : V → Value → Bool
 | .ref i, x => decide (i = 1) && decide (x = .ref wA)
 | v, x => vIs v x
theorem gIs_vr {wA : Addr} {v : V} {x : Value} (h : gIs wA v x = true) {ρ : List Addr} (hz : ρ[1]? = some wA) : VR ρ v x := by
 cases v with
 | ref i =>
  obtain ⟨h1, h2⟩ := and_t (show (_ && _) = true from h)
  rw [dec_t h1, dec_t h2]
  exact ⟨wA, hz, rfl⟩
 | none => exact vIs_vr (v := .none) h ρ
 | bool b => exact vIs_vr (v := .bool b) h ρ
 | int b => exact vIs_vr (v := .int b) h ρ
 | str b => exact vIs_vr (v := .str b) h ρ
noncomputable def exQ (K : Frag) (C : Addr) : Bool := isBi (findIn K (.ref C) "__getattribute__") "BaseException.__getattribute__" && (isNo (findIn K (.ref C) "__getattr__") && (isBi (findIn K (.ref C) "__class__") "object.__class__" && (decide (mroIn K C (.type "object") = some true) && (decide (mroIn K C (.type "BaseException") = some true) && (clsIn K C).isSome))))
theorem exQ_of {K : Frag} {C : Addr} (h : exQ K C = true) : ExQ K C := by
 obtain ⟨h1, h⟩ := and_t h
 obtain ⟨h2, h⟩ := and_t h
 obtain ⟨h3, h⟩ := and_t h
 obtain ⟨h4, h⟩ := and_t h
 obtain ⟨h5, h6⟩ := and_t h
 exact ⟨isBi_eq h1, isNo_eq h2, isBi_eq h3, dec_t h4, dec_t h5, h6⟩
noncomputable def exK (K : Frag) (P : Prog) (exL : List (Nat × Addr)) (q : Nat × Addr) : Bool := exQ K q.2 && (decide (kitOne K (.ref q.2) (.type "ValueError") = some true) && exL.all fun r => decide (kitOne K (.ref q.2) (.ref r.2) = some (decide (q.1 = r.1 ∨ r.1 = P.xb))))
noncomputable def ckTop (K : Frag) (T : List Str) (P : Prog) (clsL fnL meL exL : List (Nat × Addr)) (xP wA : Addr) : Bool :=
 decide T.Nodup && P.attrs.all (fun n => onO T[n]? fun nm => clsL.all fun q => ckAttr K q.2 nm) &&
 P.globs.all (fun q => onO T[q.1]? fun nm => onO (nsIn K mainGlobals nm) fun y => onO y fun x => gIs wA q.2 x) && ([] : List Nat).isEmpty &&
 fnL.all (fun q => onO T[q.1]? fun nm => isRef (nsIn K mainGlobals nm) q.2 && keepIn K (.ref q.2)) &&
 allBi.all (fun b => isNo (nsIn K mainGlobals (biName b))) && isNo (nsIn K mainGlobals "isinstance") && clsK.all (fun k => isNo (nsIn K mainGlobals (clsName k))) &&
 meL.all (fun q => onO T[q.1]? fun nm => !P.attrs.contains q.1 && keepIn K (.ref q.2) && isFn K (.ref q.2) && clsL.all (fun r => plainGet K r.2 nm && isRef (findIn K (.ref r.2) nm) q.2)) &&
 clsL.all (fun q => onO T[q.1]? fun nm => isRef (nsIn K mainGlobals nm) q.2 && keepIn K (.ref q.2) && makesIn K q.2) &&
 (isNo (nsIn K mainGlobals "ValueError") && (decide (T[idSplit]? = some ("split" : Str)) && decide (T[idJoin]? = some ("join" : Str)))) &&
 decide (T[idAppend]? = some ("append" : Str)) && decide (T[idPop]? = some ("pop" : Str)) && decide (T[idClear]? = some ("clear" : Str)) &&
 (exL.all (fun q => (onO T[q.1]? fun nm => isRef (nsIn K mainGlobals nm) q.2 && exIn K xP q.2) && (decide (q.1 = P.xb ↔ q.2 = xP) && exK K P exL q)) && decide ((exL.map (·.2)).Nodup))
noncomputable def ckFuns (K : Frag) (T : List Str) (P : Prog) (clsL fnL meL exL : List (Nat × Addr)) : Bool :=
 fnL.all (fun q => onO (P.funs.lookup q.1) fun fd => ckFn (mkNam T clsL fnL meL exL) K q.2 fd) &&
 meL.all (fun q => onO (P.meths.lookup q.1) fun fd => ckFn (mkNam T clsL fnL meL exL) K q.2 fd)
theorem snd_inj : ∀ {l : List (Nat × Addr)} {i j : Nat} {C : Addr}, (l.map (·.2)).Nodup → (i, C) ∈ l → (j, C) ∈ l → i = j
 | p :: r, i, j, C, nd, hi, hj => by
  have nd := List.nodup_cons.mp nd
  rcases List.mem_cons.mp hi with e1 | h1 <;> rcases List.mem_cons.mp hj with e2 | h2
  ·rw [← e1] at e2; exact (Prod.mk.inj e2).1.symm
  ·exact absurd (show p.2 ∈ r.map (·.2) by rw [← e1]; exact List.mem_map.mpr ⟨_, h2, rfl⟩) nd.1
  ·exact absurd (show p.2 ∈ r.map (·.2) by rw [← e2]; exact List.mem_map.mpr ⟨_, h1, rfl⟩) nd.1
  ·exact snd_inj nd.2 h1 h2
theorem mem_lookup {α : Type} : ∀ {l : List (Nat × α)} {i : Nat} {a : α}, l.lookup i = some a → (i, a) ∈ l
 | [], _, _, h => by simp at h
 | (k, b) :: r, i, a, h => by
  rw [List.lookup_cons] at h
  split at h
  ·rename_i e; cases h; rw [beq_iff_eq.mp e]; exact .head _
  ·exact .tail _ (mem_lookup h)
section
variable {prog : Program} {w : World} {K : Frag} {T : List Str} {P : Prog} {clsL fnL meL exL : List (Nat × Addr)} {xP wA : Addr} {fz : List (Addr × Obj)}
theorem funs_ok (h : ckFuns K T P clsL fnL meL exL = true) : FnAll (mkSig prog w K T P clsL fnL meL exL xP fz) := by
 have h := and_t h
 refine ⟨fun f A hf => ?_, fun f A hf => ?_⟩
 ·obtain ⟨fd, hfd, this⟩ := onO_eq (List.all_eq_true.mp h.1 _ (mem_lookup hf))
  exact ⟨fd, hfd, fn_ok (S := mkSig prog w K T P clsL fnL meL exL xP fz) this⟩
 ·obtain ⟨fd, hfd, this⟩ := onO_eq (List.all_eq_true.mp h.2 _ (mem_lookup hf))
  exact ⟨fd, hfd, fn_ok (S := mkSig prog w K T P clsL fnL meL exL xP fz) this⟩
theorem top_ok (hz : (adr fz)[1]? = some wA) (h : ckTop K T P clsL fnL meL exL xP wA = true) : SigOK (mkSig prog w K T P clsL fnL meL exL xP fz) := by
 refine ⟨⟨of_decide_eq_true (and_t (and_t (and_t (and_t (and_t (and_t (and_t (and_t (and_t (and_t (and_t (and_t (and_t (and_t h).1).1).1).1).1).1).1).1).1).1).1).1).1).1, fun n hn => ?_⟩, fun i v hv => ?_, List.isEmpty_iff.mp (and_t (and_t (and_t (and_t (and_t (and_t (and_t (and_t (and_t (and_t (and_t (and_t h).1).1).1).1).1).1).1).1).1).1).1).2, fun i A hA => ?_, fun b => ?_, isNo_eq (and_t (and_t (and_t (and_t (and_t (and_t (and_t (and_t (and_t h).1).1).1).1).1).1).1).1).2, fun k hk => ?_, fun i A hA => ?_, fun i C hC => ?_, ?_, of_decide_eq_true (and_t (and_t (and_t (and_t h).1).1).1).2, of_decide_eq_true (and_t (and_t (and_t h).1).1).2, of_decide_eq_true (and_t (and_t h).1).2, dec_t (and_t (and_t (and_t (and_t (and_t (and_t (and_t h).1).1).1).1).2).2).1, dec_t (and_t (and_t (and_t (and_t (and_t (and_t (and_t h).1).1).1).1).2).2).2, fun i C hC => ?_, fun i j C hi hj => ?_, fun i C hC => ?_, fun i C hC => ?_, fun i j C D hC hD => ?_, isNo_eq (and_t (and_t (and_t (and_t (and_t (and_t h).1).1).1).1).2).1, fun i C hC => ?_⟩
 ·obtain ⟨nm, e, this⟩ := onO_eq (List.all_eq_true.mp (and_t (and_t (and_t (and_t (and_t (and_t (and_t (and_t (and_t (and_t (and_t (and_t (and_t (and_t h).1).1).1).1).1).1).1).1).1).1).1).1).1).2 n hn)
  refine ⟨nm, e, fun k C hC => attr_ok (S := mkSig prog w K T P clsL fnL meL exL xP fz) ?_⟩
  exact (List.all_eq_true.mp this) _ (mem_lookup hC)
 ·obtain ⟨nm, e, this⟩ := onO_eq (List.all_eq_true.mp (and_t (and_t (and_t (and_t (and_t (and_t (and_t (and_t (and_t (and_t (and_t (and_t (and_t h).1).1).1).1).1).1).1).1).1).1).1).1).2 _ (mem_lookup hv))
  obtain ⟨y, e2, this⟩ := onO_eq this
  obtain ⟨x, rfl, this⟩ := onO_eq this
  exact ⟨nm, x, e, e2, fun ρ k => gIs_vr this (pre_get k hz)⟩
 ·obtain ⟨nm, e, this⟩ := onO_eq (List.all_eq_true.mp (and_t (and_t (and_t (and_t (and_t (and_t (and_t (and_t (and_t (and_t (and_t h).1).1).1).1).1).1).1).1).1).1).2 _ (mem_lookup hA))
  have this := and_t this
  exact ⟨nm, e, isRef_eq this.1, this.2⟩
 ·exact isNo_eq (List.all_eq_true.mp (and_t (and_t (and_t (and_t (and_t (and_t (and_t (and_t (and_t (and_t h).1).1).1).1).1).1).1).1).1).2 b (by cases b <;> decide))
 ·have : k ∈ clsK := by
   match k, hk with
   | 0, _ => decide
   | 1, _ => decide
   | 2, _ => decide
   | 3, _ => decide
   | 4, _ => decide
  exact isNo_eq (List.all_eq_true.mp (and_t (and_t (and_t (and_t (and_t (and_t (and_t (and_t h).1).1).1).1).1).1).1).2 k this)
 ·obtain ⟨nm, e, this⟩ := onO_eq (List.all_eq_true.mp (and_t (and_t (and_t (and_t (and_t (and_t (and_t h).1).1).1).1).1).1).2 _ (mem_lookup hA))
  have ⟨this, g4⟩ := and_t this
  have ⟨this, g3⟩ := and_t this
  have ⟨g1, g2⟩ := and_t this
  refine ⟨nm, e, fun hm => ?_, g2, g3, fun k C hC => ?_⟩
  ·have : P.attrs.contains i = true := List.contains_iff_mem.mpr hm
   rw [this] at g1; exact (Bool.false_ne_true g1).elim
  ·have := and_t (List.all_eq_true.mp g4 _ (mem_lookup hC))
   exact ⟨this.1, isRef_eq this.2⟩
 ·obtain ⟨nm, e, this⟩ := onO_eq (List.all_eq_true.mp (and_t (and_t (and_t (and_t (and_t (and_t h).1).1).1).1).1).2 _ (mem_lookup hC))
  have ⟨this, g3⟩ := and_t this
  have ⟨g1, g2⟩ := and_t this
  exact ⟨nm, e, isRef_eq g1, g2, g3⟩
 ·trivial
 ·have this := and_t (List.all_eq_true.mp (and_t (and_t h).2).1 _ (mem_lookup hC))
  obtain ⟨nm, e, this⟩ := onO_eq this.1
  have this := and_t this
  exact ⟨nm, e, isRef_eq this.1, fun h X => exOb_of X this.2⟩
 ·have nd : (exL.map (·.2)).Nodup := dec_t (and_t (and_t h).2).2
  exact snd_inj nd (mem_lookup hi) (mem_lookup hj)
 ·exact dec_t (and_t (and_t (List.all_eq_true.mp (and_t (and_t h).2).1 _ (mem_lookup hC))).2).1
 ·exact exQ_of (and_t (and_t (and_t (List.all_eq_true.mp (and_t (and_t h).2).1 _ (mem_lookup hC))).2).2).1
 ·exact dec_t (List.all_eq_true.mp (and_t (and_t (and_t (and_t (List.all_eq_true.mp (and_t (and_t h).2).1 _ (mem_lookup hC))).2).2).2).2 _ (mem_lookup hD))
 ·exact dec_t (and_t (and_t (and_t (and_t (List.all_eq_true.mp (and_t (and_t h).2).1 _ (mem_lookup hC))).2).2).2).1
end
end Mine.Internal
set_option autoImplicit false
namespace Mine.Internal
open PySem PySem.W PySem.Calls PyProof.Rows
noncomputable def noList (K : Frag) : Bool := K.all fun p => match p.2.cls with | .type s => !(s == "list") | _ => true
theorem noList_of {K : Frag} (h : noList K = true) {a : Addr} {o : Obj} (e : K.lookup a = some o) : o.cls ≠ .type "list" := by
 intro q
 have := (List.all_eq_true.mp h) (a, o) (mem_lookup e)
 dsimp only at this
 rw [q] at this
 simp at this
theorem ns_hide {h : Heap} {a A B : Addr} {m : Str → Option Value} {vs : Array Value} {n : Nat} (x : h.Ns a m) (hA : h.get? A = some (W.listOf vs n)) (hW : a ≠ B) : (hideAll h [A, B]).Ns a m := by
 obtain ⟨o, es, ep, h1, h2, h3⟩ := x
 have hne : a ≠ A := fun q => by
  subst q; rw [hA] at h1; cases h1; cases h2
 exact ⟨o, es, ep, hideAll_get _ h1 (by simp only [List.mem_cons, List.not_mem_nil, or_false, not_or]; exact ⟨hne, hW⟩), h2, h3⟩
noncomputable def wEnt (P : Params) (p : (Str × Int) × Nat) : DictEntry := { hash := PyData.keyHash P p.1.1, key := .str p.1.1 p.2, val := .int p.1.2 (p.2 + 1) }
theorem words_of {S : Sig} {ρ : List Addr} {n : Nat} (ps : List ((Str × Int) × Nat)) (nd : (ps.map fun p => V.str p.1.1).Nodup) (hl : ps.length ≤ lim) : DictR S ρ (ps.map fun p => (V.str p.1.1, V.int p.1.2)) (dictOf (ps.map (wEnt S.w.params)) n) := by
 refine ⟨ps.map (wEnt S.w.params), n, ps.map fun p => (V.str p.1.1, Value.int p.1.2 (p.2 + 1)), rfl, fun e he => ?_, ?_, ?_, ?_, by rw [List.length_map]; exact hl⟩
 ·have he : e ∈ ps.map (wEnt S.w.params) := by simpa using he
  obtain ⟨p, _, rfl⟩ := List.mem_map.mp he
  refine ⟨.str p.1.1, ?_, rfl⟩
  show keyIs (.str p.1.1) (.str p.1.1 p.2) = true
  simp [keyIs, Value.isStrOf]
 ·clear nd hl
  induction ps with
  | nil => exact .nil
  | cons p ps ih =>
   refine .cons ?_ rfl ih
   show keyIs (.str p.1.1) (.str p.1.1 p.2) = true
   simp [keyIs, Value.isStrOf]
 ·rw [List.map_map]; exact nd
 ·clear nd hl
  induction ps with
  | nil => exact .nil
  | cons p ps ih => exact .cons ⟨rfl, _, rfl⟩ ih
theorem ints_vr {ρ : List Addr} {vs : List Value} {ns : List Int} (h : IntsAre vs ns) : All2 (VR ρ) (ns.map V.int) vs := by
 induction h with
 | nil => exact .nil
 | cons n t _ ih => exact .cons ⟨t, rfl⟩ ih
theorem law_main {prog : Program} {w : World} {K : Frag} {T : List Str} {P : Prog} {clsL fnL meL exL : List (Nat × Addr)} {xP W₀ : Addr} (hT : ckTop K T P clsL fnL meL exL xP W₀ = true) (hF : ckFuns K T P clsL fnL meL exL = true) (hN : noList K = true) (hKW : K.lookup W₀ = none) (hnf : P.nf = 2)
  {lid : Nat} {fa : Addr} (hfa : fnL.lookup lid = some fa) {s₁ : Shared} (KX : K.In s₁.heap) {mg mb : Str → Option Value} (hmg : s₁.heap.Ns mainGlobals mg) (hmb : s₁.heap.Ns builtinsNs mb) (hbt : ∀ x : Str, x ≠ "__name__" → mb x = bootBuiltins x) (hlim : s₁.heap.NoLimit)
  {A : Addr} {vs : List Value} {ns : List Int} (hL : s₁.heap.get? A = some (W.listOf vs.toArray 0)) (hA : (A == sysModules) = false) (hI : IntsAre vs ns) (hlen : ns.length ≤ lim) {ps : List ((Str × Int) × Nat)} {nw : Nat} (hW : s₁.heap.get? W₀ = some (dictOf (ps.map (wEnt w.params)) nw)) (hWd : (ps.map fun p => V.str p.1.1).Nodup) (hWl : ps.length ≤ lim) (hW1 : mainGlobals ≠ W₀ ∧ builtinsNs ≠ W₀ ∧ cStatics ≠ W₀ ∧ (W₀ == sysModules) = false) {fuel d : Nat} (hd : d ≤ 50) {σ' : H}
  (hrun : run P fuel (d + 1) false lid [.ref 0] [.list (ns.map .int), .dict (ps.map fun p => (V.str p.1.1, V.int p.1.2))] = some (.ok (.bool true), σ')) {R : Result → Shared → Prop}
  (hR : ∀ h' tk, (∀ b o, s₁.heap.get? b = some o → h'.get? b = some o) → R (.ok (.ret (.bool true))) { s₁ with heap := h', toks := tk }) :
  codeAny (model prog w) callerA (.call (.ref fa) ⟨[.ref A], []⟩) R s₁ := by
 let S : Sig := mkSig prog w K T P clsL fnL meL exL xP [(A, W.listOf vs.toArray 0), (W₀, dictOf (ps.map (wEnt w.params)) nw)]
 have OK : SigOK S := top_ok (wA := W₀) rfl hT
 have hAW : A ≠ W₀ := fun q => by
  rw [q, hW] at hL
  have e : Value.type "dict" = Value.type "list" := congrArg Obj.cls (Option.some.inj hL)
  exact absurd e (by decide)
 have FA : FnAll S := funs_ok hF
 have HC : CallsOK S (run P fuel d) (5 * d) := run_ok (S := S) OK FA fuel d
 obtain ⟨fd, hfd, fo, name, qual, params, body, scope, dV, kV, doc, pm, an, cdv, ct, names, O⟩ := FA.1 lid fa hfa
 have e : run P fuel (d + 1) false lid [.ref 0] [.list (ns.map .int), .dict (ps.map fun p => (V.str p.1.1, V.int p.1.2))] = (match P.funs.lookup lid with
    | none => none
    | some fd => if [V.ref 0].length = fd.params.length then
      match exs P (run P fuel d) fuel fd.body ((fd.params.zip [V.ref 0]).foldl (fun l p => l.upd p.1 p.2) (fun _ => none)) [.list (ns.map .int), .dict (ps.map fun p => (V.str p.1.1, V.int p.1.2))] with
      | none => none
      | some (.err c, _, h₁) => some (.err c, h₁)
      | some (.ok r, _, h₁) => some (.ok (r.getD .none), h₁)
     else none) := rfl
 rw [e, hfd] at hrun
 dsimp only at hrun
 split at hrun
 ·rename_i hpl
  cases hb : exs P (run P fuel d) fuel fd.body ((fd.params.zip [V.ref 0]).foldl (fun l p => l.upd p.1 p.2) (fun _ => none)) [.list (ns.map .int), .dict (ps.map fun p => (V.str p.1.1, V.int p.1.2))] with
  | none => rw [hb] at hrun; cases hrun
  | some p =>
   obtain ⟨rr, loc', σ₁⟩ := p
   rw [hb] at hrun
   cases rr with
   | err q => cases hrun
   | ok ov =>
    simp only [Option.some.injEq, Prod.mk.injEq, Mine.Internal.R.ok.injEq] at hrun
    obtain ⟨hov, rfl⟩ := hrun
    have hov : ov = some (.bool true) := by
     cases ov with
     | none => cases hov
     | some v => exact congrArg some hov
    subst hov
    have hl1 := O.pars.length
    have hvl : [Value.ref A].length = names.length := by rw [← hl1, ← hpl]; rfl
    refine codeAny_call_function (by decide) (KX _ _ O.look) O.data O.co O.gen rfl (codeRec_of KX O.code) (BindsTo.of_eq (s := s₁) (O.bind [.ref A] hvl) _ _ _ _ ?_)
    refine wpAny_newFunctionEnv_cells O.kind (fun x hx => ?_) fun env' he s' x => ?_
    ·have hm : x.1 ∈ names := by rw [← zip_map_fst hvl]; exact List.mem_map_of_mem hx
     have hst := O.stor x.1 hm
     unfold storable at hst
     split at hst
     ·rename_i e; exact .inl e
     ·rename_i e
      refine .inr ⟨e, ?_⟩
      obtain ⟨a, ha⟩ := lookup_of_mem (cellsFrom_has scope.names (s₁.heap.objs.size + 1) [] (.inl (PySem.mem_of_lookup e)))
      rw [ha]; rfl
     ·cases hst
    ·have he' : env' = envOfC qual scope s₁.heap.objs.size fa cdv := he
     subst he'
     refine ⟨hlim.keeps x.toInCall.keep, codeAny_func ?_⟩
     obtain ⟨h₁, tk, rfl, hk₁⟩ := x.done
     have g1 := ns_hide hmg hL hW1.1
     have g2 := ns_hide hmb hL hW1.2.1
     obtain ⟨mc, hc1, hc2⟩ := hlim
     have g3 := ns_hide hc1 hL hW1.2.2.1
     have hlt := Heap.lt_size hL
     have hltW := Heap.lt_size hW
     have hv0 : VR (adr [(A, W.listOf vs.toArray 0), (W₀, dictOf (ps.map (wEnt w.params)) nw)]) (.ref 0) (.ref A) := ⟨A, rfl, rfl⟩
     have lE : Led S (hideAll s₁.heap [A, W₀]) s₁.heap.objs.size (bindL (envOfC qual scope s₁.heap.objs.size fa cdv).kindOf (names.zip [.ref A]) fun _ => none) [] [] [(A, W.listOf vs.toArray 0), (W₀, dictOf (ps.map (wEnt w.params)) nw)] [.list (ns.map .int), .dict (ps.map fun p => (V.str p.1.1, V.int p.1.2))] h₁ := by
      refine ⟨⟨x.toInCall.ns, fun b o q => hk₁ b o (of_hideAll _ q), Nat.le_of_eq (hideAll_size _ _)⟩, fun p hp => ?_, ?_, .cons ⟨vs, 0, rfl, ints_vr hI, by simpa using hlen⟩ (.one (words_of (S := S) ps hWd hWl)), (fun f hf => nomatch hf), ?_, fun b hb => ?_, List.prefix_rfl, by show 2 ≤ P.nf; rw [hnf]; exact Nat.le_refl _⟩
      ·simp only [List.nil_append, List.mem_cons, List.not_mem_nil, or_false] at hp
       rcases hp with rfl | rfl
       ·exact ⟨hk₁ _ _ hL, Nat.ne_of_lt hlt, hideAll_none _ (.head _)⟩
       ·exact ⟨hk₁ _ _ hW, Nat.ne_of_lt hltW, hideAll_none _ (.tail _ (.head _))⟩
      ·show [A, W₀].Nodup
       simpa using hAW
      ·obtain ⟨o, _, _, q, _⟩ := g1; exact ⟨o, q⟩
      ·have hb : b ∈ [A, W₀] := hb
       simp only [List.mem_cons, List.not_mem_nil, or_false] at hb
       rcases hb with rfl | rfl
       ·exact hA
       ·exact hW1.2.2.2
     refine body_ok (S := S) OK HC fuel O (s := { s₁ with heap := h₁, toks := tk }) (Ar := callerA.deeper (envOfC qual scope s₁.heap.objs.size fa cdv)) (fun m cs => ?_) ⟨[], rfl⟩ hpl (.one hv0) lE x.cell x.apart (fun nm a hm => ?_) hb (fun m' os' h' tk' k l' o ho f hf => ?_) fun _ _ _ _ _ _ _ q hq => nomatch hq
     ·refine ⟨⟨?_, ?_, fun a o q => ?_, ⟨mg, mb, g1, g2, hbt⟩, ⟨mc, g3, hc2⟩, O.kind, rfl, rfl, rfl, ⟨_, rfl, fun e he => ?_⟩, ⟨_, [], _, rfl, rfl, rfl⟩⟩, rfl⟩
      ·show 4 + 3 + 2 * (5 * d + 2) + 200 < 9900; lia
      ·show 1 + 300 + 1 + (5 * d + 2) < 1000; lia
      ·refine hideAll_get _ (KX a o q) ?_
       simp only [List.mem_cons, List.not_mem_nil, or_false, not_or]
       refine ⟨fun qq => ?_, fun qq => ?_⟩
       ·subst qq
        have := KX _ _ q
        rw [hL] at this; cases this
        exact noList_of hN q rfl
       ·subst qq; rw [hKW] at q; cases q
      ·obtain rfl := List.mem_singleton.mp he
       exact ⟨by rw [show (envOfC qual scope s₁.heap.objs.size fa cdv).scope.kind = .function from O.kind]; exact nofun, _, rfl, .head _⟩
     ·have hlt' : s₁.heap.objs.size < a := x.above nm a hm
      refine ⟨hlt', fun p hp => ?_, (fun f hf => nomatch hf)⟩
      simp only [List.nil_append, List.mem_cons, List.not_mem_nil, or_false] at hp
      rcases hp with rfl | rfl
      ·exact Nat.lt_trans hlt hlt'
      ·exact Nat.lt_trans hltW hlt'
     ·cases ho
      obtain ⟨a, rfl, ha⟩ := hf
      cases ha
      refine hR h' tk' fun b ob q => ?_
      obtain ⟨t, ht⟩ := l'.frz.1
      by_cases hbA : b = A
      ·subst hbA
       have hm : (b, W.listOf vs.toArray 0) ∈ os' := by rw [← ht]; exact List.mem_append_left _ (.head _)
       rw [hL] at q; cases q
       exact (l'.news _ hm).1
      ·by_cases hbW : b = W₀
       ·subst hbW
        have hm : (b, dictOf (ps.map (wEnt w.params)) nw) ∈ os' := by rw [← ht]; exact List.mem_append_left _ (.tail _ (.head _))
        rw [hW] at q; cases q
        exact (l'.news _ hm).1
       ·exact l'.fr.keep b ob (hideAll_get _ q (by simp only [List.mem_cons, List.not_mem_nil, or_false, not_or]; exact ⟨hbA, hbW⟩))
 ·cases hrun
end Mine.Internal
set_option autoImplicit false
namespace Mine.Internal.L05
open PySem Mine.Internal
noncomputable def f_shown_1 : Sts := .cons (.ret (.meth (.cstr (.ofString " ")) 11 (.cons (.comp (.bi .str (.cons (.loc 191) .nil)) [191] false (.loc 119) .nil) .nil))) .nil
noncomputable def f_shown : FD := ⟨[119], f_shown_1⟩
noncomputable def f_number_of_4 : Sts := .cons (.ret (.bi .int (.cons (.loc 113) .nil))) .nil
noncomputable def f_number_of_3f_1a_1 : Sts := .cons (.rais 97 (.ofString "no number")) .nil
noncomputable def f_number_of_3f_1 : Sts := .cons (.ite (.cmp .NotIn (.loc 114) (.cstr (.ofString "0123456789"))) f_number_of_3f_1a_1 .nil) .nil
noncomputable def f_number_of_3 : Sts := .cons (.for [114] false (.loc 113) f_number_of_3f_1) f_number_of_4
noncomputable def f_number_of_2a_1 : Sts := .cons (.rais 97 (.ofString "no number")) .nil
noncomputable def f_number_of_2 : Sts := .cons (.ite (.band (.cons (.cmp .Eq (.sub (.loc 113) (.cint 0)) (.cstr (.ofString "0"))) (.cons (.cmp .NotEq (.loc 113) (.cstr (.ofString "0"))) .nil))) f_number_of_2a_1 .nil) f_number_of_3
noncomputable def f_number_of_1a_1 : Sts := .cons (.rais 97 (.ofString "no number")) .nil
noncomputable def f_number_of_1 : Sts := .cons (.ite (.not (.cmp2 .LtE .LtE (.cint 1) (.bi .len (.cons (.loc 113) .nil)) (.glo 111))) f_number_of_1a_1 .nil) f_number_of_2
noncomputable def f_number_of : FD := ⟨[113], f_number_of_1⟩
noncomputable def f_read_3 : Sts := .cons (.ret (.bi .tuple (.cons (.bin .Add (.list (.cons (.sub (.loc 117) (.cint 0)) .nil)) (.comp (.call 112 (.cons (.loc 113) .nil)) [113] false (.slice (.loc 117) (.cint 1) .cnone) .nil)) .nil))) .nil
noncomputable def f_read_2a_1 : Sts := .cons (.rais 97 (.ofString "no deed")) .nil
noncomputable def f_read_2 : Sts := .cons (.ite (.bor (.cons (.cmp .NotIn (.sub (.loc 117) (.cint 0)) (.glo 110)) (.cons (.cmp .NotEq (.bin .Sub (.bi .len (.cons (.loc 117) .nil)) (.cint 1)) (.sub (.glo 110) (.sub (.loc 117) (.cint 0)))) .nil))) f_read_2a_1 .nil) f_read_3
noncomputable def f_read_1 : Sts := .cons (.asg (.var 117) (.meth (.loc 116) 10 (.cons (.cstr (.ofString " ")) .nil))) f_read_2
noncomputable def f_read : FD := ⟨[116], f_read_1⟩
noncomputable def f__law_whole_1 : Sts := .cons (.ret (.band (.cons (.isi (.loc 67) [0]) (.cons (.not (.isi (.loc 67) [1])) .nil)))) .nil
noncomputable def f__law_whole : FD := ⟨[67], f__law_whole_1⟩
noncomputable def f__law_cell_at_2 : Sts := .cons (.ret (.cint 0)) .nil
noncomputable def f__law_cell_at_1a_1 : Sts := .cons (.ret (.sub (.loc 70) (.loc 71))) .nil
noncomputable def f__law_cell_at_1 : Sts := .cons (.ite (.cmp .Lt (.loc 71) (.bi .len (.cons (.loc 70) .nil))) f__law_cell_at_1a_1 .nil) f__law_cell_at_2
noncomputable def f__law_cell_at : FD := ⟨[70, 71], f__law_cell_at_1⟩
noncomputable def f__law_numbers_3 : Sts := .cons (.ret (.cbool true)) .nil
noncomputable def f__law_numbers_2f_1a_1 : Sts := .cons (.ite (.cmp .IsNot (.sub (.loc 67) (.loc 71)) .cnone) .any .nil) .nil
noncomputable def f__law_numbers_2f_1b_1 : Sts := .cons (.ite (.bor (.cons (.not (.call 66 (.cons (.sub (.loc 67) (.loc 71)) .nil))) (.cons (.cmp .NotEq (.sub (.loc 67) (.loc 71)) (.sub (.loc 73) (.loc 71))) .nil))) .any .nil) .nil
noncomputable def f__law_numbers_2f_1 : Sts := .cons (.ite (.cmp .Is (.sub (.loc 73) (.loc 71)) .cnone) f__law_numbers_2f_1a_1 f__law_numbers_2f_1b_1) .nil
noncomputable def f__law_numbers_2 : Sts := .cons (.for [71] false (.bi .range (.cons (.bi .len (.cons (.loc 73) .nil)) .nil)) f__law_numbers_2f_1) f__law_numbers_3
noncomputable def f__law_numbers_1 : Sts := .cons (.ite (.bor (.cons (.not (.isi (.loc 67) [2])) (.cons (.cmp .NotEq (.bi .len (.cons (.loc 67) .nil)) (.bi .len (.cons (.loc 73) .nil))) .nil))) .any .nil) f__law_numbers_2
noncomputable def f__law_numbers : FD := ⟨[67, 73], f__law_numbers_1⟩
noncomputable def f__law_many_3 : Sts := .cons (.ret (.neg (.cint 1))) .nil
noncomputable def f__law_many_2f_1a_1 : Sts := .cons (.ret (.loc 194)) .nil
noncomputable def f__law_many_2f_1 : Sts := .cons (.ite (.cmp .Eq (.loc 193) (.loc 134)) f__law_many_2f_1a_1 .nil) .nil
noncomputable def f__law_many_2 : Sts := .cons (.for [193, 194] true (.loc 192) f__law_many_2f_1) f__law_many_3
noncomputable def f__law_many_1 : Sts := .cons (.asg (.var 192) (.list (.cons (.tup (.cons (.cstr (.ofString "make")) (.cons (.cint 2) .nil))) (.cons (.tup (.cons (.cstr (.ofString "hold")) (.cons (.cint 2) .nil))) (.cons (.tup (.cons (.cstr (.ofString "drop")) (.cons (.cint 1) .nil))) (.cons (.tup (.cons (.cstr (.ofString "put")) (.cons (.cint 3) .nil))) (.cons (.tup (.cons (.cstr (.ofString "empty")) (.cons (.cint 2) .nil))) (.cons (.tup (.cons (.cstr (.ofString "take")) (.cons (.cint 3) .nil))) (.cons (.tup (.cons (.cstr (.ofString "tidy")) (.cons (.cint 0) .nil))) .nil))))))))) f__law_many_2
noncomputable def f__law_many : FD := ⟨[134], f__law_many_1⟩
noncomputable def f__law_number_3 : Sts := .cons (.ret (.bi .int (.cons (.loc 134) .nil))) .nil
noncomputable def f__law_number_2f_1a_1 : Sts := .cons (.ret (.neg (.cint 1))) .nil
noncomputable def f__law_number_2f_1 : Sts := .cons (.ite (.cmp .NotIn (.loc 195) (.cstr (.ofString "0123456789"))) f__law_number_2f_1a_1 .nil) .nil
noncomputable def f__law_number_2 : Sts := .cons (.for [195] false (.loc 134) f__law_number_2f_1) f__law_number_3
noncomputable def f__law_number_1a_1 : Sts := .cons (.ret (.neg (.cint 1))) .nil
noncomputable def f__law_number_1 : Sts := .cons (.ite (.bor (.cons (.cmp .Eq (.loc 134) (.cstr (.ofString ""))) (.cons (.cmp .Gt (.bi .len (.cons (.loc 134) .nil)) (.cint 60)) (.cons (.band (.cons (.cmp .Gt (.bi .len (.cons (.loc 134) .nil)) (.cint 1)) (.cons (.cmp .Eq (.sub (.loc 134) (.cint 0)) (.cstr (.ofString "0"))) .nil))) .nil)))) f__law_number_1a_1 .nil) f__law_number_2
noncomputable def f__law_number : FD := ⟨[134], f__law_number_1⟩
noncomputable def f__law_due_of_5 : Sts := .cons (.ret (.bi .tuple (.cons (.bin .Add (.list (.cons (.sub (.loc 133) (.cint 0)) .nil)) (.loc 159)) .nil))) .nil
noncomputable def f__law_due_of_4a_1 : Sts := .cons (.ret .cnone) .nil
noncomputable def f__law_due_of_4 : Sts := .cons (.ite (.bor (.cons (.cmp .NotEq (.bi .len (.cons (.loc 159) .nil)) (.call 90 (.cons (.sub (.loc 133) (.cint 0)) .nil))) (.cons (.cmp .In (.neg (.cint 1)) (.loc 159)) .nil))) f__law_due_of_4a_1 .nil) f__law_due_of_5
noncomputable def f__law_due_of_3 : Sts := .cons (.asg (.var 159) (.comp (.call 78 (.cons (.loc 134) .nil)) [134] false (.slice (.loc 133) (.cint 1) .cnone) .nil)) f__law_due_of_4
noncomputable def f__law_due_of_2f_1a_1 : Sts := .cons (.expr (.meth (.loc 133) 6 (.cons (.cstr (.ofString "")) .nil))) .nil
noncomputable def f__law_due_of_2f_1b_1 : Sts := .cons (.asg (.sub (.loc 133) (.neg (.cint 1))) (.bin .Add (.sub (.loc 133) (.neg (.cint 1))) (.loc 195))) .nil
noncomputable def f__law_due_of_2f_1 : Sts := .cons (.ite (.cmp .Eq (.loc 195) (.cstr (.ofString " "))) f__law_due_of_2f_1a_1 f__law_due_of_2f_1b_1) .nil
noncomputable def f__law_due_of_2 : Sts := .cons (.for [195] false (.loc 197) f__law_due_of_2f_1) f__law_due_of_3
noncomputable def f__law_due_of_1 : Sts := .cons (.asg (.var 133) (.list (.cons (.cstr (.ofString "")) .nil))) f__law_due_of_2
noncomputable def f__law_due_of : FD := ⟨[197], f__law_due_of_1⟩
noncomputable def f__law_alike_2 : Sts := .cons (.ret (.call 72 (.cons (.bi .list (.cons (.slice (.loc 67) (.cint 1) .cnone) .nil)) (.cons (.bi .list (.cons (.slice (.loc 73) (.cint 1) .cnone) .nil)) .nil)))) .nil
noncomputable def f__law_alike_1 : Sts := .cons (.ite (.bor (.cons (.not (.isi (.loc 67) [3])) (.cons (.not (.isi (.sub (.loc 67) (.cint 0)) [4])) (.cons (.cmp .NotEq (.sub (.loc 67) (.cint 0)) (.sub (.loc 73) (.cint 0))) .nil)))) .any .nil) f__law_alike_2
noncomputable def f__law_alike : FD := ⟨[67, 73], f__law_alike_1⟩
noncomputable def f__law_odd_line_4 : Sts := .cons (.ret (.sub (.loc 144) (.bin .Mod (.loc 94) (.cint 20)))) .nil
noncomputable def f__law_odd_line_3 : Sts := .cons (.asg (.var 144) (.bin .Add (.loc 144) (.list (.cons (.cstr (.ofString "drop +1")) (.cons (.cstr (.ofString "drop 01")) (.cons (.cstr (.ofString "hold 1,2")) (.cons (.cstr (.ofString "put 1 2")) (.cons (.cstr (.ofString "empty 1 2 ")) (.cons (.cstr (.ofString "take 1 2 x")) (.cons (.cstr (.ofString "drop 1.")) (.cons (.cstr (.ofString "   ")) .nil))))))))))) f__law_odd_line_4
noncomputable def f__law_odd_line_2 : Sts := .cons (.expr (.meth (.loc 144) 6 (.cons (.cstr (.ofString "drop -1")) .nil))) f__law_odd_line_3
noncomputable def f__law_odd_line_1 : Sts := .cons (.asg (.var 144) (.list (.cons (.cstr (.ofString "")) (.cons (.cstr (.ofString " ")) (.cons (.cstr (.ofString "tidy ")) (.cons (.cstr (.ofString " tidy")) (.cons (.cstr (.ofString "Tidy")) (.cons (.cstr (.ofString "tidy 0")) (.cons (.cstr (.ofString "make")) (.cons (.cstr (.ofString "make 1")) (.cons (.cstr (.ofString "make 1 2 3")) (.cons (.cstr (.ofString "make  1 2")) (.cons (.cstr (.ofString "MAKE 1 2")) .nil))))))))))))) f__law_odd_line_2
noncomputable def f__law_odd_line : FD := ⟨[94], f__law_odd_line_1⟩
noncomputable def f__law_refused_2 : Sts := .cons (.ret (.cbool false)) .nil
noncomputable def f__law_refused_1t_1 : Sts := .cons (.expr (.call 115 (.cons (.loc 197) .nil))) .nil
noncomputable def f__law_refused_1 : Sts := .cons (.try f__law_refused_1t_1 [(97, (.cbool true))]) f__law_refused_2
noncomputable def f__law_refused : FD := ⟨[197], f__law_refused_1⟩
noncomputable def f__law_refused_by_all_1t_1 : Sts := .cons (.expr (.call 115 (.cons (.loc 197) .nil))) .nil
noncomputable def f__law_refused_by_all_1 : Sts := .cons (.tryE f__law_refused_by_all_1t_1 16 143 [17, 18, 19, 20, 85] 97) .any
noncomputable def f__law_refused_by_all : FD := ⟨[197], f__law_refused_by_all_1⟩
noncomputable def f__law_line_by_9 : Sts := .cons (.ret (.loc 197)) .nil
noncomputable def f__law_line_by_8a_1 : Sts := .cons (.rrep 197 (.ofString " ") [(.ofString " 0"), (.ofString "  "), (.ofString " -")] (.bin .Mod (.loc 94) (.cint 3)) (.bin .Add (.cint 1) (.bin .Mod (.bin .FloorDiv (.loc 94) (.cint 3)) (.cint 2)))) .nil
noncomputable def f__law_line_by_8 : Sts := .cons (.ite (.cmp .Eq (.loc 160) (.cint 4)) f__law_line_by_8a_1 .nil) f__law_line_by_9
noncomputable def f__law_line_by_7a_1 : Sts := .cons (.ret (.bin .Add (.bin .Add (.slice (.loc 197) .cnone (.loc 167)) (.loc 195)) (.slice (.loc 197) (.bin .Add (.loc 167) (.cint 1)) .cnone))) .nil
noncomputable def f__law_line_by_7 : Sts := .cons (.ite (.cmp .Eq (.loc 160) (.cint 3)) f__law_line_by_7a_1 .nil) f__law_line_by_8
noncomputable def f__law_line_by_6a_1 : Sts := .cons (.ret (.bin .Add (.slice (.loc 197) .cnone (.loc 167)) (.slice (.loc 197) (.bin .Add (.loc 167) (.cint 1)) .cnone))) .nil
noncomputable def f__law_line_by_6 : Sts := .cons (.ite (.cmp .Eq (.loc 160) (.cint 2)) f__law_line_by_6a_1 .nil) f__law_line_by_7
noncomputable def f__law_line_by_5a_2 : Sts := .cons (.ret (.bin .Add (.bin .Add (.slice (.loc 197) .cnone (.loc 167)) (.loc 195)) (.slice (.loc 197) (.loc 167) .cnone))) .nil
noncomputable def f__law_line_by_5a_1 : Sts := .cons (.asg (.var 167) (.bin .Mod (.bin .FloorDiv (.loc 94) (.cint 94)) (.bin .Add (.bi .len (.cons (.loc 197) .nil)) (.cint 1)))) f__law_line_by_5a_2
noncomputable def f__law_line_by_5 : Sts := .cons (.ite (.cmp .Eq (.loc 160) (.cint 1)) f__law_line_by_5a_1 .nil) f__law_line_by_6
noncomputable def f__law_line_by_4a_1 : Sts := .cons (.ret (.call 199 (.cons (.loc 94) .nil))) .nil
noncomputable def f__law_line_by_4 : Sts := .cons (.ite (.cmp .Eq (.loc 160) (.cint 0)) f__law_line_by_4a_1 .nil) f__law_line_by_5
noncomputable def f__law_line_by_3 : Sts := .cons (.asg (.var 167) (.bin .Mod (.bin .FloorDiv (.loc 94) (.cint 94)) (.bi .len (.cons (.loc 197) .nil)))) f__law_line_by_4
noncomputable def f__law_line_by_2 : Sts := .cons (.asg (.var 195) (.sub (.loc 144) (.bin .Mod (.loc 94) (.cint 94)))) f__law_line_by_3
noncomputable def f__law_line_by_1 : Sts := .ctok 144 (.ofString " !\"#$&'()*+,-./0123456789:;<=>?@ABCDEFGHIJKLMNOPQRSTUVWXYZ[\\]^_`abcdefghijklmnopqrstuvwxyz{|}~") f__law_line_by_2
noncomputable def f__law_line_by : FD := ⟨[197, 160, 94], f__law_line_by_1⟩
noncomputable def f_law_12 : Sts := .cons (.ret (.band (.cons (.not (.call 200 (.cons (.loc 197) .nil))) (.cons (.call 198 (.cons (.call 115 (.cons (.loc 197) .nil)) (.cons (.loc 73) .nil))) .nil)))) .nil
noncomputable def f_law_11a_1 : Sts := .cons (.ret (.band (.cons (.call 200 (.cons (.loc 197) .nil)) (.cons (.call 201 (.cons (.loc 197) .nil)) .nil)))) .nil
noncomputable def f_law_11 : Sts := .cons (.ite (.cmp .Is (.loc 73) .cnone) f_law_11a_1 .nil) f_law_12
noncomputable def f_law_10 : Sts := .cons (.asg (.var 73) (.call 196 (.cons (.loc 197) .nil))) f_law_11
noncomputable def f_law_9 : Sts := .cons (.asg (.var 197) (.call 202 (.cons (.loc 197) (.cons (.bin .Mod (.bin .FloorDiv (.call 69 (.cons (.loc 70) (.cons (.cint 1) .nil))) (.cint 3)) (.cint 6)) (.cons (.call 69 (.cons (.loc 70) (.cons (.cint 5) .nil))) .nil))))) f_law_10
noncomputable def f_law_8 : Sts := .cons (.ite (.bor (.cons (.not (.isi (.loc 153) [4])) (.cons (.cmp .NotEq (.loc 153) (.loc 197)) (.cons (.not (.call 198 (.cons (.call 115 (.cons (.loc 153) .nil)) (.cons (.loc 87) .nil)))) .nil)))) .any .nil) f_law_9
noncomputable def f_law_7 : Sts := .cons (.asg (.var 153) (.call 190 (.cons (.loc 87) .nil))) f_law_8
noncomputable def f_law_6 : Sts := .cons (.asg (.var 197) (.meth (.cstr (.ofString " ")) 11 (.cons (.bin .Add (.list (.cons (.loc 134) .nil)) (.comp (.bi .str (.cons (.loc 204) .nil)) [204] false (.loc 159) .nil)) .nil))) f_law_7
noncomputable def f_law_5 : Sts := .cons (.asg (.var 87) (.bi .tuple (.cons (.bin .Add (.list (.cons (.loc 134) .nil)) (.loc 159)) .nil))) f_law_6
noncomputable def f_law_4 : Sts := .cons (.asg (.var 159) (.comp (.bin .Mod (.call 69 (.cons (.loc 70) (.cons (.bin .Add (.cint 2) (.loc 71)) .nil))) (.loc 203)) [71] false (.bi .range (.cons (.call 90 (.cons (.loc 134) .nil)) .nil)) .nil)) f_law_5
noncomputable def f_law_3a_1 : Sts := .cons (.asg (.var 203) (.bin .Pow (.cint 10) (.cint 60))) .nil
noncomputable def f_law_3 : Sts := .cons (.ite (.cmp .Eq (.bin .Mod (.call 69 (.cons (.loc 70) (.cons (.cint 1) .nil))) (.cint 3)) (.cint 1)) f_law_3a_1 .nil) f_law_4
noncomputable def f_law_2 : Sts := .cons (.asg (.var 203) (.cint 10)) f_law_3
noncomputable def f_law_1 : Sts := .cons (.asg (.var 134) (.sub (.list (.cons (.cstr (.ofString "make")) (.cons (.cstr (.ofString "hold")) (.cons (.cstr (.ofString "drop")) (.cons (.cstr (.ofString "put")) (.cons (.cstr (.ofString "empty")) (.cons (.cstr (.ofString "take")) (.cons (.cstr (.ofString "tidy")) .nil)))))))) (.bin .Mod (.call 69 (.cons (.loc 70) (.cons (.cint 0) .nil))) (.cint 7)))) f_law_2
noncomputable def f_law : FD := ⟨[70], f_law_1⟩
noncomputable def words : List (V × V) := [(.str (.ofString "make"), .int 2), (.str (.ofString "hold"), .int 2), (.str (.ofString "drop"), .int 1), (.str (.ofString "put"), .int 3), (.str (.ofString "empty"), .int 2), (.str (.ofString "take"), .int 3), (.str (.ofString "tidy"), .int 0)]
noncomputable def prog : Prog := { funs := [(190, f_shown), (112, f_number_of), (115, f_read), (66, f__law_whole), (69, f__law_cell_at), (72, f__law_numbers), (90, f__law_many), (78, f__law_number), (196, f__law_due_of), (198, f__law_alike), (199, f__law_odd_line), (200, f__law_refused), (201, f__law_refused_by_all), (202, f__law_line_by), (74, f_law)], meths := [], globs := [(111, .int 60), (110, .ref 1)], init := 25, attrs := [], nf := 2, xb := 16 }
noncomputable def T05 : List Str := [Str.ofString "int", Str.ofString "bool", Str.ofString "list", Str.ofString "tuple", Str.ofString "str", Str.ofString "ValueError", Str.ofString "append", Str.ofString "pop", Str.ofString "clear", Str.ofString "remove", Str.ofString "split", Str.ofString "join", Str.ofString "replace", Str.ofString "_wall", Str.ofString "k", Str.ofString "__name__", Str.ofString "PileError", Str.ofString "NoHand", Str.ofString "NoSize", Str.ofString "Full", Str.ofString "NoBox", Str.ofString "HANDS", Str.ofString "MOST_SLOTS", Str.ofString "MOST_ALIVE", Str.ofString "Pile", Str.ofString "__init__", Str.ofString "need_hand", Str.ofString "need_box", Str.ofString "box_with_slot", Str.ofString "counted", Str.ofString "let_go", Str.ofString "lighter", Str.ofString "handed", Str.ofString "pointed", Str.ofString "make", Str.ofString "hold", Str.ofString "drop", Str.ofString "put", Str.ofString "empty", Str.ofString "take", Str.ofString "swept", Str.ofString "holds", Str.ofString "points", Str.ofString "weighs", Str.ofString "alive", Str.ofString "suspects", Str.ofString "self", Str.ofString "in_hands", Str.ofString "boxes", Str.ofString "weights", Str.ofString "doubted", Str.ofString "made", Str.ofString "hand", Str.ofString "number", Str.ofString "slot", Str.ofString "freed", Str.ofString "at", Str.ofString "old", Str.ofString "box", Str.ofString "size", Str.ofString "other", Str.ofString "numbers", Str.ofString "slots", Str.ofString "sorted", Str.ofString "len", Str.ofString "range", Str.ofString "_law_whole", Str.ofString "_law_found", Str.ofString "isinstance", Str.ofString "_law_cell_at", Str.ofString "_law_script", Str.ofString "_law_k", Str.ofString "_law_numbers", Str.ofString "_law_due", Str.ofString "law", Str.ofString "_law_pile", Str.ofString "_law_hands", Str.ofString "_law_begin", Str.ofString "_law_number", Str.ofString "_law_hand", Str.ofString "_law_size", Str.ofString "_law_freed", Str.ofString "min", Str.ofString "_law_one", Str.ofString "_law_held", Str.ofString "NoSlot", Str.ofString "_law_done", Str.ofString "_law_deed", Str.ofString "_law_pointers", Str.ofString "_law_rooms", Str.ofString "_law_many", Str.ofString "_law_room", Str.ofString "_law_other", Str.ofString "_law_stands", Str.ofString "_law_cell", Str.ofString "_law_which", Str.ofString "_law_slot", Str.ofString "NoDeed", Str.ofString "gone", Str.ofString "reached", Str.ofString "pile", Str.ofString "found", Str.ofString "waiting", Str.ofString "trials", Str.ofString "looked", Str.ofString "left", Str.ofString "tidy", Str.ofString "rows", Str.ofString "kept", Str.ofString "row", Str.ofString "WORDS", Str.ofString "MOST_FIGURES", Str.ofString "number_of", Str.ofString "word", Str.ofString "sign", Str.ofString "read", Str.ofString "line", Str.ofString "parts", Str.ofString "done", Str.ofString "deed", Str.ofString "answer", Str.ofString "played", Str.ofString "lines", Str.ofString "way_to", Str.ofString "ways", Str.ofString "held", Str.ofString "led", Str.ofString "way", Str.ofString "here", Str.ofString "_law_due_here", Str.ofString "_law_deed_by", Str.ofString "_law_two", Str.ofString "_law_few", Str.ofString "_law_words", Str.ofString "_law_word", Str.ofString "_law_ring", Str.ofString "_law_closed", Str.ofString "_law_star", Str.ofString "_law_begun", Str.ofString "_law_first", Str.ofString "_law_seen", Str.ofString "_law_seen_here", Str.ofString "_law_word_of", Str.ofString "e", Str.ofString "_law_some", Str.ofString "_law_fits", Str.ofString "_law_hand_wrong", Str.ofString "_law_slot_due", Str.ofString "_law_led_due", Str.ofString "_law_alive", Str.ofString "_law_filled", Str.ofString "_law_full_told", Str.ofString "_law_lines", Str.ofString "_law_told", Str.ofString "_law_full_by", Str.ofString "_law_number_by", Str.ofString "_law_asked", Str.ofString "_law_cells", Str.ofString "_law_pick", Str.ofString "_law_numbers_here", Str.ofString "_law_way", Str.ofString "_law_good", Str.ofString "_law_turn", Str.ofString "max", Str.ofString "_law_closure", Str.ofString "_law_row", Str.ofString "_law_met", Str.ofString "_law_at", Str.ofString "_law_ring_deeds", Str.ofString "_law_deeds_here", Str.ofString "_law_star_deeds", Str.ofString "_law_deeds", Str.ofString "_law_most", Str.ofString "_law_near", Str.ofString "zip", Str.ofString "_law_held_by", Str.ofString "_law_made", Str.ofString "_law_doubts", Str.ofString "_law_kept", Str.ofString "_law_old", Str.ofString "_law_new", Str.ofString "set", Str.ofString "_law_built", Str.ofString "_law_keep", Str.ofString "_law_mine", Str.ofString "_law_weights", Str.ofString "_law_weights_here", Str.ofString "_law_fallen", Str.ofString "_law_waiting", Str.ofString "_law_top", Str.ofString "shown", Str.ofString "part", Str.ofString "_law_forms", Str.ofString "_law_name", Str.ofString "_law_many_here", Str.ofString "_law_sign", Str.ofString "_law_due_of", Str.ofString "_law_line", Str.ofString "_law_alike", Str.ofString "_law_odd_line", Str.ofString "_law_refused", Str.ofString "_law_refused_by_all", Str.ofString "_law_line_by", Str.ofString "_law_large", Str.ofString "_law_number_here", Str.ofString "_law_rising", Str.ofString "_law_right", Str.ofString "_law_held_here", Str.ofString "_law_copy", Str.ofString "_law_piles", Str.ofString "_law_led_there", Str.ofString "_law_behind", Str.ofString "come_to", Str.ofString "_law_pairs_due", Str.ofString "_law_looked", Str.ofString "_law_left", Str.ofString "_law_pairs", Str.ofString "_law_starts", Str.ofString "_law_handed", Str.ofString "_law_copies", Str.ofString "_law_steps", Str.ofString "_law_walked", Str.ofString "_law_further", Str.ofString "_law_there", Str.ofString "_law_slot_wrong", Str.ofString "_law_own", Str.ofString "_law_wrong", Str.ofString "_law_needed", Str.ofString "_law_word_here", Str.ofString "_law_fan_deeds", Str.ofString "_law_weight", Str.ofString "_law_tidied", Str.ofString "_law_gone", Str.ofString "_law_answer", Str.ofString "_law_wrong_here", Str.ofString "_law_called", Str.ofString "_law_error", Str.ofString "_law_done_so", Str.ofString "_law_own_here", Str.ofString "_law_told_here", Str.ofString "_law_others", Str.ofString "_law_odd"]
noncomputable def clsL : List (Nat × PySem.Addr) := []
noncomputable def fnL : List (Nat × PySem.Addr) := [(190, 105), (112, 112), (115, 117), (66, 124), (69, 131), (72, 138), (90, 145), (78, 152), (196, 157), (198, 164), (199, 171), (200, 178), (201, 185), (202, 192), (74, 197)]
noncomputable def meL : List (Nat × PySem.Addr) := []
noncomputable def exL : List (Nat × PySem.Addr) := [(16, 24), (17, 37), (18, 49), (19, 61), (20, 73), (85, 85), (97, 97)]
noncomputable def ps : List ((Str × Int) × Nat) := [((Str.ofString "make", 2), 305), ((Str.ofString "hold", 2), 307), ((Str.ofString "drop", 1), 309), ((Str.ofString "put", 3), 311), ((Str.ofString "empty", 2), 313), ((Str.ofString "take", 3), 315), ((Str.ofString "tidy", 0), 317)]
end Mine.Internal.L05
set_option autoImplicit false
namespace Mine.Internal
open PySem (Str PyData)
noncomputable def okR {α : Type} (Q : α → H → Prop) : Option (R α × H) → Prop
 | some (.ok a, σ) => Q a σ
 | _ => False
noncomputable def Ok {α : Type} (x : X α) (σ : H) (Q : α → H → Prop) : Prop := okR Q (x σ)
noncomputable def okL (Q : Option V → Loc → H → Prop) : Option (R (Option V) × Loc × H) → Prop
 | some (.ok a, l, σ) => Q a l σ
 | _ => False
noncomputable def OkS (x : Option (R (Option V) × Loc × H)) (Q : Option V → Loc → H → Prop) : Prop := okL Q x
theorem ok_iff {α : Type} {x : X α} {σ : H} {Q : α → H → Prop} : Ok x σ Q ↔ ∃ a σ', x σ = some (.ok a, σ') ∧ Q a σ' := by
 unfold Ok
 constructor
 ·intro h
  cases e : x σ with
  | none => rw [e] at h; exact h.elim
  | some p => obtain ⟨r, σ'⟩ := p; rw [e] at h; cases r with | ok a => exact ⟨a, σ', rfl, h⟩ | err c => exact h.elim
 ·rintro ⟨a, σ', h, q⟩; rw [h]; exact q
theorem oks_iff {x : Option (R (Option V) × Loc × H)} {Q : Option V → Loc → H → Prop} : OkS x Q ↔ ∃ r l σ', x = some (.ok r, l, σ') ∧ Q r l σ' := by
 unfold OkS
 constructor
 ·intro h
  cases x with
  | none => exact h.elim
  | some p => obtain ⟨r, l, σ'⟩ := p; cases r with | ok a => exact ⟨a, l, σ', rfl, h⟩ | err c => exact h.elim
 ·rintro ⟨a, l, σ', h, q⟩; rw [h]; exact q
noncomputable def bindK {α β : Type} (f : α → X β) (Q : β → H → Prop) : α → H → Prop := fun a σ => Ok (f a) σ Q
theorem qP {α β : Type} {f : α → X β} {Q : β → H → Prop} {a : α} {σ : H} : bindK f Q a σ = Ok (f a) σ Q := rfl
theorem qO {α β : Type} {x : X α} {f : α → X β} {σ : H} {Q : β → H → Prop} : Ok (X.bind x f) σ Q = Ok x σ (bindK f Q) := by
 unfold Ok X.bind
 cases x σ with
 | none => rfl
 | some p => obtain ⟨r, σ₁⟩ := p; cases r <;> rfl
theorem qQ {α β : Type} {a : α} {f : α → X β} : X.bind (X.pure a) f = f a := rfl
theorem qR {α β : Type} {a : α} {f : α → X β} : X.bind (X.lift (some a)) f = f a := rfl
theorem qS {α : Type} {a : α} {σ : H} {Q : α → H → Prop} : Ok (X.pure a) σ Q = Q a σ := rfl
theorem qT {α : Type} {a : α} {σ : H} {Q : α → H → Prop} : Ok (X.lift (some a)) σ Q = Q a σ := rfl
theorem ok_some {α : Type} {x : X α} {σ σ' : H} {a : α} {Q : α → H → Prop} (h : x σ = some (.ok a, σ')) : Ok x σ Q = Q a σ' := by unfold Ok; rw [h]; rfl
theorem zb {P : Prog} {C : Calls} {F : Nat} {loc : Loc} {σ : H} {Q : Option V → Loc → H → Prop} : OkS (exs P C F .nil loc σ) Q = Q none loc σ := rfl
noncomputable def andThen (P : Prog) (C : Calls) (F : Nat) (ss : Sts) (Q : Option V → Loc → H → Prop) : Option V → Loc → H → Prop := fun r l σ => match r with
 | none => OkS (exs P C F ss l σ) Q
 | some v => Q (some v) l σ
theorem qX {α β : Type} {a : α} {b : β} {l : List α} {r : List β} : (a :: l).zip (b :: r) = (a, b) :: l.zip r := rfl
theorem qY {α β : Type} {l : List α} : l.zip ([] : List β) = [] := List.zip_nil_right
theorem qZ {α β : Type} {l : List β} : ([] : List α).zip l = [] := rfl
theorem q0 {α β : Type} {f : β → α → β} {b : β} {a : α} {l : List α} : (a :: l).foldl f b = l.foldl f (f b a) := rfl
theorem q5 {α β : Type} {f : β → α → β} {b : β} : ([] : List α).foldl f b = b := rfl
theorem q6 : (false = true) = False := Bool.false_eq_true
theorem q7 : (¬False) = True := not_false_eq_true
theorem q8 : (¬True) = False := not_true_eq_false
theorem q9 : (!true) = false := rfl
theorem ya : (!false) = true := rfl
theorem za {P : Prog} {C : Calls} {F : Nat} {s : St} {ss : Sts} {loc : Loc} {σ : H} {Q : Option V → Loc → H → Prop} : OkS (exs P C F (.cons s ss) loc σ) Q = OkS (ex P C F s loc σ) (andThen P C F ss Q) := by
 show OkS (match ex P C F s loc σ with | some (.ok none, l₁, h₁) => exs P C F ss l₁ h₁ | r => r) Q = _
 cases ex P C F s loc σ with
 | none => rfl
 | some p =>
  obtain ⟨rr, l₁, σ₁⟩ := p
  cases rr with
  | err k => rfl
  | ok o => cases o <;> rfl
theorem zc {P : Prog} {C : Calls} {F : Nat} {ss : Sts} {Q : Option V → Loc → H → Prop} {l : Loc} {σ : H} : andThen P C F ss Q none l σ = OkS (exs P C F ss l σ) Q := rfl
theorem zd {P : Prog} {C : Calls} {F : Nat} {ss : Sts} {Q : Option V → Loc → H → Prop} {l : Loc} {σ : H} {v : V} : andThen P C F ss Q (some v) l σ = Q (some v) l σ := rfl
theorem oks_step {P : Prog} {C : Calls} {F : Nat} {t : Sts} {s : St} {ss : Sts} {loc : Loc} {σ : H} {Q : Option V → Loc → H → Prop} (h : t = .cons s ss) (k : OkS (ex P C F s loc σ) (andThen P C F ss Q)) : OkS (exs P C F t loc σ) Q := by
 subst h; exact za.mpr k
theorem then_step {P : Prog} {C : Calls} {F : Nat} {t : Sts} {s : St} {ss : Sts} {loc : Loc} {σ : H} {Q : Option V → Loc → H → Prop} (h : t = .cons s ss) (k : OkS (ex P C F s loc σ) (andThen P C F ss Q)) : andThen P C F t Q none loc σ := oks_step h k
noncomputable def onK {α : Type} (f : α → H → Option (R (Option V) × Loc × H)) (Q : Option V → Loc → H → Prop) : α → H → Prop := fun a σ => OkS (f a σ) Q
theorem oks_on {α : Type} {m : X α} {loc : Loc} {f : α → H → Option (R (Option V) × Loc × H)} {σ : H} {Q : Option V → Loc → H → Prop} : OkS (onX m loc f σ) Q = Ok m σ (onK f Q) := by
 unfold Ok onX
 cases m σ with
 | none => rfl
 | some p => obtain ⟨r, σ₁⟩ := p; cases r <;> rfl
theorem oks_some {r : Option V} {l : Loc} {σ : H} {Q : Option V → Loc → H → Prop} : OkS (some (.ok r, l, σ)) Q = Q r l σ := rfl
section
variable {P : Prog} {C : Calls} {F : Nat} {loc : Loc} {σ : H} {Q : Option V → Loc → H → Prop}
noncomputable def exprK {α : Type} (loc : Loc) (Q : Option V → Loc → H → Prop) : α → H → Prop := fun _ σ => Q none loc σ
theorem zg {α : Type} {a : α} : exprK loc Q a σ = Q none loc σ := rfl
theorem zf {e : Ex} : OkS (ex P C F (.expr e) loc σ) Q = Ok (ev P C e loc) σ (exprK loc Q) := oks_on
noncomputable def varK (i : Nat) (loc : Loc) (Q : Option V → Loc → H → Prop) : V → H → Prop := fun v σ => Q none (loc.upd i v) σ
theorem zi {i : Nat} {v : V} : varK i loc Q v σ = Q none (loc.upd i v) σ := rfl
theorem zh {i : Nat} {e : Ex} : OkS (ex P C F (.asg (.var i) e) loc σ) Q = Ok (ev P C e loc) σ (varK i loc Q) := oks_on
noncomputable def attrK2 (P : Prog) (n : Nat) (v : V) (loc : Loc) (Q : Option V → Loc → H → Prop) : V → H → Prop := fun ov σ => Ok (setAttr P ov n v) σ (exprK loc Q)
theorem zl {n : Nat} {v ov : V} : attrK2 P n v loc Q ov σ = Ok (setAttr P ov n v) σ (exprK loc Q) := rfl
noncomputable def attrK (P : Prog) (C : Calls) (o : Ex) (n : Nat) (loc : Loc) (Q : Option V → Loc → H → Prop) : V → H → Prop := fun v σ => Ok (ev P C o loc) σ (attrK2 P n v loc Q)
theorem zk {o : Ex} {n : Nat} {v : V} : attrK P C o n loc Q v σ = Ok (ev P C o loc) σ (attrK2 P n v loc Q) := rfl
theorem zj {o e : Ex} {n : Nat} : OkS (ex P C F (.asg (.attr o n) e) loc σ) Q = Ok (ev P C e loc) σ (attrK P C o n loc Q) := by
 refine oks_on.trans (congrArg _ ?_); funext v σ₁; refine oks_on.trans (congrArg _ ?_); funext ov σ₂; exact oks_on
noncomputable def subK3 (P : Prog) (ov v : V) (loc : Loc) (Q : Option V → Loc → H → Prop) : V → H → Prop := fun iv σ => Ok (setItem P ov iv v) σ (exprK loc Q)
theorem zp {ov v iv : V} : subK3 P ov v loc Q iv σ = Ok (setItem P ov iv v) σ (exprK loc Q) := rfl
noncomputable def subK2 (P : Prog) (C : Calls) (i : Ex) (v : V) (loc : Loc) (Q : Option V → Loc → H → Prop) : V → H → Prop := fun ov σ => Ok (ev P C i loc) σ (subK3 P ov v loc Q)
theorem zo {i : Ex} {v ov : V} : subK2 P C i v loc Q ov σ = Ok (ev P C i loc) σ (subK3 P ov v loc Q) := rfl
noncomputable def subK (P : Prog) (C : Calls) (o i : Ex) (loc : Loc) (Q : Option V → Loc → H → Prop) : V → H → Prop := fun v σ => Ok (ev P C o loc) σ (subK2 P C i v loc Q)
theorem zn {o i : Ex} {v : V} : subK P C o i loc Q v σ = Ok (ev P C o loc) σ (subK2 P C i v loc Q) := rfl
theorem zm {o i e : Ex} : OkS (ex P C F (.asg (.sub o i) e) loc σ) Q = Ok (ev P C e loc) σ (subK P C o i loc Q) := by
 refine oks_on.trans (congrArg _ ?_); funext v σ₁; refine oks_on.trans (congrArg _ ?_); funext ov σ₂; refine oks_on.trans (congrArg _ ?_); funext iv σ₂; exact oks_on
noncomputable def iteK (P : Prog) (C : Calls) (F : Nat) (a b : Sts) (loc : Loc) (Q : Option V → Loc → H → Prop) : Bool → H → Prop := fun t σ => bif t then OkS (exs P C F a loc σ) Q else OkS (exs P C F b loc σ) Q
theorem zr {a b : Sts} : iteK P C F a b loc Q true σ = OkS (exs P C F a loc σ) Q := rfl
theorem zt {a b : Sts} : iteK P C F a b loc Q false σ = OkS (exs P C F b loc σ) Q := rfl
theorem zq {c : Ex} {a b : Sts} : OkS (ex P C F (.ite c a b) loc σ) Q = Ok (tst P C c loc (ev P C c loc)) σ (iteK P C F a b loc Q) := by
 refine oks_on.trans (congrArg _ ?_); funext t σ₁; cases t <;> rfl
noncomputable def retK (loc : Loc) (Q : Option V → Loc → H → Prop) : V → H → Prop := fun v σ => Q (some v) loc σ
theorem zv {v : V} : retK loc Q v σ = Q (some v) loc σ := rfl
theorem zu {e : Ex} : OkS (ex P C F (.ret e) loc σ) Q = Ok (ev P C e loc) σ (retK loc Q) := oks_on
theorem zw : OkS (ex P C F .ret0 loc σ) Q = Q (some .none) loc σ := rfl
theorem zx : OkS (ex P C F .pass loc σ) Q = Q none loc σ := rfl
end
noncomputable def runK (Q : V → H → Prop) : Option V → Loc → H → Prop := fun r _ σ => Q (r.getD .none) σ
theorem zy {Q : V → H → Prop} {v : V} {l : Loc} {σ : H} : runK Q (some v) l σ = Q v σ := rfl
theorem zz {Q : V → H → Prop} {l : Loc} {σ : H} : runK Q none l σ = Q .none σ := rfl
theorem ok_run {P : Prog} {F d f : Nat} {m : Bool} {fd : FD} {args : List V} {σ : H} {Q : V → H → Prop} (h : (if m then P.meths else P.funs).lookup f = some fd) (hl : args.length = fd.params.length) :
  Ok (run P F (d + 1) m f args) σ Q = OkS (exs P (run P F d) F fd.body ((fd.params.zip args).foldl (fun l p => l.upd p.1 p.2) (fun _ => none)) σ) (runK Q) := by
 unfold Ok run
 simp only [h, hl, if_true]
 cases exs P (run P F d) F fd.body ((fd.params.zip args).foldl (fun l p => l.upd p.1 p.2) (fun _ => none)) σ with
 | none => rfl
 | some p => obtain ⟨r, l, σ₁⟩ := p; cases r <;> rfl
/- the heap -/
theorem get_put_ne {σ : H} {a b : Nat} {o : O} (h : a ≠ b) : (H.put σ a o).get b = σ.get b := List.getElem?_set_ne h
theorem get_put_eq {σ : H} {a : Nat} {o : O} (h : a < σ.length) : (H.put σ a o).get a = some o := List.getElem?_set_self h
theorem get_push_lt {σ : H} {a : Nat} {o : O} (h : a < σ.length) : (H.push σ o).get a = σ.get a := List.getElem?_append_left h
theorem get_push_eq {σ : H} {o : O} : (H.push σ o).get σ.length = some o := List.getElem?_concat_length
noncomputable def methX (P : Prog) (C : Calls) (ax : X (List V)) (i : Nat) (ov : V) : X V := fun h => match kdOf ov h with
 | .inst => if i ≤ 12 then none else X.bind ax (fun vs => C true i (ov :: vs)) h
 | .list => if i = idAppend ∨ i = idPop then X.bind ax (fun vs => listMeth P ov i vs) h else none
 | .dict => if i = idPop then X.bind ax (fun vs => dictMeth P ov i vs) h else none
 | .str => if i = idSplit ∨ i = idJoin then X.bind ax (fun vs => strMeth ov i vs) h else none
 | _ => none
noncomputable def compX (tg : List Nat) (tup : Bool) (t : Loc → X Bool) (e : Loc → X V) (loc : Loc) (v : V) : X V := fun h => match iterOf v h with
 | none => none
 | some vs => X.bind (compL v tg tup t e loc h vs) (fun ws => alloc (.list ws)) h
section
variable {P : Prog} {C : Calls} {loc : Loc}
theorem qV {α : Type} {a b : α} : (bif true then a else b) = a := rfl
theorem qW {α : Type} {a b : α} : (bif false then a else b) = b := rfl
theorem qU {l : Loc} {i j : Nat} {v : V} : l.upd i v j = bif j == i then some v else l j := rfl
theorem z6 : ev P C .cnone loc = X.pure .none := rfl
theorem z7 {b : Bool} : ev P C (.cbool b) loc = X.pure (.bool b) := rfl
theorem z8 {i : Int} : ev P C (.cint i) loc = X.pure (.int i) := rfl
theorem z9 {s : Str} : ev P C (.cstr s) loc = X.pure (.str s) := rfl
theorem qa {i : Nat} : ev P C (.loc i) loc = X.lift (loc i) := rfl
noncomputable def binF (P : Prog) (C : Calls) (op : PySem.Operator) (b : Ex) (loc : Loc) : V → X V := fun x => X.bind (ev P C b loc) (binop op x)
theorem qc {op : PySem.Operator} {b : Ex} {x : V} : binF P C op b loc x = X.bind (ev P C b loc) (binop op x) := rfl
theorem qb {op : PySem.Operator} {a b : Ex} : ev P C (.bin op a b) loc = X.bind (ev P C a loc) (binF P C op b loc) := rfl
noncomputable def notF2 : Bool → X V := fun t => X.pure (.bool (!t))
theorem qf : notF2 true = X.pure (.bool false) := rfl
theorem qg : notF2 false = X.pure (.bool true) := rfl
noncomputable def notF : V → X V := fun x => X.bind (truth x) notF2
theorem qe {x : V} : notF x = X.bind (truth x) notF2 := rfl
theorem qd {a : Ex} : ev P C (.not a) loc = X.bind (ev P C a loc) notF := rfl
theorem qh {es : Exs} : ev P C (.band es) loc = evAnd P C es loc := rfl
noncomputable def cmpF (P : Prog) (C : Calls) (op : PySem.CmpOp) (b : Ex) (loc : Loc) : V → X V := fun x => X.bind (ev P C b loc) (cmpop P op x)
theorem qj {op : PySem.CmpOp} {b : Ex} {x : V} : cmpF P C op b loc x = X.bind (ev P C b loc) (cmpop P op x) := rfl
theorem qi {op : PySem.CmpOp} {a b : Ex} : ev P C (.cmp op a b) loc = X.bind (ev P C a loc) (cmpF P C op b loc) := rfl
noncomputable def cmpG (P : Prog) (C : Calls) (o2 : PySem.CmpOp) (c : Ex) (loc : Loc) (y r : V) : Bool → X V := fun t => bif t then X.bind (ev P C c loc) (cmpop P o2 y) else X.pure r
theorem ql {o2 : PySem.CmpOp} {c : Ex} {y r : V} : cmpG P C o2 c loc y r true = X.bind (ev P C c loc) (cmpop P o2 y) := rfl
theorem qm {o2 : PySem.CmpOp} {c : Ex} {y r : V} : cmpG P C o2 c loc y r false = X.pure r := rfl
theorem qk {o1 o2 : PySem.CmpOp} {a b c : Ex} : ev P C (.cmp2 o1 o2 a b c) loc = X.bind (ev P C a loc) fun x => X.bind (ev P C b loc) fun y => X.bind (cmpop P o1 x y) fun r => X.bind (truth r) (cmpG P C o2 c loc y r) := by
 show (X.bind _ fun x => X.bind _ fun y => X.bind _ fun r => X.bind _ fun t => _) = _
 refine congrArg _ (funext fun x => congrArg _ (funext fun y => congrArg _ (funext fun r => congrArg _ (funext fun t => ?_))))
 cases t <;> rfl
noncomputable def listF : List V → X V := fun vs => alloc (.list vs)
theorem qp {vs : List V} : listF vs = alloc (.list vs) := rfl
theorem qo {es : Exs} : ev P C (.list es) loc = X.bind (evs P C es loc) listF := rfl
noncomputable def tupF : List V → X V := fun vs => alloc (.tup vs)
theorem qt {vs : List V} : tupF vs = alloc (.tup vs) := rfl
theorem qr {es : Exs} : ev P C (.tup es) loc = X.bind (evs P C es loc) tupF := rfl
theorem qw : ev P C (.dict .nil .nil) loc = alloc (.dict []) := rfl
noncomputable def attrF (n : Nat) : V → X V := fun o => getAttr o n
theorem qy {n : Nat} {o : V} : attrF n o = getAttr o n := rfl
theorem qx {a : Ex} {n : Nat} : ev P C (.attr a n) loc = X.bind (ev P C a loc) (attrF n) := rfl
noncomputable def subF (P : Prog) (C : Calls) (i : Ex) (loc : Loc) : V → X V := fun o => X.bind (ev P C i loc) (getItem P o)
theorem qA {i : Ex} {o : V} : subF P C i loc o = X.bind (ev P C i loc) (getItem P o) := rfl
theorem qz {a i : Ex} : ev P C (.sub a i) loc = X.bind (ev P C a loc) (subF P C i loc) := rfl
noncomputable def slF2 (P : Prog) (C : Calls) (u : Ex) (loc : Loc) (o : V) : V → X V := fun l => X.bind (ev P C u loc) (getSlice o l)
theorem slF2_at {u : Ex} {o l : V} : slF2 P C u loc o l = X.bind (ev P C u loc) (getSlice o l) := rfl
noncomputable def slF (P : Prog) (C : Calls) (l u : Ex) (loc : Loc) : V → X V := fun o => X.bind (ev P C l loc) (slF2 P C u loc o)
theorem slF_at {l u : Ex} {o : V} : slF P C l u loc o = X.bind (ev P C l loc) (slF2 P C u loc o) := rfl
theorem qB {a l u : Ex} : ev P C (.slice a l u) loc = X.bind (ev P C a loc) (slF P C l u loc) := rfl
theorem qC {f : Nat} {args : Exs} : ev P C (.call f args) loc = X.bind (evs P C args loc) (C false f) := rfl
theorem qD {o : Ex} {i : Nat} {args : Exs} : ev P C (.meth o i args) loc = X.bind (ev P C o loc) (methX P C (evs P C args loc) i) := rfl
theorem qF {b : Bi} {args : Exs} : ev P C (.bi b args) loc = X.bind (evs P C args loc) (builtin b) := rfl
noncomputable def boolF : Bool → X V := fun b => X.pure (.bool b)
theorem qI {b : Bool} : boolF b = X.pure (.bool b) := rfl
noncomputable def isiF (P : Prog) (cs : List Nat) : V → X V := fun v => X.bind (isinsts P v cs) boolF
theorem qH {cs : List Nat} {v : V} : isiF P cs v = X.bind (isinsts P v cs) boolF := rfl
theorem qG {a : Ex} {cs : List Nat} : ev P C (.isi a cs) loc = X.bind (ev P C a loc) (isiF P cs) := rfl
theorem qJ {elt it : Ex} {tg : List Nat} {tup : Bool} {conds : Exs} : ev P C (.comp elt tg tup it conds) loc = X.bind (ev P C it loc) (compX tg tup (tstAnd P C conds) (ev P C elt) loc) := rfl
theorem qK : evs P C .nil loc = X.pure [] := rfl
noncomputable def consF2 (v : V) : List V → X (List V) := fun vs => X.pure (v :: vs)
theorem qN {v : V} {vs : List V} : consF2 v vs = X.pure (v :: vs) := rfl
noncomputable def consF (P : Prog) (C : Calls) (es : Exs) (loc : Loc) : V → X (List V) := fun v => X.bind (evs P C es loc) (consF2 v)
theorem qM {es : Exs} {v : V} : consF P C es loc v = X.bind (evs P C es loc) (consF2 v) := rfl
theorem qL {e : Ex} {es : Exs} : evs P C (.cons e es) loc = X.bind (ev P C e loc) (consF P C es loc) := rfl
noncomputable def eandF (P : Prog) (C : Calls) (es : Exs) (loc : Loc) (v : V) : Bool → X V := fun t => bif t then evAnd P C es loc else X.pure v
theorem eandF_t {es : Exs} {v : V} : eandF P C es loc v true = evAnd P C es loc := rfl
theorem eandF_f {es : Exs} {v : V} : eandF P C es loc v false = X.pure v := rfl
theorem ea_one {e : Ex} : evAnd P C (.cons e .nil) loc = ev P C e loc := rfl
theorem ea_cons {e e' : Ex} {es : Exs} : evAnd P C (.cons e (.cons e' es)) loc = X.bind (ev P C e loc) fun v => X.bind (truth v) (eandF P C (.cons e' es) loc v) := by
 show (X.bind _ fun v => X.bind _ fun t => _) = _
 refine congrArg _ (funext fun v => congrArg _ (funext fun t => ?_)); cases t <;> rfl
/- tests -/
section
variable {w : X V}
noncomputable def tnotF : Bool → X Bool := fun t => X.pure (!t)
theorem zS : tnotF true = X.pure false := rfl
theorem zT : tnotF false = X.pure true := rfl
theorem zF {a : Ex} : tst P C (.not a) loc w = X.bind (tst P C a loc (ev P C a loc)) tnotF := rfl
theorem zG {es : Exs} : tst P C (.band es) loc w = tstAnd P C es loc := rfl
theorem zH {es : Exs} : tst P C (.bor es) loc w = tstOr P C es loc := rfl
theorem zI {b : Bool} : tst P C (.cbool b) loc w = X.bind w truth := rfl
theorem zJ {i : Nat} : tst P C (.loc i) loc w = X.bind w truth := rfl
theorem zK {op : PySem.CmpOp} {a b : Ex} : tst P C (.cmp op a b) loc w = X.bind w truth := rfl
theorem zL {o1 o2 : PySem.CmpOp} {a b c : Ex} : tst P C (.cmp2 o1 o2 a b c) loc w = X.bind w truth := rfl
theorem zM {f : Nat} {args : Exs} : tst P C (.call f args) loc w = X.bind w truth := rfl
theorem zN {o : Ex} {i : Nat} {args : Exs} : tst P C (.meth o i args) loc w = X.bind w truth := rfl
theorem zO {a : Ex} {cs : List Nat} : tst P C (.isi a cs) loc w = X.bind w truth := rfl
theorem zP {a : Ex} {n : Nat} : tst P C (.attr a n) loc w = X.bind w truth := rfl
theorem zQ {a i : Ex} : tst P C (.sub a i) loc w = X.bind w truth := rfl
theorem zR {op : PySem.Operator} {a b : Ex} : tst P C (.bin op a b) loc w = X.bind w truth := rfl
noncomputable def andF (P : Prog) (C : Calls) (es : Exs) (loc : Loc) : Bool → X Bool := fun t => bif t then tstAnd P C es loc else X.pure false
theorem zW {es : Exs} : andF P C es loc true = tstAnd P C es loc := rfl
theorem zX {es : Exs} : andF P C es loc false = X.pure false := rfl
theorem zU : tstAnd P C .nil loc = X.pure true := rfl
theorem zV {e : Ex} {es : Exs} : tstAnd P C (.cons e es) loc = X.bind (tst P C e loc (ev P C e loc)) (andF P C es loc) := by
 show (X.bind _ fun t => _) = _
 refine congrArg _ (funext fun t => ?_); cases t <;> rfl
noncomputable def orF (P : Prog) (C : Calls) (es : Exs) (loc : Loc) : Bool → X Bool := fun t => bif t then X.pure true else tstOr P C es loc
theorem z0 {es : Exs} : orF P C es loc true = X.pure true := rfl
theorem z5 {es : Exs} : orF P C es loc false = tstOr P C es loc := rfl
theorem zY : tstOr P C .nil loc = X.pure false := rfl
theorem zZ {e : Ex} {es : Exs} : tstOr P C (.cons e es) loc = X.bind (tst P C e loc (ev P C e loc)) (orF P C es loc) := by
 show (X.bind _ fun t => _) = _
 refine congrArg _ (funext fun t => ?_); cases t <;> rfl
end
end
section
variable {P : Prog} {C : Calls} {σ : H} {ax : X (List V)} {Q : V → H → Prop}
theorem ok_of_eq {α : Type} {x y : X α} {Q : α → H → Prop} (h : x σ = y σ) : Ok x σ Q = Ok y σ Q := by unfold Ok; rw [h]
noncomputable def methF (C : Calls) (i : Nat) (ov : V) : List V → X V := fun vs => C true i (ov :: vs)
theorem qE {i : Nat} {ov : V} {vs : List V} : methF C i ov vs = C true i (ov :: vs) := rfl
theorem mx_list {i a : Nat} {xs : List V} (h1 : σ.get a = some (.list xs)) (hi : i = 6 ∨ i = 7) : Ok (methX P C ax i (.ref a)) σ Q = Ok ax σ (bindK (listMeth P (.ref a) i) Q) := by
 rw [← qO]
 refine ok_of_eq ?_
 have hk : kdOf (.ref a) σ = .list := by unfold kdOf; simp only [h1]
 unfold methX
 rw [hk]
 exact if_pos hi
end
noncomputable def OkW (P : Prog) (C : Calls) (F n : Nat) (c : Ex) (b : Sts) (loc : Loc) (σ : H) (Q : Option V → Loc → H → Prop) : Prop := OkS (whileL (fun l => tst P C c l (ev P C c l)) (exs P C F b) n loc σ) Q
noncomputable def OkF (P : Prog) (C : Calls) (F : Nat) (v : V) (tg : List Nat) (tup : Bool) (b : Sts) (h₀ : H) (vs : List V) (loc : Loc) (σ : H) (Q : Option V → Loc → H → Prop) : Prop := OkS (forL v tg tup (exs P C F b) h₀ vs loc σ) Q
section
variable {P : Prog} {C : Calls} {F : Nat} {loc : Loc} {σ : H} {Q : Option V → Loc → H → Prop}
noncomputable def turnK (P : Prog) (C : Calls) (F n : Nat) (c : Ex) (b : Sts) (Q : Option V → Loc → H → Prop) : Option V → Loc → H → Prop := fun r l σ => match r with | none => OkW P C F n c b l σ Q | some v => Q (some v) l σ
theorem zB {n : Nat} {c : Ex} {b : Sts} : turnK P C F n c b Q none loc σ = OkW P C F n c b loc σ Q := rfl
theorem zC {n : Nat} {c : Ex} {b : Sts} {v : V} : turnK P C F n c b Q (some v) loc σ = Q (some v) loc σ := rfl
noncomputable def whlK (P : Prog) (C : Calls) (F n : Nat) (c : Ex) (b : Sts) (loc : Loc) (Q : Option V → Loc → H → Prop) : Bool → H → Prop := fun t σ => bif t then OkS (exs P C F b loc σ) (turnK P C F n c b Q) else Q none loc σ
theorem zD {n : Nat} {c : Ex} {b : Sts} : whlK P C F n c b loc Q true σ = OkS (exs P C F b loc σ) (turnK P C F n c b Q) := rfl
theorem zE {n : Nat} {c : Ex} {b : Sts} : whlK P C F n c b loc Q false σ = Q none loc σ := rfl
noncomputable def forK (P : Prog) (C : Calls) (F : Nat) (tg : List Nat) (tup : Bool) (b : Sts) (loc : Loc) (Q : Option V → Loc → H → Prop) : V → H → Prop := fun v σ => ∃ vs, iterOf v σ = some vs ∧ OkF P C F v tg tup b σ vs loc σ Q
theorem zA {tg : List Nat} {tup : Bool} {b : Sts} {v : V} : forK P C F tg tup b loc Q v σ = ∃ vs, iterOf v σ = some vs ∧ OkF P C F v tg tup b σ vs loc σ Q := rfl
theorem s_for {tg : List Nat} {tup : Bool} {e : Ex} {b : Sts} : OkS (ex P C F (.for tg tup e b) loc σ) Q = Ok (ev P C e loc) σ (forK P C F tg tup b loc Q) := by
 refine oks_on.trans (congrArg _ ?_)
 funext v σ₁
 refine propext ⟨fun h => ?_, ?_⟩
 ·unfold onK at h
  dsimp only at h
  cases hi : iterOf v σ₁ with
  | none => rw [hi] at h; exact h.elim
  | some vs => rw [hi] at h; exact ⟨vs, hi, h⟩
 ·rintro ⟨vs, hi, h⟩
  unfold onK; dsimp only; rw [hi]; exact h
theorem f_nil {v : V} {tg : List Nat} {tup : Bool} {b : Sts} {h₀ : H} : OkF P C F v tg tup b h₀ [] loc σ Q = Q none loc σ := rfl
theorem f_inv {v : V} {i : Nat} {b : Sts} {h₀ : H} {vs : List V} (I : Nat → Loc → H → Prop) (h0 : I 0 loc σ)
  (step : ∀ j l s y, vs[j]? = some y → I j l s → OkS (exs P C F b (l.upd i y) s) (fun r l' s' => r = none ∧ still v h₀ s' = true ∧ I (j + 1) l' s')) (fin : ∀ l s, I vs.length l s → Q none l s) : OkF P C F v [i] false b h₀ vs loc σ Q := by
 have key : ∀ (rest : List V) (j : Nat) (l : Loc) (s : H), j ≤ vs.length → vs.drop j = rest → I j l s → OkF P C F v [i] false b h₀ rest l s Q := by
  intro rest
  induction rest with
  | nil =>
   intro j l s hle hd hI
   rw [f_nil]
   have hj : vs.length ≤ j := List.drop_eq_nil_iff.mp hd
   have hje : j = vs.length := Nat.le_antisymm hle hj
   subst hje; exact fin l s hI
  | cons y ys ih =>
   intro j l s hle hd hI
   have hj : vs[j]? = some y := by
    have : (vs.drop j)[0]? = some y := by rw [hd]; rfl
    simpa using this
   obtain ⟨r, l', s', hb, rfl, hst, hI'⟩ := oks_iff.mp (step j l s y hj hI)
   have hd' : vs.drop (j + 1) = ys := by
    have : (vs.drop j).drop 1 = ys := by rw [hd]; rfl
    simpa [Nat.add_comm] using this
   have h2 := ih (j + 1) l' s' (List.getElem?_eq_some_iff.mp hj).1 hd' hI'
   unfold OkF forL
   have hbt : bindTg [i] false y l s = some (l.upd i y) := rfl
   rw [hbt]
   dsimp only
   rw [hb]
   dsimp only [afterE]
   rw [if_pos hst]
   exact h2
 exact key vs 0 loc σ (Nat.zero_le _) rfl h0
theorem compL_pure {v : V} {i : Nat} {t : Loc → X Bool} {e : Loc → X V} {h₀ : H} (p : V → Bool) (g : V → V) (hst : still v h₀ σ = true) : ∀ vs : List V, (∀ y ∈ vs, t (loc.upd i y) σ = some (.ok (p y), σ)) → (∀ y ∈ vs, p y = true → e (loc.upd i y) σ = some (.ok (g y), σ)) →
  compL v [i] false t e loc h₀ vs σ = some (.ok ((vs.filter p).map g), σ)
 | [], _, _ => rfl
 | y :: ys, h1, h2 => by
  have ih := compL_pure p g hst ys (fun z hz => h1 z (.tail _ hz)) (fun z hz => h2 z (.tail _ hz))
  unfold compL
  have hbt : bindTg [i] false y loc σ = some (loc.upd i y) := rfl
  rw [hbt]
  dsimp only
  rw [h1 y (.head _)]
  cases hp : p y with
  | false => dsimp only; rw [if_pos hst, ih, List.filter_cons, hp]; rfl
  | true => dsimp only; rw [h2 y (.head _) hp]; dsimp only; rw [if_pos hst, ih, List.filter_cons, hp]; rfl
theorem c_pure {v : V} {i : Nat} {t : Loc → X Bool} {e : Loc → X V} {vs : List V} {Q : V → H → Prop} (p : V → Bool) (g : V → V) (hi : iterOf v σ = some vs) (h1 : ∀ y ∈ vs, t (loc.upd i y) σ = some (.ok (p y), σ)) (h2 : ∀ y ∈ vs, p y = true → e (loc.upd i y) σ = some (.ok (g y), σ))
  (hl : ((vs.filter p).map g).length ≤ lim) : Ok (compX [i] false t e loc v) σ Q = Q (.ref σ.length) (σ.push (.list ((vs.filter p).map g))) := by
 refine ok_some ?_
 unfold compX
 rw [hi]
 have hst : still v σ σ = true := by cases v <;> simp [still]
 dsimp only
 unfold X.bind
 rw [compL_pure p g hst vs h1 h2]
 dsimp only
 unfold alloc
 rw [if_pos (by simpa [okO] using hl)]
theorem ok_alloc {o : O} {Q : V → H → Prop} (h : okO o = true) : Ok (alloc o) σ Q = Q (.ref σ.length) (σ.push o) := ok_some (by unfold alloc; rw [if_pos h])
theorem ok_eq {α : Type} {x : X α} {a : α} {σ' : H} (h : Ok x σ (fun b s => b = a ∧ s = σ')) : x σ = some (.ok a, σ') := by
 obtain ⟨b, s, h', rfl, rfl⟩ := ok_iff.mp h; exact h'
theorem it_list {a : Nat} {xs : List V} (h : σ.get a = some (.list xs)) : iterOf (.ref a) σ = some xs := by unfold iterOf; simp [h]
theorem it_range {a : Nat} {n : Int} (h : σ.get a = some (.rng 0 n 1)) (h0 : 0 ≤ n) (h1 : n ≤ 1000000) : iterOf (.ref a) σ = some ((List.range n.toNat).map fun (k : Nat) => V.int (k : Int)) := by
 unfold iterOf
 simp only [h]
 have c1 : small' 0 = true := by decide
 have c2 : small' n = true := by unfold small'; simp; lia
 have c3 : small' 1 = true := by decide
 rw [c1, c2, c3, if_pos (by simp [lim]; lia)]
 congr 1
 unfold rangeList
 rw [if_pos (by decide)]
 by_cases hn : 0 < n
 ·rw [if_pos hn]
  have : ((n - 0 - 1) / 1 + 1).toNat = n.toNat := by lia
  rw [this, List.map_map]
  apply List.map_congr_left
  intro k _
  simp
 ·have : n = 0 := by lia
  subst this; rfl
theorem still_get {a : Nat} {h h' : H} (e : h'.get a = h.get a) : still (.ref a) h h' = true := by simp [still, e]
noncomputable def Ext (σ σ' : H) : Prop := ∀ a o, σ.get a = some o → σ'.get a = some o
theorem Ext.refl (σ : H) : Ext σ σ := fun _ _ h => h
theorem Ext.trans {σ σ' σ'' : H} (h : Ext σ σ') (k : Ext σ' σ'') : Ext σ σ'' := fun a o e => k a o (h a o e)
theorem Ext.push {σ σ' : H} (h : Ext σ σ') (x : O) : Ext σ (σ'.push x) := fun a o e => by rw [get_push_lt (List.getElem?_eq_some_iff.mp (h a o e)).1]; exact h a o e
theorem Ext.still {v : V} {σ σ' : H} {vs : List V} (h : Ext σ σ') (hi : iterOf v σ = some vs) : still v σ σ' = true := by
 cases v with
 | ref a =>
  refine still_get ?_
  cases e : σ.get a with
  | none => simp [iterOf, e] at hi
  | some o => exact h a o e
 | _ => rfl
end
end Mine.Internal
set_option autoImplicit false
set_option linter.unusedSimpArgs false
set_option linter.unusedVariables false
namespace Mine.Internal.L05
open Mine.Internal
open PySem (Str PyData)
theorem upd_at {l : Loc} {i : Nat} {v : V} : l.upd i v i = some v := by rw [qU, beq_self_eq_true]; rfl
theorem upd_no {l : Loc} {i j : Nat} {v : V} (h : j ≠ i) : l.upd i v j = l j := by rw [qU, beq_eq_false_iff_ne.mpr h]; rfl
theorem get_lt {σ : H} {a : Nat} {o : O} (h : σ.get a = some o) : a < σ.length := (List.getElem?_eq_some_iff.mp h).1
theorem get_keep {σ : H} {a : Nat} {o x : O} (h : σ.get a = some o) : (σ.push x).get a = some o := by rw [get_push_lt (get_lt h)]; exact h
/- texts -/
theorem strL_list {l : List Nat} : (strL l).cps.toList = l := rfl
theorem strL_of (s : Str) : strL s.cps.toList = s := by cases s; rfl
theorem strL_eq {a b : List Nat} : strL a = strL b ↔ a = b := ⟨fun h => by have := congrArg (fun s : Str => s.cps.toList) h; exact this, fun h => h ▸ rfl⟩
theorem strL_app {a b : List Nat} : strL a ++ strL b = strL (a ++ b) := by
 show (⟨a.toArray ++ b.toArray⟩ : Str) = ⟨(a ++ b).toArray⟩
 rw [List.append_toArray]
theorem strL_len {l : List Nat} : (strL l).length = l.length := rfl
theorem okS_of {l : List Nat} (h : ∀ c ∈ l, c < 128) (hl : l.length ≤ lim) : okS (strL l) = true := by
 unfold okS PyData.strOk
 rw [strL_len, decide_eq_true hl, Bool.true_and]
 show (l.toArray).all _ = true
 rw [List.all_toArray]
 exact List.all_eq_true.mpr fun c hc => decide_eq_true (Nat.lt_trans (h c hc) (by decide))
theorem le_lim {n : Nat} (h : n ≤ 1000) : n ≤ lim := Nat.le_trans h (by decide)
section
variable {P : Prog} {C : Calls} {F : Nat} {loc : Loc} {σ : H}
theorem ok_truthb {b : Bool} {Q : Bool → H → Prop} : Ok (truth (.bool b)) σ Q = Q b σ := rfl
theorem ok_is {a : V} {Q : V → H → Prop} : Ok (cmpop P .Is a .none) σ Q = Q (.bool (decide (a = .none))) σ := rfl
theorem ok_gt {a b : Int} {Q : V → H → Prop} : Ok (cmpop P .Gt (.int a) (.int b)) σ Q = Q (.bool (decide (a > b))) σ := rfl
theorem ok_lt {a b : Int} {Q : V → H → Prop} : Ok (cmpop P .Lt (.int a) (.int b)) σ Q = Q (.bool (decide (a < b))) σ := rfl
theorem ok_le {a b : Int} {Q : V → H → Prop} : Ok (cmpop P .LtE (.int a) (.int b)) σ Q = Q (.bool (decide (a ≤ b))) σ := rfl
theorem eqv_int {a b : Int} : PyData.eqv (.int a) (.int b) = decide (a = b) := rfl
theorem ok_eqI {a b : Int} {Q : V → H → Prop} : Ok (cmpop P .Eq (.int a) (.int b)) σ Q = Q (.bool (decide (a = b))) σ := ok_some (by
 show some (R.ok (V.bool (PyData.eqv (.int a) (.int b))), σ) = _
 rw [eqv_int])
theorem ok_neI {a b : Int} {Q : V → H → Prop} : Ok (cmpop P .NotEq (.int a) (.int b)) σ Q = Q (.bool (!decide (a = b))) σ := ok_some (by
 show some (R.ok (V.bool (!PyData.eqv (.int a) (.int b))), σ) = _
 rw [eqv_int])
theorem eqv_str {a b : Str} : PyData.eqv (.str a) (.str b) = decide (a = b) := by
 show (a == b) = _
 by_cases h : a = b <;> simp [h]
theorem ok_eqS {a b : Str} {Q : V → H → Prop} : Ok (cmpop P .Eq (.str a) (.str b)) σ Q = Q (.bool (decide (a = b))) σ := ok_some (by
 show some (R.ok (V.bool (PyData.eqv (.str a) (.str b))), σ) = _
 rw [eqv_str])
theorem ok_neS {a b : Str} {Q : V → H → Prop} : Ok (cmpop P .NotEq (.str a) (.str b)) σ Q = Q (.bool (!decide (a = b))) σ := ok_some (by
 show some (R.ok (V.bool (!PyData.eqv (.str a) (.str b))), σ) = _
 rw [eqv_str])
theorem ok_add {a b : Int} {Q : V → H → Prop} : Ok (binop .Add (.int a) (.int b)) σ Q = Q (.int (a + b)) σ := rfl
theorem ok_sub {a b : Int} {Q : V → H → Prop} : Ok (binop .Sub (.int a) (.int b)) σ Q = Q (.int (a - b)) σ := rfl
theorem ok_mod {a b : Int} {Q : V → H → Prop} (h : b ≠ 0) : Ok (binop .Mod (.int a) (.int b)) σ Q = Q (.int (Int.fmod a b)) σ := ok_some (by simp [binop, twoInts, onInt, h])
theorem ok_div {a b : Int} {Q : V → H → Prop} (h : b ≠ 0) (hs : small b = true) : Ok (binop .FloorDiv (.int a) (.int b)) σ Q = Q (.int (Int.fdiv a b)) σ := ok_some (by simp [binop, twoInts, onInt, h, hs])
theorem fmod_nat {a b : Int} (h : 0 < b) : ∃ k : Nat, Int.fmod a b = (k : Int) ∧ (k : Int) < b := by
 have h1 := Int.fmod_nonneg_of_pos a h
 have h2 := Int.fmod_lt_of_pos a h
 exact ⟨(Int.fmod a b).toNat, by lia, by lia⟩
theorem ok_cat {a b : List Nat} {Q : V → H → Prop} (h : okS (strL (a ++ b)) = true) : Ok (binop .Add (.str (strL a)) (.str (strL b))) σ Q = Q (.str (strL (a ++ b))) σ := ok_some (by
 show (if okS (strL a ++ strL b) then some (R.ok (V.str (strL a ++ strL b)), σ) else none) = _
 rw [strL_app, if_pos h])
theorem ok_catL {a b : Nat} {xs ys : List V} {Q : V → H → Prop} (h1 : σ.get a = some (.list xs)) (h2 : σ.get b = some (.list ys)) (hl : (xs ++ ys).length ≤ lim) : Ok (binop .Add (.ref a) (.ref b)) σ Q = Q (.ref σ.length) (σ.push (.list (xs ++ ys))) := ok_some (by
 show (onRef (.ref b) fun y => onL (σ.get a) fun xs => onL (σ.get y) fun ys => alloc (.list (xs ++ ys)) σ) = _
 simp only [onRef, h1, h2, onL]
 unfold alloc; rw [if_pos (by simpa [okO] using hl)])
theorem idx_at {k : Int} {n : Nat} (h0 : 0 ≤ k) (h1 : k < n) : idx k n = some k.toNat := by unfold idx; rw [if_pos ⟨h0, h1⟩]
theorem idx_neg {n : Nat} : idx (-1) (n + 1) = some n := by
 unfold idx
 rw [if_neg (by lia), if_pos (by lia)]
 congr 1
 lia
theorem ok_getList {a : Nat} {xs : List V} {k : Int} {v : V} {Q : V → H → Prop} (h1 : σ.get a = some (.list xs)) (hk : 0 ≤ k) (h3 : xs[k.toNat]? = some v) : Ok (getItem P (.ref a) (.int k)) σ Q = Q v σ := by
 refine ok_some ?_
 have : k < xs.length := by have := (List.getElem?_eq_some_iff.mp h3).1; lia
 unfold getItem; simp only [h1, idx_at hk this, Option.bind_some, h3, Option.map_some]
theorem ok_getTup {a : Nat} {xs : List V} {k : Int} {v : V} {Q : V → H → Prop} (h1 : σ.get a = some (.tup xs)) (hk : 0 ≤ k) (h3 : xs[k.toNat]? = some v) : Ok (getItem P (.ref a) (.int k)) σ Q = Q v σ := by
 refine ok_some ?_
 have : k < xs.length := by have := (List.getElem?_eq_some_iff.mp h3).1; lia
 unfold getItem; simp only [h1, idx_at hk this, Option.bind_some, h3, Option.map_some]
theorem ok_getStr {l : List Nat} {k : Int} {c : Nat} {Q : V → H → Prop} (hk : 0 ≤ k) (h3 : l[k.toNat]? = some c) : Ok (getItem P (.str (strL l)) (.int k)) σ Q = Q (.str (strL [c])) σ := by
 refine ok_some ?_
 have : k < l.length := by have := (List.getElem?_eq_some_iff.mp h3).1; lia
 unfold getItem; simp only [onInt, strL_list, idx_at hk this, Option.bind_some, h3, Option.map_some]
 rfl
theorem ok_getDict {a : Nat} {es : List (V × V)} {k v : V} {Q : V → H → Prop} (h1 : σ.get a = some (.dict es)) (hk : isKey k = true) (h3 : dget es k = some v) : Ok (getItem P (.ref a) k) σ Q = Q v σ :=
 ok_some (by unfold getItem; cases k <;> simp_all [isKey])
theorem ok_notInD {a : Nat} {es : List (V × V)} {k : V} {Q : V → H → Prop} (h1 : σ.get a = some (.dict es)) (hk : isKey k = true) : Ok (cmpop P .NotIn k (.ref a)) σ Q = Q (.bool (!(dget es k).isSome)) σ := ok_some (by
 unfold cmpop contains X.bind; simp [h1, hk, X.pure])
theorem ok_notInS {c : Nat} {l : List Nat} {Q : V → H → Prop} : Ok (cmpop P .NotIn (.str (strL [c])) (.str (strL l))) σ Q = Q (.bool (!l.any fun d => decide (d = c))) σ := rfl
theorem getM_of {a : Nat} {o : O} (h1 : σ.get a = some o) (ha : P.nf ≤ a) : σ.getM P a = some o := by unfold H.getM; rw [if_pos ha]; exact h1
theorem ok_append {a : Nat} {xs : List V} {v : V} {Q : V → H → Prop} (h1 : σ.get a = some (.list xs)) (ha : P.nf ≤ a) (h3 : (xs ++ [v]).length ≤ lim) : Ok (listMeth P (.ref a) 6 [v]) σ Q = Q .none (σ.put a (.list (xs ++ [v]))) :=
 ok_some (by
  have := getM_of h1 ha
  unfold listMeth; simp only [this]
  show grow a (.list (xs ++ [v])) .none σ = _
  unfold grow; rw [if_pos (by simpa [okO] using h3)])
theorem ok_lenL {a : Nat} {xs : List V} {Q : V → H → Prop} (h : σ.get a = some (.list xs)) : Ok (builtin .len [.ref a]) σ Q = Q (.int xs.length) σ := ok_some (by show biLen (.ref a) σ = _; unfold biLen; simp [h])
theorem ok_lenS {l : List Nat} {Q : V → H → Prop} : Ok (builtin .len [.str (strL l)]) σ Q = Q (.int l.length) σ := rfl
theorem ok_range1 {n : Int} {Q : V → H → Prop} : Ok (builtin .range [.int n]) σ Q = Q (.ref σ.length) (σ.push (.rng 0 n 1)) := rfl
theorem ok_listT {a : Nat} {xs : List V} {Q : V → H → Prop} (h1 : σ.get a = some (.tup xs)) (hl : xs.length ≤ lim) : Ok (builtin .list [.ref a]) σ Q = Q (.ref σ.length) (σ.push (.list xs)) := ok_some (by
 show biList (.ref a) σ = _; simp only [biList, onRef, h1]; unfold alloc; rw [if_pos (by simpa [okO] using hl)])
theorem ok_tuple {a : Nat} {xs : List V} {Q : V → H → Prop} (h1 : σ.get a = some (.list xs)) (hl : xs.length ≤ lim) : Ok (builtin .tuple [.ref a]) σ Q = Q (.ref σ.length) (σ.push (.tup xs)) := ok_some (by
 show biTuple (.ref a) σ = _; simp only [biTuple, onRef, h1, onL]; unfold alloc; rw [if_pos (by simpa [okO] using hl)])
theorem ok_int {l : List Nat} {Q : V → H → Prop} (h : figs (strL l) = true) : Ok (builtin .int [.str (strL l)]) σ Q = Q (.int (digV l : Nat)) σ := ok_some (by
 show (if figs (strL l) = true then some (R.ok (V.int (digV (strL l).cps.toList : Nat)), σ) else none) = _
 rw [if_pos h]; rfl)
theorem ok_strS {s : Str} {Q : V → H → Prop} : Ok (builtin .str [.str s]) σ Q = Q (.str s) σ := rfl
theorem ok_strI {i : Int} {Q : V → H → Prop} (h1 : fewI10 i = true) (h2 : okS (strOfI i) = true) : Ok (builtin .str [.int i]) σ Q = Q (.str (strOfI i)) σ := ok_some (by
 show biStr (.int i) σ = _
 unfold biStr
 exact if_pos ⟨h1, h2⟩)
theorem mx_str {ax : X (List V)} {i : Nat} {s : Str} {Q : V → H → Prop} (hi : i = 10 ∨ i = 11) : Ok (methX P C ax i (.str s)) σ Q = Ok ax σ (bindK (strMeth (.str s) i) Q) := by
 rw [← qO]
 exact ok_of_eq (if_pos hi)
theorem ok_split {l : List Nat} {c : Nat} {Q : V → H → Prop} (hc : c < 256) (h : ((splitC c l).map fun l => V.str (strL l)).length ≤ lim) : Ok (strMeth (.str (strL l)) 10 [.str (strL [c])]) σ Q = Q (.ref σ.length) (σ.push (.list ((splitC c l).map fun l => .str (strL l)))) := ok_some (by
 show (if c < 256 then alloc (.list ((splitC c l).map fun l => .str (strL l))) σ else none) = _
 rw [if_pos hc]
 unfold alloc; rw [if_pos (by simpa [okO] using h)])
theorem ok_join {s : Str} {a : Nat} {xs : List V} {ss : List Str} {Q : V → H → Prop} (h1 : σ.get a = some (.list xs)) (h2 : strsOf xs = some ss) (h3 : okS (joinS s ss) = true) : Ok (strMeth (.str s) 11 [.ref a]) σ Q = Q (.str (joinS s ss)) σ := ok_some (by
 show (onL (σ.get a) fun xs => match strsOf xs with
  | some ss => if okS (joinS s ss) = true then some (R.ok (V.str (joinS s ss)), σ) else none
  | none => none) = _
 rw [h1]
 simp only [onL, h2]
 rw [if_pos h3])
theorem clip_none {n d : Nat} : clip .none n d = some d := rfl
theorem clip_at {k : Nat} {n d : Nat} : clip (.int (k : Int)) n d = some (min k n) := by
 show some (if (0 : Int) ≤ (k : Int) then min ((k : Int)).toNat n else _) = _
 rw [if_pos (Int.natCast_nonneg _), Int.toNat_natCast]
theorem ok_sliceS {l : List Nat} {lo hi : V} {a b : Nat} {Q : V → H → Prop} (h1 : clip lo l.length 0 = some a) (h2 : clip hi l.length l.length = some b) : Ok (getSlice (.str (strL l)) lo hi) σ Q = Q (.str (strL (cut l a b))) σ := ok_some (by
 unfold getSlice
 simp only [strL_list, h1, h2])
theorem ok_tail {a : Nat} {x : V} {xs : List V} {Q : V → H → Prop} (h : σ.get a = some (.list (x :: xs))) : Ok (getSlice (.ref a) (.int 1) .none) σ Q = Q (.ref σ.length) (σ.push (.list xs)) := ok_some (by
 unfold getSlice
 simp only [h]
 show some (R.ok (V.ref σ.length), σ.push (.list (cut (x :: xs) (min 1 (xs.length + 1)) (xs.length + 1)))) = _
 rw [Nat.min_eq_left (by lia)]
 have e : cut (x :: xs) 1 (xs.length + 1) = xs := by unfold cut; rw [show xs.length + 1 = (x :: xs).length from rfl, List.take_length]; rfl
 rw [e])
theorem ok_tailT {a : Nat} {x : V} {xs : List V} {Q : V → H → Prop} (h : σ.get a = some (.tup (x :: xs))) : Ok (getSlice (.ref a) (.int 1) .none) σ Q = Q (.ref σ.length) (σ.push (.tup xs)) := ok_some (by
 unfold getSlice
 simp only [h]
 show (if (1 : Int) ≤ 1 ∧ (1 : Int) ≤ ((x :: xs).length : Int) then some (R.ok (V.ref σ.length), σ.push (.tup ((x :: xs).drop (1 : Int).toNat))) else none) = _
 rw [if_pos ⟨Int.le_refl _, by rw [List.length_cons]; lia⟩]
 rfl)
theorem e_neg {i : Int} : ev P C (.neg (.cint i)) loc = X.pure (.int (-i)) := rfl
theorem ok_isi {x : V} {k : Nat} {b : Bool} {Q : Bool → H → Prop} (h : isinsts P x [k] σ = some (.ok b, σ)) : Ok (isinsts P x [k]) σ Q = Q b σ := ok_some h
theorem isi_int {i : Int} : isinsts P (.int i) [0] σ = some (.ok true, σ) := rfl
theorem isi_intb {i : Int} : isinsts P (.int i) [1] σ = some (.ok false, σ) := rfl
theorem isi_str {s : Str} : isinsts P (.str s) [4] σ = some (.ok true, σ) := rfl
theorem isi_list {a : Nat} {xs : List V} (h : σ.get a = some (.list xs)) : isinsts P (.ref a) [2] σ = some (.ok true, σ) := by
 show (if 2 ≤ 4 then isinst P (.ref a) 2 else X.none) σ = _
 rw [if_pos (by decide)]
 unfold isinst; simp [h, idList]
theorem isi_tup {a : Nat} {xs : List V} (h : σ.get a = some (.tup xs)) : isinsts P (.ref a) [3] σ = some (.ok true, σ) := by
 show (if 3 ≤ 4 then isinst P (.ref a) 3 else X.none) σ = _
 rw [if_pos (by decide)]
 unfold isinst; simp [h, idTuple]
theorem f_step {v : V} {tg : List Nat} {tup : Bool} {b : Sts} {h₀ : H} {y : V} {ys : List V} {l' : Loc} {Q : Option V → Loc → H → Prop} (hb : bindTg tg tup y loc σ = some l')
  (h : OkS (exs P C F b l' σ) (fun r l s => match r with | some w => Q (some w) l s | none => still v h₀ s = true ∧ OkF P C F v tg tup b h₀ ys l s Q)) : OkF P C F v tg tup b h₀ (y :: ys) loc σ Q := by
 obtain ⟨r, l, s, e, h⟩ := oks_iff.mp h
 unfold OkF forL
 rw [hb]
 dsimp only
 rw [e]
 cases r with
 | some w => exact h
 | none => dsimp only [afterE]; rw [if_pos h.1]; exact h.2
/- what ends in an exception -/
noncomputable def ErS (x : Option (R (Option V) × Loc × H)) (k : Nat) (σ' : H) : Prop := ∃ l, x = some (.err k, l, σ')
variable {k : Nat} {σ' σ₁ : H}
theorem ers_cons1 {t : Sts} {s : St} {ss : Sts} (ht : t = .cons s ss) (h : ErS (ex P C F s loc σ) k σ') : ErS (exs P C F t loc σ) k σ' := by
 subst ht
 obtain ⟨l, h⟩ := h
 refine ⟨l, ?_⟩
 show (match ex P C F s loc σ with | some (.ok none, l₁, h₁) => exs P C F ss l₁ h₁ | r => r) = _
 rw [h]
theorem ers_cons2 {t : Sts} {s : St} {ss : Sts} (ht : t = .cons s ss) (h : OkS (ex P C F s loc σ) (fun r l σ₁ => r = none ∧ ErS (exs P C F ss l σ₁) k σ')) : ErS (exs P C F t loc σ) k σ' := by
 subst ht
 obtain ⟨r, l, σ₁, h, rfl, l', h2⟩ := oks_iff.mp h
 refine ⟨l', ?_⟩
 show (match ex P C F s loc σ with | some (.ok none, l₁, h₁) => exs P C F ss l₁ h₁ | r => r) = _
 rw [h]; exact h2
theorem ers_ret {e : Ex} (h : ev P C e loc σ = some (.err k, σ')) : ErS (ex P C F (.ret e) loc σ) k σ' := ⟨loc, by
 show onX (ev P C e loc) loc _ σ = _
 unfold onX; rw [h]⟩
theorem ers_expr {e : Ex} (h : ev P C e loc σ = some (.err k, σ')) : ErS (ex P C F (.expr e) loc σ) k σ' := ⟨loc, by
 show onX (ev P C e loc) loc _ σ = _
 unfold onX; rw [h]⟩
theorem ers_rais {s : Str} : ErS (ex P C F (.rais k s) loc σ) k σ := ⟨loc, rfl⟩
theorem ers_ite {c : Ex} {a b : Sts} {t : Bool} (ht : Ok (tst P C c loc (ev P C c loc)) σ (fun t' s => t' = t ∧ s = σ₁)) (h : ErS (exs P C F (bif t then a else b) loc σ₁) k σ') : ErS (ex P C F (.ite c a b) loc σ) k σ' := by
 obtain ⟨l, h⟩ := h
 refine ⟨l, ?_⟩
 show onX (tst P C c loc (ev P C c loc)) loc _ σ = _
 unfold onX; rw [ok_eq ht]
 cases t <;> exact h
theorem run_err {d f : Nat} {args : List V} {fd : FD} (h1 : P.funs.lookup f = some fd) (h2 : args.length = fd.params.length) (h : ErS (exs P (run P F d) F fd.body ((fd.params.zip args).foldl (fun l p => l.upd p.1 p.2) (fun _ => none)) σ) k σ') :
  run P F (d + 1) false f args σ = some (.err k, σ') := by
 obtain ⟨l, h⟩ := h
 unfold run
 simp only [Bool.false_eq_true, if_false]
 rw [h1]
 dsimp only
 rw [if_pos h2, h]
end
end Mine.Internal.L05
set_option autoImplicit false
set_option linter.unusedSimpArgs false
set_option linter.unusedVariables false
namespace Mine.Internal.L05
open Mine.Internal
open PySem (Str PyData)
noncomputable def dig (c : Nat) : Bool := decide (48 ≤ c) && decide (c ≤ 57)
noncomputable def figL : List Nat := [48, 49, 50, 51, 52, 53, 54, 55, 56, 57]
theorem s_figs : Str.ofString "0123456789" = strL figL := by kernel_rfl
theorem s_nought : Str.ofString "0" = strL [48] := by kernel_rfl
theorem s_blank : Str.ofString " " = strL [32] := by kernel_rfl
theorem s_empty : Str.ofString "" = strL [] := by kernel_rfl
theorem fig_any {c : Nat} : (figL.any fun d => decide (d = c)) = dig c := by
 have h : (figL.any fun d => decide (d = c)) = true ↔ dig c = true := by
  unfold dig
  rw [List.any_eq_true, Bool.and_eq_true, decide_eq_true_eq, decide_eq_true_eq]
  constructor
  ·rintro ⟨d, hd, e⟩
   have e := of_decide_eq_true e
   subst e
   have : ∀ d ∈ figL, 48 ≤ d ∧ d ≤ 57 := by decide
   exact this _ hd
  ·rintro ⟨h1, h2⟩
   refine ⟨c, ?_, decide_eq_true rfl⟩
   have : ∀ k : Fin 10, (48 + k.1) ∈ figL := by decide
   have := this ⟨c - 48, by lia⟩
   rwa [show 48 + (c - 48) = c by lia] at this
 cases h1 : (figL.any fun d => decide (d = c)) with
 | true => exact (h.mp h1).symm
 | false =>
  cases h2 : dig c with
  | false => rfl
  | true => rw [h.mpr h2] at h1; exact h1.symm
noncomputable def numOK (w : List Nat) : Bool := decide (1 ≤ w.length) && (decide (w.length ≤ 60) && (!(decide (w.head? = some 48) && decide (w ≠ [48])) && w.all dig))
theorem numOK_figs {w : List Nat} (h : numOK w = true) : figs (strL w) = true := by
 unfold numOK at h
 simp only [Bool.and_eq_true, decide_eq_true_eq] at h
 obtain ⟨h1, h2, h3, h4⟩ := h
 unfold figs
 rw [strL_list]
 have e1 : (!w.isEmpty) = true := by cases w <;> simp_all
 rw [e1, decide_eq_true (show w.length ≤ 100 by lia), Bool.true_and, Bool.true_and]
 exact h4
theorem g111 {C : Calls} {loc : Loc} : ev prog C (.glo 111) loc = X.pure (.int 60) := rfl
theorem g110 {C : Calls} {loc : Loc} : ev prog C (.glo 110) loc = X.pure (.ref 1) := rfl
noncomputable def chs (l : List Nat) : List V := l.map fun c => .str (strL [c])
theorem it_str {l : List Nat} {σ : H} (h : ∀ c ∈ l, c < 128) (hl : l.length ≤ 1000) : iterOf (.str (strL l)) σ = some (chs l) := by
 show (if (strL l).cps.all (· < 128) = true ∧ l.length ≤ lim then some (l.map fun c => V.str (chr1 c)) else none) = _
 have e : (strL l).cps.all (· < 128) = true := by
  show (l.toArray).all _ = true
  rw [List.all_toArray]
  exact List.all_eq_true.mpr fun c hc => decide_eq_true (h c hc)
 exact if_pos ⟨e, le_lim hl⟩
section
variable {C : Calls} {σ : H} {d : Nat}
theorem num_loop {w : V} (hw : ∀ τ : H, still w σ τ = true) : ∀ (cs : List Nat) (loc : Loc), ∃ l', forL w [114] false (exs prog C 1000 f_number_of_3f_1) σ (chs cs) loc σ = some (bif cs.all dig then .ok none else .err 97, l', σ) ∧ ∀ j, j ≠ 114 → l' j = loc j
 | [], loc => ⟨loc, rfl, fun _ _ => rfl⟩
 | c :: cs, loc => by
  have hbt : bindTg [114] false (.str (strL [c])) loc σ = some (loc.upd 114 (.str (strL [c]))) := rfl
  have e1 : (loc.upd 114 (.str (strL [c]))) 114 = some (.str (strL [c])) := upd_at
  have e2 : ∀ j, j ≠ 114 → (loc.upd 114 (.str (strL [c]))) j = loc j := fun j h => upd_no h
  unfold chs
  rw [List.map_cons]
  unfold forL
  rw [hbt]
  dsimp only
  generalize loc.upd 114 (.str (strL [c])) = l1 at *
  have tv : Ok (tst prog C (.cmp .NotIn (.loc 114) (.cstr (.ofString "0123456789"))) l1 (ev prog C (.cmp .NotIn (.loc 114) (.cstr (.ofString "0123456789"))) l1)) σ (fun t' s => t' = !dig c ∧ s = σ) := by
   simp (disch := decide) only [e1, s_figs, ok_notInS, fig_any, ok_truthb, za,zb,zc,zd,zf,zg,zh,zi,zj,zk,zl,zm,zn,zo,zp,zq,zr,zt,zu,zv,zw,zx,zy,zz,zA,zB,zC,zD,zE,zF,zG,zH,zI,zJ,zK,zL,zM,zN,zO,zP,zQ,zR,zS,zT,zU,zV,zW,zX,zY,zZ,z0,z5,z6,z7,z8,z9,qa,qb,qc,qd,qe,qf,qg,qh,qi,qj,qk,ql,qm,qo,qp,qr,qt,qw,qx,qy,qz,qA,qB,qC,qD,qE,qF,qG,qH,qI,qJ,qK,qL,qM,qN,qO,qP,qQ,qR,qS,qT,qX,qY,qZ,q0,q5,qU,Nat.reduceBEq,qV,qW,if_true,if_false,q6,reduceCtorEq,Nat.reduceEqDiff,ne_eq,q7,q8,decide_true,decide_false,q9,ya]
   exact ⟨trivial, trivial⟩
  cases hd : dig c with
  | false =>
   rw [hd] at tv
   obtain ⟨l2, h2⟩ := ers_cons1 (P := prog) (C := C) (F := 1000) (t := f_number_of_3f_1) rfl (ers_ite (t := true) tv (ers_cons1 (t := f_number_of_3f_1a_1) rfl ers_rais))
   have h3 : exs prog C 1000 f_number_of_3f_1 l1 σ = some (.err 97, l1, σ) := by
    have q := ok_eq tv
    show (match ex prog C 1000 (.ite (.cmp .NotIn (.loc 114) (.cstr (.ofString "0123456789"))) f_number_of_3f_1a_1 .nil) l1 σ with | some (.ok none, l₁, h₁) => _ | r => r) = _
    have : ex prog C 1000 (.ite (.cmp .NotIn (.loc 114) (.cstr (.ofString "0123456789"))) f_number_of_3f_1a_1 .nil) l1 σ = some (.err 97, l1, σ) := by
     show onX _ l1 _ σ = _
     unfold onX; rw [q]; rfl
    rw [this]
   rw [h3, List.all_cons, hd]
   exact ⟨l1, rfl, e2⟩
  | true =>
   rw [hd] at tv
   have h3 : exs prog C 1000 f_number_of_3f_1 l1 σ = some (.ok none, l1, σ) := by
    have q := ok_eq tv
    show (match ex prog C 1000 (.ite (.cmp .NotIn (.loc 114) (.cstr (.ofString "0123456789"))) f_number_of_3f_1a_1 .nil) l1 σ with | some (.ok none, l₁, h₁) => _ | r => r) = _
    have : ex prog C 1000 (.ite (.cmp .NotIn (.loc 114) (.cstr (.ofString "0123456789"))) f_number_of_3f_1a_1 .nil) l1 σ = some (.ok none, l1, σ) := by
     show onX _ l1 _ σ = _
     unfold onX; rw [q]; rfl
    rw [this]
    rfl
   obtain ⟨l', h4, h5⟩ := num_loop hw cs l1
   rw [h3]
   dsimp only [afterE]
   rw [if_pos (hw σ), List.all_cons, hd, Bool.true_and]
   exact ⟨l', h4, fun j hj => (h5 j hj).trans (e2 j hj)⟩
theorem num_for {w : List Nat} (ha : ∀ c ∈ w, c < 128) (hl : w.length ≤ 1000) {loc : Loc} (e : loc 113 = some (.str (strL w))) : ∃ l', ex prog C 1000 (.for [114] false (.loc 113) f_number_of_3f_1) loc σ = some (bif w.all dig then .ok none else .err 97, l', σ) ∧ ∀ j, j ≠ 114 → l' j = loc j := by
 obtain ⟨l', h1, h2⟩ := num_loop (C := C) (σ := σ) (w := .str (strL w)) (fun _ => rfl) w loc
 refine ⟨l', ?_, h2⟩
 show onX (X.lift (loc 113)) loc (fun v h₁ => match iterOf v h₁ with | none => none | some vs => forL v [114] false (exs prog C 1000 f_number_of_3f_1) h₁ vs loc h₁) σ = _
 rw [e]
 show (match iterOf (.str (strL w)) σ with | none => none | some vs => forL (.str (strL w)) [114] false (exs prog C 1000 f_number_of_3f_1) σ vs loc σ) = _
 rw [it_str ha hl]
 exact h1
theorem head_at {w : List Nat} (h : 1 ≤ w.length) : ∃ c, w.head? = some c ∧ w[(0 : Int).toNat]? = some c := by
 cases w with
 | nil => exact absurd h (by decide)
 | cons c r => exact ⟨c, rfl, rfl⟩
theorem number_run {w : List Nat} (ha : ∀ c ∈ w, c < 128) (hl : w.length ≤ 1000) : run prog 1000 (d + 1) false 112 [.str (strL w)] σ = some (bif numOK w then .ok (.int (digV w : Nat)) else .err 97, σ) := by
 cases hn : numOK w with
 | true =>
  have hf := numOK_figs hn
  unfold numOK at hn
  simp only [Bool.and_eq_true, decide_eq_true_eq, Bool.not_eq_true'] at hn
  obtain ⟨h1, h2, h3, h4⟩ := hn
  obtain ⟨c, hc1, hc2⟩ := head_at h1
  refine ok_eq ?_
  rw [ok_run (fd := f_number_of) rfl rfl]
  unfold f_number_of
  refine oks_step rfl ?_
  have i1 : (1 : Int) ≤ (w.length : Int) := by lia
  have i2 : (w.length : Int) ≤ 60 := by lia
  simp (disch := decide) only [ok_lenS, g111, ok_le, i1, i2, ok_truthb, zb, zf,zg,zh,zi,zj,zk,zl,zm,zn,zo,zp,zq,zr,zt,zu,zv,zw,zx,zy,zz,zA,zB,zC,zD,zE,zF,zG,zH,zI,zJ,zK,zL,zM,zN,zO,zP,zQ,zR,zS,zT,zU,zV,zW,zX,zY,zZ,z0,z5,z6,z7,z8,z9,qa,qb,qc,qd,qe,qf,qg,qh,qi,qj,qk,ql,qm,qo,qp,qr,qt,qw,qx,qy,qz,qA,qB,qC,qD,qE,qF,qG,qH,qI,qJ,qK,qL,qM,qN,qO,qP,qQ,qR,qS,qT,qX,qY,qZ,q0,q5,qU,Nat.reduceBEq,qV,qW,if_true,if_false,q6,reduceCtorEq,Nat.reduceEqDiff,ne_eq,q7,q8,decide_true,decide_false,q9,ya]
  have go : ∀ loc : Loc, loc 113 = some (.str (strL w)) → OkS (exs prog (run prog 1000 d) 1000 f_number_of_3 loc σ) (runK fun b s => b = .int (digV w : Nat) ∧ s = σ) := fun loc e => by
   obtain ⟨l', q1, q2⟩ := num_for (C := run prog 1000 d) (σ := σ) ha hl e
   refine oks_step rfl ?_
   rw [q1, h4]
   refine then_step rfl ?_
   simp (disch := decide) only [q2 113 (by decide), e, ok_int hf, zd, zf,zg,zh,zi,zj,zk,zl,zm,zn,zo,zp,zq,zr,zt,zu,zv,zw,zx,zy,zz,zA,zB,zC,zD,zE,zF,zG,zH,zI,zJ,zK,zL,zM,zN,zO,zP,zQ,zR,zS,zT,zU,zV,zW,zX,zY,zZ,z0,z5,z6,z7,z8,z9,qa,qb,qc,qd,qe,qf,qg,qh,qi,qj,qk,ql,qm,qo,qp,qr,qt,qw,qx,qy,qz,qA,qB,qC,qD,qE,qF,qG,qH,qI,qJ,qK,qL,qM,qN,qO,qP,qQ,qR,qS,qT,qX,qY,qZ,q0,q5,qU,Nat.reduceBEq,qV,qW,if_true,if_false,q6,reduceCtorEq,Nat.reduceEqDiff,ne_eq,q7,q8,decide_true,decide_false,q9,ya]
   exact ⟨trivial, trivial⟩
  refine then_step rfl ?_
  simp (disch := decide) only [ok_getStr (Int.le_refl 0) hc2, s_nought, ok_eqS, ok_neS, strL_eq, ok_truthb, zf,zg,zh,zi,zj,zk,zl,zm,zn,zo,zp,zq,zr,zt,zu,zv,zw,zx,zy,zz,zA,zB,zC,zD,zE,zF,zG,zH,zI,zJ,zK,zL,zM,zN,zO,zP,zQ,zR,zS,zT,zU,zV,zW,zX,zY,zZ,z0,z5,z6,z7,z8,z9,qa,qb,qc,qd,qe,qf,qg,qh,qi,qj,qk,ql,qm,qo,qp,qr,qt,qw,qx,qy,qz,qA,qB,qC,qD,qE,qF,qG,qH,qI,qJ,qK,qL,qM,qN,qO,qP,qQ,qR,qS,qT,qX,qY,qZ,q0,q5,qU,Nat.reduceBEq,qV,qW,if_true,if_false,q6,reduceCtorEq,Nat.reduceEqDiff,ne_eq,q7,q8,decide_true,decide_false,q9,ya]
  cases hq : decide ([c] = [48]) with
  | false =>
   simp (disch := decide) only [zb, zc, zf,zg,zh,zi,zj,zk,zl,zm,zn,zo,zp,zq,zr,zt,zu,zv,zw,zx,zy,zz,zA,zB,zC,zD,zE,zF,zG,zH,zI,zJ,zK,zL,zM,zN,zO,zP,zQ,zR,zS,zT,zU,zV,zW,zX,zY,zZ,z0,z5,z6,z7,z8,z9,qa,qb,qc,qd,qe,qf,qg,qh,qi,qj,qk,ql,qm,qo,qp,qr,qt,qw,qx,qy,qz,qA,qB,qC,qD,qE,qF,qG,qH,qI,qJ,qK,qL,qM,qN,qO,qP,qQ,qR,qS,qT,qX,qY,qZ,q0,q5,qU,Nat.reduceBEq,qV,qW,if_true,if_false,q6,reduceCtorEq,Nat.reduceEqDiff,ne_eq,q7,q8,decide_true,decide_false,q9,ya]
   exact go _ rfl
  | true =>
   have : w = [48] := by
    have e : c = 48 := List.head_eq_of_cons_eq (of_decide_eq_true hq)
    subst e
    rw [hc1, decide_eq_true rfl, Bool.true_and, decide_eq_false_iff_not] at h3
    exact Classical.not_not.mp h3
   simp (disch := decide) only [ok_neS, strL_eq, this, ok_truthb, zb, zc, zf,zg,zh,zi,zj,zk,zl,zm,zn,zo,zp,zq,zr,zt,zu,zv,zw,zx,zy,zz,zA,zB,zC,zD,zE,zF,zG,zH,zI,zJ,zK,zL,zM,zN,zO,zP,zQ,zR,zS,zT,zU,zV,zW,zX,zY,zZ,z0,z5,z6,z7,z8,z9,qa,qb,qc,qd,qe,qf,qg,qh,qi,qj,qk,ql,qm,qo,qp,qr,qt,qw,qx,qy,qz,qA,qB,qC,qD,qE,qF,qG,qH,qI,qJ,qK,qL,qM,qN,qO,qP,qQ,qR,qS,qT,qX,qY,qZ,q0,q5,qU,Nat.reduceBEq,qV,qW,if_true,if_false,q6,reduceCtorEq,Nat.reduceEqDiff,ne_eq,q7,q8,decide_true,decide_false,q9,ya]
   exact this ▸ go _ (by rw [this]; rfl)
 | false =>
  refine run_err (fd := f_number_of) rfl rfl ?_
  unfold f_number_of
  by_cases c1 : 1 ≤ w.length ∧ w.length ≤ 60
  ·obtain ⟨h1, h2⟩ := c1
   obtain ⟨c, hc1, hc2⟩ := head_at h1
   have i1 : (1 : Int) ≤ (w.length : Int) := by lia
   have i2 : (w.length : Int) ≤ 60 := by lia
   refine ers_cons2 rfl ?_
   simp (disch := decide) only [ok_lenS, g111, ok_le, i1, i2, ok_truthb, zb, zf,zg,zh,zi,zj,zk,zl,zm,zn,zo,zp,zq,zr,zt,zu,zv,zw,zx,zy,zz,zA,zB,zC,zD,zE,zF,zG,zH,zI,zJ,zK,zL,zM,zN,zO,zP,zQ,zR,zS,zT,zU,zV,zW,zX,zY,zZ,z0,z5,z6,z7,z8,z9,qa,qb,qc,qd,qe,qf,qg,qh,qi,qj,qk,ql,qm,qo,qp,qr,qt,qw,qx,qy,qz,qA,qB,qC,qD,qE,qF,qG,qH,qI,qJ,qK,qL,qM,qN,qO,qP,qQ,qR,qS,qT,qX,qY,qZ,q0,q5,qU,Nat.reduceBEq,qV,qW,if_true,if_false,q6,reduceCtorEq,Nat.reduceEqDiff,ne_eq,q7,q8,decide_true,decide_false,q9,ya]
   refine ⟨trivial, ?_⟩
   by_cases c2 : w.head? = some 48 ∧ w ≠ [48]
   ·refine ers_cons1 rfl (ers_ite (t := true) ?_ (ers_cons1 rfl ers_rais))
    have e : c = 48 := by rw [hc1] at c2; exact Option.some.inj c2.1
    subst e
    simp (disch := decide) only [ok_getStr (Int.le_refl 0) hc2, s_nought, ok_eqS, ok_neS, strL_eq, ok_truthb, c2.2, za,zb,zc,zd,zf,zg,zh,zi,zj,zk,zl,zm,zn,zo,zp,zq,zr,zt,zu,zv,zw,zx,zy,zz,zA,zB,zC,zD,zE,zF,zG,zH,zI,zJ,zK,zL,zM,zN,zO,zP,zQ,zR,zS,zT,zU,zV,zW,zX,zY,zZ,z0,z5,z6,z7,z8,z9,qa,qb,qc,qd,qe,qf,qg,qh,qi,qj,qk,ql,qm,qo,qp,qr,qt,qw,qx,qy,qz,qA,qB,qC,qD,qE,qF,qG,qH,qI,qJ,qK,qL,qM,qN,qO,qP,qQ,qR,qS,qT,qX,qY,qZ,q0,q5,qU,Nat.reduceBEq,qV,qW,if_true,if_false,q6,reduceCtorEq,Nat.reduceEqDiff,ne_eq,q7,q8,decide_true,decide_false,q9,ya]
    exact ⟨trivial, trivial⟩
   ·have hdg : w.all dig = false := by
     cases h : w.all dig with
     | false => rfl
     | true =>
      rw [← hn]
      unfold numOK
      rw [h, decide_eq_true h1, decide_eq_true h2, ← Bool.decide_and, decide_eq_false c2]; rfl
    have go : ∀ loc : Loc, loc 113 = some (.str (strL w)) → ErS (exs prog (run prog 1000 d) 1000 f_number_of_3 loc σ) 97 σ := fun loc e => by
     obtain ⟨l', q1, q2⟩ := num_for (C := run prog 1000 d) (σ := σ) ha hl e
     refine ers_cons1 rfl ⟨l', ?_⟩
     rw [q1, hdg]; rfl
    refine ers_cons2 rfl ?_
    simp (disch := decide) only [ok_getStr (Int.le_refl 0) hc2, s_nought, ok_eqS, ok_neS, strL_eq, ok_truthb, zf,zg,zh,zi,zj,zk,zl,zm,zn,zo,zp,zq,zr,zt,zu,zv,zw,zx,zy,zz,zA,zB,zC,zD,zE,zF,zG,zH,zI,zJ,zK,zL,zM,zN,zO,zP,zQ,zR,zS,zT,zU,zV,zW,zX,zY,zZ,z0,z5,z6,z7,z8,z9,qa,qb,qc,qd,qe,qf,qg,qh,qi,qj,qk,ql,qm,qo,qp,qr,qt,qw,qx,qy,qz,qA,qB,qC,qD,qE,qF,qG,qH,qI,qJ,qK,qL,qM,qN,qO,qP,qQ,qR,qS,qT,qX,qY,qZ,q0,q5,qU,Nat.reduceBEq,qV,qW,if_true,if_false,q6,reduceCtorEq,Nat.reduceEqDiff,ne_eq,q7,q8,decide_true,decide_false,q9,ya]
    cases hq : decide ([c] = [48]) with
    | false =>
     simp (disch := decide) only [zb, zc, zf,zg,zh,zi,zj,zk,zl,zm,zn,zo,zp,zq,zr,zt,zu,zv,zw,zx,zy,zz,zA,zB,zC,zD,zE,zF,zG,zH,zI,zJ,zK,zL,zM,zN,zO,zP,zQ,zR,zS,zT,zU,zV,zW,zX,zY,zZ,z0,z5,z6,z7,z8,z9,qa,qb,qc,qd,qe,qf,qg,qh,qi,qj,qk,ql,qm,qo,qp,qr,qt,qw,qx,qy,qz,qA,qB,qC,qD,qE,qF,qG,qH,qI,qJ,qK,qL,qM,qN,qO,qP,qQ,qR,qS,qT,qX,qY,qZ,q0,q5,qU,Nat.reduceBEq,qV,qW,if_true,if_false,q6,reduceCtorEq,Nat.reduceEqDiff,ne_eq,q7,q8,decide_true,decide_false,q9,ya]
     exact ⟨trivial, go _ rfl⟩
    | true =>
     have e : c = 48 := List.head_eq_of_cons_eq (of_decide_eq_true hq)
     subst e
     have : w = [48] := Classical.byContradiction fun h => c2 ⟨hc1, h⟩
     simp (disch := decide) only [ok_neS, strL_eq, this, ok_truthb, zb, zc, zf,zg,zh,zi,zj,zk,zl,zm,zn,zo,zp,zq,zr,zt,zu,zv,zw,zx,zy,zz,zA,zB,zC,zD,zE,zF,zG,zH,zI,zJ,zK,zL,zM,zN,zO,zP,zQ,zR,zS,zT,zU,zV,zW,zX,zY,zZ,z0,z5,z6,z7,z8,z9,qa,qb,qc,qd,qe,qf,qg,qh,qi,qj,qk,ql,qm,qo,qp,qr,qt,qw,qx,qy,qz,qA,qB,qC,qD,qE,qF,qG,qH,qI,qJ,qK,qL,qM,qN,qO,qP,qQ,qR,qS,qT,qX,qY,qZ,q0,q5,qU,Nat.reduceBEq,qV,qW,if_true,if_false,q6,reduceCtorEq,Nat.reduceEqDiff,ne_eq,q7,q8,decide_true,decide_false,q9,ya]
     exact ⟨trivial, this ▸ go _ (by rw [this]; rfl)⟩
  ·refine ers_cons1 rfl (ers_ite (t := true) ?_ (ers_cons1 rfl ers_rais))
   by_cases i1 : (1 : Int) ≤ (w.length : Int)
   ·have i2 : ¬ (w.length : Int) ≤ 60 := by lia
    simp (disch := decide) only [ok_lenS, g111, ok_le, i1, i2, ok_truthb, zb, za,zb,zc,zd,zf,zg,zh,zi,zj,zk,zl,zm,zn,zo,zp,zq,zr,zt,zu,zv,zw,zx,zy,zz,zA,zB,zC,zD,zE,zF,zG,zH,zI,zJ,zK,zL,zM,zN,zO,zP,zQ,zR,zS,zT,zU,zV,zW,zX,zY,zZ,z0,z5,z6,z7,z8,z9,qa,qb,qc,qd,qe,qf,qg,qh,qi,qj,qk,ql,qm,qo,qp,qr,qt,qw,qx,qy,qz,qA,qB,qC,qD,qE,qF,qG,qH,qI,qJ,qK,qL,qM,qN,qO,qP,qQ,qR,qS,qT,qX,qY,qZ,q0,q5,qU,Nat.reduceBEq,qV,qW,if_true,if_false,q6,reduceCtorEq,Nat.reduceEqDiff,ne_eq,q7,q8,decide_true,decide_false,q9,ya]
    exact ⟨trivial, trivial⟩
   ·simp (disch := decide) only [ok_lenS, g111, ok_le, i1, ok_truthb, zb, za,zb,zc,zd,zf,zg,zh,zi,zj,zk,zl,zm,zn,zo,zp,zq,zr,zt,zu,zv,zw,zx,zy,zz,zA,zB,zC,zD,zE,zF,zG,zH,zI,zJ,zK,zL,zM,zN,zO,zP,zQ,zR,zS,zT,zU,zV,zW,zX,zY,zZ,z0,z5,z6,z7,z8,z9,qa,qb,qc,qd,qe,qf,qg,qh,qi,qj,qk,ql,qm,qo,qp,qr,qt,qw,qx,qy,qz,qA,qB,qC,qD,qE,qF,qG,qH,qI,qJ,qK,qL,qM,qN,qO,qP,qQ,qR,qS,qT,qX,qY,qZ,q0,q5,qU,Nat.reduceBEq,qV,qW,if_true,if_false,q6,reduceCtorEq,Nat.reduceEqDiff,ne_eq,q7,q8,decide_true,decide_false,q9,ya]
    exact ⟨trivial, trivial⟩
end
end Mine.Internal.L05
set_option autoImplicit false
set_option linter.unusedSimpArgs false
set_option linter.unusedVariables false
namespace Mine.Internal.L05
open Mine.Internal
open PySem (Str PyData)
section
variable {C : Calls} {σ : H} {d : Nat}
theorem lnum_loop {w : V} (hw : ∀ τ : H, still w σ τ = true) : ∀ (cs : List Nat) (loc : Loc), ∃ l', forL w [195] false (exs prog C 1000 f__law_number_2f_1) σ (chs cs) loc σ = some (.ok (bif cs.all dig then none else some (.int (-1))), l', σ) ∧ ∀ j, j ≠ 195 → l' j = loc j
 | [], loc => ⟨loc, rfl, fun _ _ => rfl⟩
 | c :: cs, loc => by
  have hbt : bindTg [195] false (.str (strL [c])) loc σ = some (loc.upd 195 (.str (strL [c]))) := rfl
  have e1 : (loc.upd 195 (.str (strL [c]))) 195 = some (.str (strL [c])) := upd_at
  have e2 : ∀ j, j ≠ 195 → (loc.upd 195 (.str (strL [c]))) j = loc j := fun j h => upd_no h
  unfold chs
  rw [List.map_cons]
  unfold forL
  rw [hbt]
  dsimp only
  generalize loc.upd 195 (.str (strL [c])) = l1 at *
  have h3 : OkS (exs prog C 1000 f__law_number_2f_1 l1 σ) (fun r l s => r = (bif dig c then none else some (.int (-1))) ∧ l = l1 ∧ s = σ) := by
   refine oks_step rfl ?_
   simp (disch := decide) only [e1, s_figs, ok_notInS, fig_any, ok_truthb, zf,zg,zh,zi,zj,zk,zl,zm,zn,zo,zp,zq,zr,zt,zu,zv,zw,zx,zy,zz,zA,zB,zC,zD,zE,zF,zG,zH,zI,zJ,zK,zL,zM,zN,zO,zP,zQ,zR,zS,zT,zU,zV,zW,zX,zY,zZ,z0,z5,z6,z7,z8,z9,qa,qb,qc,qd,qe,qf,qg,qh,qi,qj,qk,ql,qm,qo,qp,qr,qt,qw,qx,qy,qz,qA,qB,qC,qD,qE,qF,qG,qH,qI,qJ,qK,qL,qM,qN,qO,qP,qQ,qR,qS,qT,qX,qY,qZ,q0,q5,qU,Nat.reduceBEq,qV,qW,if_true,if_false,q6,reduceCtorEq,Nat.reduceEqDiff,ne_eq,q7,q8,decide_true,decide_false,q9,ya]
   cases dig c with
   | true =>
    simp (disch := decide) only [zb, zc, zf,zg,zh,zi,zj,zk,zl,zm,zn,zo,zp,zq,zr,zt,zu,zv,zw,zx,zy,zz,zA,zB,zC,zD,zE,zF,zG,zH,zI,zJ,zK,zL,zM,zN,zO,zP,zQ,zR,zS,zT,zU,zV,zW,zX,zY,zZ,z0,z5,z6,z7,z8,z9,qa,qb,qc,qd,qe,qf,qg,qh,qi,qj,qk,ql,qm,qo,qp,qr,qt,qw,qx,qy,qz,qA,qB,qC,qD,qE,qF,qG,qH,qI,qJ,qK,qL,qM,qN,qO,qP,qQ,qR,qS,qT,qX,qY,qZ,q0,q5,qU,Nat.reduceBEq,qV,qW,if_true,if_false,q6,reduceCtorEq,Nat.reduceEqDiff,ne_eq,q7,q8,decide_true,decide_false,q9,ya]
    exact ⟨trivial, trivial, trivial⟩
   | false =>
    simp (disch := decide) only [zf,zg,zh,zi,zj,zk,zl,zm,zn,zo,zp,zq,zr,zt,zu,zv,zw,zx,zy,zz,zA,zB,zC,zD,zE,zF,zG,zH,zI,zJ,zK,zL,zM,zN,zO,zP,zQ,zR,zS,zT,zU,zV,zW,zX,zY,zZ,z0,z5,z6,z7,z8,z9,qa,qb,qc,qd,qe,qf,qg,qh,qi,qj,qk,ql,qm,qo,qp,qr,qt,qw,qx,qy,qz,qA,qB,qC,qD,qE,qF,qG,qH,qI,qJ,qK,qL,qM,qN,qO,qP,qQ,qR,qS,qT,qX,qY,qZ,q0,q5,qU,Nat.reduceBEq,qV,qW,if_true,if_false,q6,reduceCtorEq,Nat.reduceEqDiff,ne_eq,q7,q8,decide_true,decide_false,q9,ya]
    refine oks_step rfl ?_
    simp (disch := decide) only [e_neg, zd, zf,zg,zh,zi,zj,zk,zl,zm,zn,zo,zp,zq,zr,zt,zu,zv,zw,zx,zy,zz,zA,zB,zC,zD,zE,zF,zG,zH,zI,zJ,zK,zL,zM,zN,zO,zP,zQ,zR,zS,zT,zU,zV,zW,zX,zY,zZ,z0,z5,z6,z7,z8,z9,qa,qb,qc,qd,qe,qf,qg,qh,qi,qj,qk,ql,qm,qo,qp,qr,qt,qw,qx,qy,qz,qA,qB,qC,qD,qE,qF,qG,qH,qI,qJ,qK,qL,qM,qN,qO,qP,qQ,qR,qS,qT,qX,qY,qZ,q0,q5,qU,Nat.reduceBEq,qV,qW,if_true,if_false,q6,reduceCtorEq,Nat.reduceEqDiff,ne_eq,q7,q8,decide_true,decide_false,q9,ya]
    exact ⟨trivial, trivial, trivial⟩
  obtain ⟨r, l, s, h3, er, el, es⟩ := oks_iff.mp h3
  rw [er, el, es] at h3
  cases hd : dig c with
  | false =>
   rw [h3, List.all_cons, hd]
   exact ⟨l1, rfl, e2⟩
  | true =>
   obtain ⟨l', h4, h5⟩ := lnum_loop hw cs l1
   rw [h3, hd]
   dsimp only [cond, afterE]
   rw [if_pos (hw _), List.all_cons, hd, Bool.true_and]
   exact ⟨l', h4, fun j hj => (h5 j hj).trans (e2 j hj)⟩
theorem lnum_for {w : List Nat} (ha : ∀ c ∈ w, c < 128) (hl : w.length ≤ 1000) {loc : Loc} (e : loc 134 = some (.str (strL w))) : ∃ l', ex prog C 1000 (.for [195] false (.loc 134) f__law_number_2f_1) loc σ = some (.ok (bif w.all dig then none else some (.int (-1))), l', σ) ∧ ∀ j, j ≠ 195 → l' j = loc j := by
 obtain ⟨l', h1, h2⟩ := lnum_loop (C := C) (σ := σ) (w := .str (strL w)) (fun _ => rfl) w loc
 refine ⟨l', ?_, h2⟩
 show onX (X.lift (loc 134)) loc (fun v h₁ => match iterOf v h₁ with | none => none | some vs => forL v [195] false (exs prog C 1000 f__law_number_2f_1) h₁ vs loc h₁) σ = _
 rw [e]
 show (match iterOf (.str (strL w)) σ with | none => none | some vs => forL (.str (strL w)) [195] false (exs prog C 1000 f__law_number_2f_1) σ vs loc σ) = _
 rw [it_str ha hl]
 exact h1
noncomputable def lawN (w : List Nat) : Int := bif numOK w then (digV w : Nat) else -1
theorem lnumber_ok {w : List Nat} {Q : V → H → Prop} (ha : ∀ c ∈ w, c < 128) (hl : w.length ≤ 1000) (h : Q (.int (lawN w)) σ) : Ok (run prog 1000 (d + 1) false 78 [.str (strL w)]) σ Q := by
 rw [ok_run (fd := f__law_number) rfl rfl]
 unfold f__law_number
 refine oks_step rfl ?_
 simp (disch := decide) only [s_empty, ok_eqS, strL_eq, ok_truthb, zf,zg,zh,zi,zj,zk,zl,zm,zn,zo,zp,zq,zr,zt,zu,zv,zw,zx,zy,zz,zA,zB,zC,zD,zE,zF,zG,zH,zI,zJ,zK,zL,zM,zN,zO,zP,zQ,zR,zS,zT,zU,zV,zW,zX,zY,zZ,z0,z5,z6,z7,z8,z9,qa,qb,qc,qd,qe,qf,qg,qh,qi,qj,qk,ql,qm,qo,qp,qr,qt,qw,qx,qy,qz,qA,qB,qC,qD,qE,qF,qG,qH,qI,qJ,qK,qL,qM,qN,qO,qP,qQ,qR,qS,qT,qX,qY,qZ,q0,q5,qU,Nat.reduceBEq,qV,qW,if_true,if_false,q6,reduceCtorEq,Nat.reduceEqDiff,ne_eq,q7,q8,decide_true,decide_false,q9,ya]
 by_cases h0 : w = []
 ·have e : lawN w = -1 := by rw [h0]; rfl
  rw [e] at h
  simp (disch := decide) only [h0, ok_truthb, zf,zg,zh,zi,zj,zk,zl,zm,zn,zo,zp,zq,zr,zt,zu,zv,zw,zx,zy,zz,zA,zB,zC,zD,zE,zF,zG,zH,zI,zJ,zK,zL,zM,zN,zO,zP,zQ,zR,zS,zT,zU,zV,zW,zX,zY,zZ,z0,z5,z6,z7,z8,z9,qa,qb,qc,qd,qe,qf,qg,qh,qi,qj,qk,ql,qm,qo,qp,qr,qt,qw,qx,qy,qz,qA,qB,qC,qD,qE,qF,qG,qH,qI,qJ,qK,qL,qM,qN,qO,qP,qQ,qR,qS,qT,qX,qY,qZ,q0,q5,qU,Nat.reduceBEq,qV,qW,if_true,if_false,q6,reduceCtorEq,Nat.reduceEqDiff,ne_eq,q7,q8,decide_true,decide_false,q9,ya]
  refine oks_step rfl ?_
  simp (disch := decide) only [e_neg, zd, zf,zg,zh,zi,zj,zk,zl,zm,zn,zo,zp,zq,zr,zt,zu,zv,zw,zx,zy,zz,zA,zB,zC,zD,zE,zF,zG,zH,zI,zJ,zK,zL,zM,zN,zO,zP,zQ,zR,zS,zT,zU,zV,zW,zX,zY,zZ,z0,z5,z6,z7,z8,z9,qa,qb,qc,qd,qe,qf,qg,qh,qi,qj,qk,ql,qm,qo,qp,qr,qt,qw,qx,qy,qz,qA,qB,qC,qD,qE,qF,qG,qH,qI,qJ,qK,qL,qM,qN,qO,qP,qQ,qR,qS,qT,qX,qY,qZ,q0,q5,qU,Nat.reduceBEq,qV,qW,if_true,if_false,q6,reduceCtorEq,Nat.reduceEqDiff,ne_eq,q7,q8,decide_true,decide_false,q9,ya]
  exact h
 ·have h1 : 1 ≤ w.length := by cases w with | nil => exact absurd rfl h0 | cons _ _ => exact Nat.succ_le_succ (Nat.zero_le _)
  obtain ⟨c, hc1, hc2⟩ := head_at h1
  simp (disch := decide) only [h0, ok_lenS, ok_gt, ok_truthb, zf,zg,zh,zi,zj,zk,zl,zm,zn,zo,zp,zq,zr,zt,zu,zv,zw,zx,zy,zz,zA,zB,zC,zD,zE,zF,zG,zH,zI,zJ,zK,zL,zM,zN,zO,zP,zQ,zR,zS,zT,zU,zV,zW,zX,zY,zZ,z0,z5,z6,z7,z8,z9,qa,qb,qc,qd,qe,qf,qg,qh,qi,qj,qk,ql,qm,qo,qp,qr,qt,qw,qx,qy,qz,qA,qB,qC,qD,qE,qF,qG,qH,qI,qJ,qK,qL,qM,qN,qO,qP,qQ,qR,qS,qT,qX,qY,qZ,q0,q5,qU,Nat.reduceBEq,qV,qW,if_true,if_false,q6,reduceCtorEq,Nat.reduceEqDiff,ne_eq,q7,q8,decide_true,decide_false,q9,ya]
  by_cases h2 : ((w.length : Nat) : Int) > 60
  ·have e : lawN w = -1 := by
    unfold lawN numOK
    rw [decide_eq_false (show ¬ w.length ≤ 60 by lia), Bool.false_and, Bool.and_false]; rfl
   rw [e] at h
   simp (disch := decide) only [h2, ok_truthb, zf,zg,zh,zi,zj,zk,zl,zm,zn,zo,zp,zq,zr,zt,zu,zv,zw,zx,zy,zz,zA,zB,zC,zD,zE,zF,zG,zH,zI,zJ,zK,zL,zM,zN,zO,zP,zQ,zR,zS,zT,zU,zV,zW,zX,zY,zZ,z0,z5,z6,z7,z8,z9,qa,qb,qc,qd,qe,qf,qg,qh,qi,qj,qk,ql,qm,qo,qp,qr,qt,qw,qx,qy,qz,qA,qB,qC,qD,qE,qF,qG,qH,qI,qJ,qK,qL,qM,qN,qO,qP,qQ,qR,qS,qT,qX,qY,qZ,q0,q5,qU,Nat.reduceBEq,qV,qW,if_true,if_false,q6,reduceCtorEq,Nat.reduceEqDiff,ne_eq,q7,q8,decide_true,decide_false,q9,ya]
   refine oks_step rfl ?_
   simp (disch := decide) only [e_neg, zd, zf,zg,zh,zi,zj,zk,zl,zm,zn,zo,zp,zq,zr,zt,zu,zv,zw,zx,zy,zz,zA,zB,zC,zD,zE,zF,zG,zH,zI,zJ,zK,zL,zM,zN,zO,zP,zQ,zR,zS,zT,zU,zV,zW,zX,zY,zZ,z0,z5,z6,z7,z8,z9,qa,qb,qc,qd,qe,qf,qg,qh,qi,qj,qk,ql,qm,qo,qp,qr,qt,qw,qx,qy,qz,qA,qB,qC,qD,qE,qF,qG,qH,qI,qJ,qK,qL,qM,qN,qO,qP,qQ,qR,qS,qT,qX,qY,qZ,q0,q5,qU,Nat.reduceBEq,qV,qW,if_true,if_false,q6,reduceCtorEq,Nat.reduceEqDiff,ne_eq,q7,q8,decide_true,decide_false,q9,ya]
   exact h
  ·simp (disch := decide) only [h2, ok_lenS, ok_gt, ok_truthb, zf,zg,zh,zi,zj,zk,zl,zm,zn,zo,zp,zq,zr,zt,zu,zv,zw,zx,zy,zz,zA,zB,zC,zD,zE,zF,zG,zH,zI,zJ,zK,zL,zM,zN,zO,zP,zQ,zR,zS,zT,zU,zV,zW,zX,zY,zZ,z0,z5,z6,z7,z8,z9,qa,qb,qc,qd,qe,qf,qg,qh,qi,qj,qk,ql,qm,qo,qp,qr,qt,qw,qx,qy,qz,qA,qB,qC,qD,qE,qF,qG,qH,qI,qJ,qK,qL,qM,qN,qO,qP,qQ,qR,qS,qT,qX,qY,qZ,q0,q5,qU,Nat.reduceBEq,qV,qW,if_true,if_false,q6,reduceCtorEq,Nat.reduceEqDiff,ne_eq,q7,q8,decide_true,decide_false,q9,ya]
   have rest : ∀ loc : Loc, loc 134 = some (.str (strL w)) → ¬ (w.head? = some 48 ∧ w ≠ [48]) → OkS (exs prog (run prog 1000 d) 1000 f__law_number_2 loc σ) (runK Q) := fun loc e hq => by
    obtain ⟨l', q1, q2⟩ := lnum_for (C := run prog 1000 d) (σ := σ) ha hl e
    have en : numOK w = w.all dig := by
     unfold numOK
     rw [decide_eq_true h1, decide_eq_true (show w.length ≤ 60 by lia), ← Bool.decide_and, decide_eq_false hq]
     simp
    refine oks_step rfl ?_
    rw [q1]
    cases hd : w.all dig with
    | true =>
     refine then_step rfl ?_
     have hf := numOK_figs (en.trans hd)
     have e' : lawN w = (digV w : Nat) := by unfold lawN; rw [en, hd]; rfl
     rw [e'] at h
     simp (disch := decide) only [q2 134 (by decide), e, ok_int hf, zd, zf,zg,zh,zi,zj,zk,zl,zm,zn,zo,zp,zq,zr,zt,zu,zv,zw,zx,zy,zz,zA,zB,zC,zD,zE,zF,zG,zH,zI,zJ,zK,zL,zM,zN,zO,zP,zQ,zR,zS,zT,zU,zV,zW,zX,zY,zZ,z0,z5,z6,z7,z8,z9,qa,qb,qc,qd,qe,qf,qg,qh,qi,qj,qk,ql,qm,qo,qp,qr,qt,qw,qx,qy,qz,qA,qB,qC,qD,qE,qF,qG,qH,qI,qJ,qK,qL,qM,qN,qO,qP,qQ,qR,qS,qT,qX,qY,qZ,q0,q5,qU,Nat.reduceBEq,qV,qW,if_true,if_false,q6,reduceCtorEq,Nat.reduceEqDiff,ne_eq,q7,q8,decide_true,decide_false,q9,ya]
     exact h
    | false =>
     have e' : lawN w = -1 := by unfold lawN; rw [en, hd]; rfl
     rw [e'] at h
     exact h
   by_cases h3 : ((w.length : Nat) : Int) > 1
   ·simp (disch := decide) only [h3, ok_truthb, ok_getStr (Int.le_refl 0) hc2, s_nought, ok_eqS, strL_eq, zf,zg,zh,zi,zj,zk,zl,zm,zn,zo,zp,zq,zr,zt,zu,zv,zw,zx,zy,zz,zA,zB,zC,zD,zE,zF,zG,zH,zI,zJ,zK,zL,zM,zN,zO,zP,zQ,zR,zS,zT,zU,zV,zW,zX,zY,zZ,z0,z5,z6,z7,z8,z9,qa,qb,qc,qd,qe,qf,qg,qh,qi,qj,qk,ql,qm,qo,qp,qr,qt,qw,qx,qy,qz,qA,qB,qC,qD,qE,qF,qG,qH,qI,qJ,qK,qL,qM,qN,qO,qP,qQ,qR,qS,qT,qX,qY,qZ,q0,q5,qU,Nat.reduceBEq,qV,qW,if_true,if_false,q6,reduceCtorEq,Nat.reduceEqDiff,ne_eq,q7,q8,decide_true,decide_false,q9,ya]
    by_cases h4 : [c] = [48]
    ·have e0 : c = 48 := List.head_eq_of_cons_eq h4
     have e : lawN w = -1 := by
      have e1 : w ≠ [48] := fun e => by rw [e] at h3; exact absurd h3 (by decide)
      unfold lawN numOK
      rw [hc1, e0, decide_eq_true rfl, decide_eq_true e1]
      simp
     rw [e] at h
     simp (disch := decide) only [h4, ok_truthb, zf,zg,zh,zi,zj,zk,zl,zm,zn,zo,zp,zq,zr,zt,zu,zv,zw,zx,zy,zz,zA,zB,zC,zD,zE,zF,zG,zH,zI,zJ,zK,zL,zM,zN,zO,zP,zQ,zR,zS,zT,zU,zV,zW,zX,zY,zZ,z0,z5,z6,z7,z8,z9,qa,qb,qc,qd,qe,qf,qg,qh,qi,qj,qk,ql,qm,qo,qp,qr,qt,qw,qx,qy,qz,qA,qB,qC,qD,qE,qF,qG,qH,qI,qJ,qK,qL,qM,qN,qO,qP,qQ,qR,qS,qT,qX,qY,qZ,q0,q5,qU,Nat.reduceBEq,qV,qW,if_true,if_false,q6,reduceCtorEq,Nat.reduceEqDiff,ne_eq,q7,q8,decide_true,decide_false,q9,ya]
     refine oks_step rfl ?_
     simp (disch := decide) only [e_neg, zd, zf,zg,zh,zi,zj,zk,zl,zm,zn,zo,zp,zq,zr,zt,zu,zv,zw,zx,zy,zz,zA,zB,zC,zD,zE,zF,zG,zH,zI,zJ,zK,zL,zM,zN,zO,zP,zQ,zR,zS,zT,zU,zV,zW,zX,zY,zZ,z0,z5,z6,z7,z8,z9,qa,qb,qc,qd,qe,qf,qg,qh,qi,qj,qk,ql,qm,qo,qp,qr,qt,qw,qx,qy,qz,qA,qB,qC,qD,qE,qF,qG,qH,qI,qJ,qK,qL,qM,qN,qO,qP,qQ,qR,qS,qT,qX,qY,qZ,q0,q5,qU,Nat.reduceBEq,qV,qW,if_true,if_false,q6,reduceCtorEq,Nat.reduceEqDiff,ne_eq,q7,q8,decide_true,decide_false,q9,ya]
     exact h
    ·simp (disch := decide) only [h4, ok_truthb, zb, zc, zf,zg,zh,zi,zj,zk,zl,zm,zn,zo,zp,zq,zr,zt,zu,zv,zw,zx,zy,zz,zA,zB,zC,zD,zE,zF,zG,zH,zI,zJ,zK,zL,zM,zN,zO,zP,zQ,zR,zS,zT,zU,zV,zW,zX,zY,zZ,z0,z5,z6,z7,z8,z9,qa,qb,qc,qd,qe,qf,qg,qh,qi,qj,qk,ql,qm,qo,qp,qr,qt,qw,qx,qy,qz,qA,qB,qC,qD,qE,qF,qG,qH,qI,qJ,qK,qL,qM,qN,qO,qP,qQ,qR,qS,qT,qX,qY,qZ,q0,q5,qU,Nat.reduceBEq,qV,qW,if_true,if_false,q6,reduceCtorEq,Nat.reduceEqDiff,ne_eq,q7,q8,decide_true,decide_false,q9,ya]
     exact rest _ rfl fun q => h4 (by rw [hc1] at q; rw [Option.some.inj q.1])
   ·simp (disch := decide) only [h3, ok_truthb, zb, zc, zf,zg,zh,zi,zj,zk,zl,zm,zn,zo,zp,zq,zr,zt,zu,zv,zw,zx,zy,zz,zA,zB,zC,zD,zE,zF,zG,zH,zI,zJ,zK,zL,zM,zN,zO,zP,zQ,zR,zS,zT,zU,zV,zW,zX,zY,zZ,z0,z5,z6,z7,z8,z9,qa,qb,qc,qd,qe,qf,qg,qh,qi,qj,qk,ql,qm,qo,qp,qr,qt,qw,qx,qy,qz,qA,qB,qC,qD,qE,qF,qG,qH,qI,qJ,qK,qL,qM,qN,qO,qP,qQ,qR,qS,qT,qX,qY,qZ,q0,q5,qU,Nat.reduceBEq,qV,qW,if_true,if_false,q6,reduceCtorEq,Nat.reduceEqDiff,ne_eq,q7,q8,decide_true,decide_false,q9,ya]
    refine rest _ rfl fun q => q.2 ?_
    have l1 : w.length = 1 := by lia
    cases w with
    | nil => exact absurd rfl h0
    | cons a r =>
     cases r with
     | nil => rw [Option.some.inj q.1]
     | cons _ _ => exact absurd l1 (by simp)
end
end Mine.Internal.L05
set_option autoImplicit false
set_option linter.unusedSimpArgs false
set_option linter.unusedVariables false
namespace Mine.Internal.L05
open Mine.Internal
open PySem (Str PyData)
theorem ext_put {σ τ : H} (x : Ext σ τ) {a : Nat} (h : σ.length ≤ a) (o : O) : Ext σ (τ.put a o) := fun c p g => (get_put_ne (Nat.ne_of_gt (Nat.lt_of_lt_of_le (get_lt g) h))).trans (x c p g)
noncomputable def wl : List (List Nat × Nat) := [([109, 97, 107, 101], 2), ([104, 111, 108, 100], 2), ([100, 114, 111, 112], 1), ([112, 117, 116], 3), ([101, 109, 112, 116, 121], 2), ([116, 97, 107, 101], 3), ([116, 105, 100, 121], 0)]
theorem words_eq : words = wl.map fun q => (V.str (strL q.1), V.int (q.2 : Int)) := by kernel_rfl
noncomputable def lookW : List (List Nat × Nat) → List Nat → Option Nat
 | [], _ => none
 | (k, n) :: r, p => if k = p then some n else lookW r p
theorem dget_map {p : List Nat} : ∀ l : List (List Nat × Nat), dget (l.map fun q => (V.str (strL q.1), V.int (q.2 : Int))) (.str (strL p)) = (lookW l p).map fun n => V.int (n : Int)
 | [] => rfl
 | (k, n) :: r => by
  show (if V.str (strL k) = V.str (strL p) then some (V.int (n : Int)) else dget (r.map fun q => (V.str (strL q.1), V.int (q.2 : Int))) (.str (strL p))) = _
  unfold lookW
  by_cases h : k = p
  ·subst h; rw [if_pos rfl, if_pos rfl]; rfl
  ·rw [if_neg h, if_neg fun e => h (strL_eq.mp (V.str.inj e)), dget_map r]
theorem dget_words {p : List Nat} : dget words (.str (strL p)) = (lookW wl p).map fun n => V.int (n : Int) := by rw [words_eq]; exact dget_map wl
noncomputable def mkE : List (Str × Int) → Exs
 | [] => .nil
 | (s, n) :: r => .cons (.tup (.cons (.cstr s) (.cons (.cint n) .nil))) (mkE r)
noncomputable def formsS : List (Str × Int) := [(.ofString "make", 2), (.ofString "hold", 2), (.ofString "drop", 1), (.ofString "put", 3), (.ofString "empty", 2), (.ofString "take", 3), (.ofString "tidy", 0)]
theorem forms_eq : formsS = wl.map fun q => (strL q.1, (q.2 : Int)) := by kernel_rfl
section
variable {C : Calls} {σ : H} {d : Nat}
theorem evs_forms {loc : Loc} : ∀ (fs : List (Str × Int)) (σ : H), ∃ vs τ, evs prog C (mkE fs) loc σ = some (.ok vs, τ) ∧ Ext σ τ ∧ vs.length = fs.length ∧ ∀ (j : Nat) (f : Str × Int), fs[j]? = some f → ∃ a, vs[j]? = some (.ref a) ∧ τ.get a = some (.tup [.str f.1, .int f.2])
 | [], σ => ⟨[], σ, rfl, Ext.refl _, rfl, fun j f h => by simp at h⟩
 | (s, n) :: r, σ => by
  obtain ⟨vs, τ, e, x, hl, hv⟩ := evs_forms (loc := loc) r (σ.push (.tup [.str s, .int n]))
  refine ⟨.ref σ.length :: vs, τ, ?_, ((Ext.refl σ).push _).trans x, congrArg (· + 1) hl, fun j f h => ?_⟩
  ·show X.bind (ev prog C (.tup (.cons (.cstr s) (.cons (.cint n) .nil))) loc) (fun v => X.bind (evs prog C (mkE r) loc) fun vs => X.pure (v :: vs)) σ = _
   have e1 : ev prog C (.tup (.cons (.cstr s) (.cons (.cint n) .nil))) loc σ = some (.ok (.ref σ.length), σ.push (.tup [.str s, .int n])) := rfl
   unfold X.bind
   rw [e1]
   dsimp only
   rw [e]
   rfl
  ·cases j with
   | zero => cases h; exact ⟨_, rfl, x _ _ get_push_eq⟩
   | succ j => exact hv j f h
theorem many_loop {p : List Nat} {v : V} {h₀ : H} {F : Nat} {Q : Option V → Loc → H → Prop} (hs : still v h₀ σ = true) : ∀ (fs : List (List Nat × Nat)) (rs : List V) (loc : Loc), rs.length = fs.length → (∀ (j : Nat) (f : List Nat × Nat), fs[j]? = some f → ∃ a, rs[j]? = some (.ref a) ∧ σ.get a = some (.tup [.str (strL f.1), .int (f.2 : Int)])) → loc 134 = some (.str (strL p)) →
  (∀ l', lookW fs p = none → Q none l' σ) → (∀ l' n, lookW fs p = some n → Q (some (.int (n : Int))) l' σ) → OkF prog C F v [193, 194] true f__law_many_2f_1 h₀ rs loc σ Q
 | [], [], loc, _, _, _, h1, _ => h1 loc rfl
 | [], _ :: _, _, hl, _, _, _, _ => by simp at hl
 | _ :: _, [], _, hl, _, _, _, _ => by simp at hl
 | (k, n) :: fs, r :: rs, loc, hl, hr, e, h1, h2 => by
  obtain ⟨a, ea, ga⟩ := hr 0 (k, n) rfl
  have ea : r = .ref a := Option.some.inj ea
  subst ea
  have hb : bindTg [193, 194] true (.ref a) loc σ = some ((loc.upd 193 (.str (strL k))).upd 194 (.int (n : Int))) := by
   unfold bindTg
   simp only [ga]
   rfl
  refine f_step hb ?_
  have e1 : ((loc.upd 193 (.str (strL k))).upd 194 (.int (n : Int))) 134 = some (.str (strL p)) := (upd_no (by decide)).trans ((upd_no (by decide)).trans e)
  have e2 : ((loc.upd 193 (.str (strL k))).upd 194 (.int (n : Int))) 193 = some (.str (strL k)) := (upd_no (by decide)).trans upd_at
  have e3 : ((loc.upd 193 (.str (strL k))).upd 194 (.int (n : Int))) 194 = some (.int (n : Int)) := upd_at
  generalize (loc.upd 193 (.str (strL k))).upd 194 (.int (n : Int)) = l1 at *
  refine oks_step rfl ?_
  simp (disch := decide) only [e1, e2, ok_eqS, strL_eq, ok_truthb, zf,zg,zh,zi,zj,zk,zl,zm,zn,zo,zp,zq,zr,zt,zu,zv,zw,zx,zy,zz,zA,zB,zC,zD,zE,zF,zG,zH,zI,zJ,zK,zL,zM,zN,zO,zP,zQ,zR,zS,zT,zU,zV,zW,zX,zY,zZ,z0,z5,z6,z7,z8,z9,qa,qb,qc,qd,qe,qf,qg,qh,qi,qj,qk,ql,qm,qo,qp,qr,qt,qw,qx,qy,qz,qA,qB,qC,qD,qE,qF,qG,qH,qI,qJ,qK,qL,qM,qN,qO,qP,qQ,qR,qS,qT,qX,qY,qZ,q0,q5,qU,Nat.reduceBEq,qV,qW,if_true,if_false,q6,reduceCtorEq,Nat.reduceEqDiff,ne_eq,q7,q8,decide_true,decide_false,q9,ya]
  by_cases hk : k = p
  ·simp (disch := decide) only [hk, zf,zg,zh,zi,zj,zk,zl,zm,zn,zo,zp,zq,zr,zt,zu,zv,zw,zx,zy,zz,zA,zB,zC,zD,zE,zF,zG,zH,zI,zJ,zK,zL,zM,zN,zO,zP,zQ,zR,zS,zT,zU,zV,zW,zX,zY,zZ,z0,z5,z6,z7,z8,z9,qa,qb,qc,qd,qe,qf,qg,qh,qi,qj,qk,ql,qm,qo,qp,qr,qt,qw,qx,qy,qz,qA,qB,qC,qD,qE,qF,qG,qH,qI,qJ,qK,qL,qM,qN,qO,qP,qQ,qR,qS,qT,qX,qY,qZ,q0,q5,qU,Nat.reduceBEq,qV,qW,if_true,if_false,q6,reduceCtorEq,Nat.reduceEqDiff,ne_eq,q7,q8,decide_true,decide_false,q9,ya]
   refine oks_step rfl ?_
   simp (disch := decide) only [e3, zd, zf,zg,zh,zi,zj,zk,zl,zm,zn,zo,zp,zq,zr,zt,zu,zv,zw,zx,zy,zz,zA,zB,zC,zD,zE,zF,zG,zH,zI,zJ,zK,zL,zM,zN,zO,zP,zQ,zR,zS,zT,zU,zV,zW,zX,zY,zZ,z0,z5,z6,z7,z8,z9,qa,qb,qc,qd,qe,qf,qg,qh,qi,qj,qk,ql,qm,qo,qp,qr,qt,qw,qx,qy,qz,qA,qB,qC,qD,qE,qF,qG,qH,qI,qJ,qK,qL,qM,qN,qO,qP,qQ,qR,qS,qT,qX,qY,qZ,q0,q5,qU,Nat.reduceBEq,qV,qW,if_true,if_false,q6,reduceCtorEq,Nat.reduceEqDiff,ne_eq,q7,q8,decide_true,decide_false,q9,ya]
   exact h2 _ n (by unfold lookW; rw [if_pos hk])
  ·have el : lookW ((k, n) :: fs) p = lookW fs p := by show (if k = p then _ else _) = _; rw [if_neg hk]
   simp (disch := decide) only [hk, zb, zc, zf,zg,zh,zi,zj,zk,zl,zm,zn,zo,zp,zq,zr,zt,zu,zv,zw,zx,zy,zz,zA,zB,zC,zD,zE,zF,zG,zH,zI,zJ,zK,zL,zM,zN,zO,zP,zQ,zR,zS,zT,zU,zV,zW,zX,zY,zZ,z0,z5,z6,z7,z8,z9,qa,qb,qc,qd,qe,qf,qg,qh,qi,qj,qk,ql,qm,qo,qp,qr,qt,qw,qx,qy,qz,qA,qB,qC,qD,qE,qF,qG,qH,qI,qJ,qK,qL,qM,qN,qO,qP,qQ,qR,qS,qT,qX,qY,qZ,q0,q5,qU,Nat.reduceBEq,qV,qW,if_true,if_false,q6,reduceCtorEq,Nat.reduceEqDiff,ne_eq,q7,q8,decide_true,decide_false,q9,ya]
   refine ⟨hs, many_loop hs fs rs l1 (by simpa using hl) (fun j f h => hr (j + 1) f h) e1 (fun l' h => h1 l' (el.trans h)) fun l' m h => h2 l' m (el.trans h)⟩
noncomputable def manyN (p : List Nat) : Int := ((lookW wl p).map fun n => (n : Int)).getD (-1)
theorem many_ok {p : List Nat} {Q : V → H → Prop} (h : ∀ τ, Ext σ τ → Q (.int (manyN p)) τ) : Ok (run prog 1000 (d + 1) false 90 [.str (strL p)]) σ Q := by
 rw [ok_run (fd := f__law_many) rfl rfl]
 have hb : f__law_many.body = .cons (.asg (.var 192) (.list (mkE formsS))) f__law_many_2 := by kernel_rfl
 rw [hb]
 refine oks_step rfl ?_
 obtain ⟨vs, τ, e, x, hl, hv⟩ := evs_forms (C := run prog 1000 d) (loc := ((f__law_many.params.zip [V.str (strL p)]).foldl (fun l p => l.upd p.1 p.2) fun _ => none)) formsS σ
 have hl7 : vs.length = 7 := hl
 rw [zh, qo, qO, ok_some e, qP, qp, ok_alloc (show okO (.list vs) = true from decide_eq_true (by rw [hl7]; decide)), zi]
 have x1 := x.push (.list vs)
 have g1 : (τ.push (.list vs)).get τ.length = some (.list vs) := get_push_eq
 refine then_step rfl ?_
 rw [s_for]
 simp (disch := decide) only [zf,zg,zh,zi,zj,zk,zl,zm,zn,zo,zp,zq,zr,zt,zu,zv,zw,zx,zy,zz,zA,zB,zC,zD,zE,zF,zG,zH,zI,zJ,zK,zL,zM,zN,zO,zP,zQ,zR,zS,zT,zU,zV,zW,zX,zY,zZ,z0,z5,z6,z7,z8,z9,qa,qb,qc,qd,qe,qf,qg,qh,qi,qj,qk,ql,qm,qo,qp,qr,qt,qw,qx,qy,qz,qA,qB,qC,qD,qE,qF,qG,qH,qI,qJ,qK,qL,qM,qN,qO,qP,qQ,qR,qS,qT,qX,qY,qZ,q0,q5,qU,Nat.reduceBEq,qV,qW,if_true,if_false,q6,reduceCtorEq,Nat.reduceEqDiff,ne_eq,q7,q8,decide_true,decide_false,q9,ya]
 refine ⟨vs, it_list g1, many_loop (p := p) (still_get rfl) wl vs _ hl (fun j f hf => ?_) rfl (fun l' hn => ?_) fun l' n hn => ?_⟩
 ·obtain ⟨a, q1, q2⟩ := hv j (strL f.1, (f.2 : Int)) (by rw [forms_eq, List.getElem?_map, hf]; rfl)
  exact ⟨a, q1, get_keep q2⟩
 ·refine then_step rfl ?_
  simp (disch := decide) only [e_neg, zd, zf,zg,zh,zi,zj,zk,zl,zm,zn,zo,zp,zq,zr,zt,zu,zv,zw,zx,zy,zz,zA,zB,zC,zD,zE,zF,zG,zH,zI,zJ,zK,zL,zM,zN,zO,zP,zQ,zR,zS,zT,zU,zV,zW,zX,zY,zZ,z0,z5,z6,z7,z8,z9,qa,qb,qc,qd,qe,qf,qg,qh,qi,qj,qk,ql,qm,qo,qp,qr,qt,qw,qx,qy,qz,qA,qB,qC,qD,qE,qF,qG,qH,qI,qJ,qK,qL,qM,qN,qO,qP,qQ,qR,qS,qT,qX,qY,qZ,q0,q5,qU,Nat.reduceBEq,qV,qW,if_true,if_false,q6,reduceCtorEq,Nat.reduceEqDiff,ne_eq,q7,q8,decide_true,decide_false,q9,ya]
  have := h _ x1
  unfold manyN at this
  rw [hn] at this
  exact this
 ·have := h _ x1
  unfold manyN at this
  rw [hn] at this
  exact this
end
end Mine.Internal.L05
set_option autoImplicit false
set_option linter.unusedSimpArgs false
set_option linter.unusedVariables false
namespace Mine.Internal.L05
open Mine.Internal
open PySem (Str PyData)
theorem split_ne {c : Nat} : ∀ l : List Nat, ∃ w ws, splitC c l = w :: ws
 | [] => ⟨[], [], rfl⟩
 | x :: r => by
  obtain ⟨w, ws, e⟩ := split_ne (c := c) r
  unfold splitC
  by_cases h : x = c
  ·rw [if_pos h]; exact ⟨_, _, rfl⟩
  ·rw [if_neg h, e]; exact ⟨_, _, rfl⟩
theorem split_cons {c x : Nat} {l w : List Nat} {ws : List (List Nat)} (h : x ≠ c) (e : splitC c l = w :: ws) : splitC c (x :: l) = (x :: w) :: ws := by
 show (if x = c then [] :: splitC c l else match splitC c l with | [] => [[x]] | w :: ws => (x :: w) :: ws) = _
 rw [if_neg h, e]
theorem split_sep {c : Nat} {l : List Nat} : splitC c (c :: l) = [] :: splitC c l := if_pos rfl
noncomputable def snocW (c x : Nat) : List (List Nat) → List (List Nat)
 | [] => []
 | [w] => if x = c then [w, []] else [w ++ [x]]
 | w :: v :: ws => w :: snocW c x (v :: ws)
theorem split_snoc {c x : Nat} : ∀ l : List Nat, splitC c (l ++ [x]) = snocW c x (splitC c l)
 | [] => by
  show (if x = c then [] :: splitC c [] else match splitC c [] with | [] => [[x]] | w :: ws => (x :: w) :: ws) = (if x = c then [[], []] else [[] ++ [x]])
  by_cases h : x = c
  ·rw [if_pos h, if_pos h]; rfl
  ·rw [if_neg h, if_neg h]; rfl
 | y :: r => by
  obtain ⟨w, ws, e⟩ := split_ne (c := c) r
  have ih := split_snoc (c := c) (x := x) r
  by_cases h : y = c
  ·rw [h, List.cons_append, split_sep, split_sep, ih, e]
   rfl
  ·obtain ⟨w', ws', e'⟩ := split_ne (c := c) (r ++ [x])
   rw [List.cons_append, split_cons h e', split_cons h e]
   rw [e', e] at ih
   cases ws with
   | nil =>
    have ih : w' :: ws' = (if x = c then [w, []] else [w ++ [x]]) := ih
    show _ = (if x = c then [y :: w, []] else [(y :: w) ++ [x]])
    by_cases hx : x = c
    ·rw [if_pos hx] at ih ⊢; cases ih; rfl
    ·rw [if_neg hx] at ih ⊢; cases ih; rfl
   | cons v ws =>
    have ih : w' :: ws' = w :: snocW c x (v :: ws) := ih
    cases ih
    rfl
theorem split_sub {c : Nat} : ∀ {l w : List Nat}, w ∈ splitC c l → ∀ d ∈ w, d ∈ l
 | [], w, h, d, hd => by
  have h : w ∈ [([] : List Nat)] := h
  rw [List.mem_singleton.mp h] at hd; exact hd
 | x :: r, w, h, d, hd => by
  by_cases hx : x = c
  ·rw [hx, split_sep] at h
   rcases List.mem_cons.mp h with h | h
   ·rw [h] at hd; exact nomatch hd
   ·exact .tail _ (split_sub h d hd)
  ·obtain ⟨v, vs, e⟩ := split_ne (c := c) r
   rw [split_cons hx e] at h
   rcases List.mem_cons.mp h with h | h
   ·rw [h] at hd
    rcases List.mem_cons.mp hd with hd | hd
    ·rw [hd]; exact .head _
    ·exact .tail _ (split_sub (w := v) (by rw [e]; exact .head _) d hd)
   ·exact .tail _ (split_sub (w := w) (by rw [e]; exact .tail _ h) d hd)
theorem split_len {c : Nat} : ∀ {l w : List Nat}, w ∈ splitC c l → w.length ≤ l.length
 | [], w, h => by
  have h : w ∈ [([] : List Nat)] := h
  rw [List.mem_singleton.mp h]; exact Nat.le_refl _
 | x :: r, w, h => by
  by_cases hx : x = c
  ·rw [hx, split_sep] at h
   rcases List.mem_cons.mp h with h | h
   ·rw [h]; exact Nat.zero_le _
   ·exact Nat.le_succ_of_le (split_len h)
  ·obtain ⟨v, vs, e⟩ := split_ne (c := c) r
   rw [split_cons hx e] at h
   rcases List.mem_cons.mp h with h | h
   ·rw [h]; exact Nat.succ_le_succ (split_len (w := v) (by rw [e]; exact .head _))
   ·exact Nat.le_succ_of_le (split_len (w := w) (by rw [e]; exact .tail _ h))
theorem split_count {c : Nat} : ∀ l : List Nat, (splitC c l).length ≤ l.length + 1
 | [] => Nat.le_refl _
 | x :: r => by
  have ih := split_count (c := c) r
  by_cases hx : x = c
  ·rw [hx, split_sep]; exact Nat.succ_le_succ ih
  ·obtain ⟨v, vs, e⟩ := split_ne (c := c) r
   rw [split_cons hx e]
   rw [e] at ih
   exact Nat.le_succ_of_le ih
noncomputable def wV (ws : List (List Nat)) : List V := ws.map fun l => .str (strL l)
theorem wV_len {ws : List (List Nat)} : (wV ws).length = ws.length := List.length_map _
theorem snoc_blank {c : Nat} : ∀ {ws : List (List Nat)}, ws ≠ [] → wV (snocW c c ws) = wV ws ++ [.str (strL [])]
 | [], h => absurd rfl h
 | [w], _ => by unfold snocW; rw [if_pos rfl]; rfl
 | w :: v :: ws, _ => by
  have ih := snoc_blank (c := c) (ws := v :: ws) (fun e => nomatch e)
  show V.str (strL w) :: wV (snocW c c (v :: ws)) = _
  rw [ih]; rfl
theorem snoc_sign {c x : Nat} (hx : x ≠ c) : ∀ {ws : List (List Nat)}, ws ≠ [] → ∃ w n, ws.length = n + 1 ∧ (wV ws)[n]? = some (.str (strL w)) ∧ w ∈ ws ∧ wV (snocW c x ws) = (wV ws).set n (.str (strL (w ++ [x])))
 | [], h => absurd rfl h
 | [w], _ => ⟨w, 0, rfl, rfl, .head _, by unfold snocW; rw [if_neg hx]; rfl⟩
 | w :: v :: ws, _ => by
  obtain ⟨u, n, e1, e2, e3, e4⟩ := snoc_sign hx (ws := v :: ws) (fun e => nomatch e)
  refine ⟨u, n + 1, congrArg (· + 1) e1, e2, .tail _ e3, ?_⟩
  show V.str (strL w) :: wV (snocW c x (v :: ws)) = (V.str (strL w) :: wV (v :: ws)).set (n + 1) _
  rw [e4]; rfl
section
variable {P : Prog} {C : Calls} {σ : H} {d : Nat}
theorem ok_getLast {a n : Nat} {xs : List V} {v : V} {Q : V → H → Prop} (h1 : σ.get a = some (.list xs)) (hn : xs.length = n + 1) (h3 : xs[n]? = some v) : Ok (getItem P (.ref a) (.int (-1))) σ Q = Q v σ := by
 refine ok_some ?_
 unfold getItem; simp only [h1, hn, idx_neg, Option.bind_some, h3, Option.map_some]
theorem ok_setLast {a n : Nat} {xs : List V} {v : V} {Q : Unit → H → Prop} (h1 : σ.get a = some (.list xs)) (ha : P.nf ≤ a) (hn : xs.length = n + 1) : Ok (setItem P (.ref a) (.int (-1)) v) σ Q = Q () (σ.put a (.list (xs.set n v))) :=
 ok_some (by
  have := getM_of h1 ha
  unfold setItem; simp only [this, hn, idx_neg, Option.map_some])
theorem cut_loop {l : List Nat} (ha : ∀ c ∈ l, c < 128) (hl : l.length ≤ 500) {lc : Loc} {wa : Nat} (hw : prog.nf ≤ wa) {F : Nat} {Q : Option V → Loc → H → Prop} (g : σ.get wa = some (.list (wV [[]]))) (e1 : lc 133 = some (.ref wa)) (e2 : lc 197 = some (.str (strL l)))
  (h : ∀ l' τ, τ.get wa = some (.list (wV (splitC 32 l))) → (∀ B, (B ≤ wa) → ∀ σ₀ : H, σ₀.length ≤ B → Ext σ₀ σ → Ext σ₀ τ) → l' 133 = some (.ref wa) → Q none l' τ) :
  OkS (ex prog C F (.for [195] false (.loc 197) f__law_due_of_2f_1) lc σ) Q := by
 rw [s_for]
 simp (disch := decide) only [e2, za,zb,zc,zd,zf,zg,zh,zi,zj,zk,zl,zm,zn,zo,zp,zq,zr,zt,zu,zv,zw,zx,zy,zz,zA,zB,zC,zD,zE,zF,zG,zH,zI,zJ,zK,zL,zM,zN,zO,zP,zQ,zR,zS,zT,zU,zV,zW,zX,zY,zZ,z0,z5,z6,z7,z8,z9,qa,qb,qc,qd,qe,qf,qg,qh,qi,qj,qk,ql,qm,qo,qp,qr,qt,qw,qx,qy,qz,qA,qB,qC,qD,qE,qF,qG,qH,qI,qJ,qK,qL,qM,qN,qO,qP,qQ,qR,qS,qT,qX,qY,qZ,q0,q5,qU,Nat.reduceBEq,qV,qW,if_true,if_false,q6,reduceCtorEq,Nat.reduceEqDiff,ne_eq,q7,q8,decide_true,decide_false,q9,ya]
 refine ⟨_, it_str ha (by lia), f_inv (fun j l₁ s => s.get wa = some (.list (wV (splitC 32 (l.take j)))) ∧ (∀ B, (B ≤ wa) → ∀ σ₀ : H, σ₀.length ≤ B → Ext σ₀ σ → Ext σ₀ s) ∧ l₁ 133 = some (.ref wa)) ⟨g, fun _ _ _ _ x => x, e1⟩ ?_ ?_⟩
 ·rintro j l₁ s y hy ⟨g1, x1, m1⟩
  unfold chs at hy
  rw [List.getElem?_map] at hy
  obtain ⟨c, hc, rfl⟩ := Option.map_eq_some_iff.mp hy
  obtain ⟨hj, hcj⟩ := List.getElem?_eq_some_iff.mp hc
  have et : l.take (j + 1) = l.take j ++ [c] := by rw [List.take_add_one, hc]; rfl
  have f1 : (l₁.upd 195 (.str (strL [c]))) 195 = some (.str (strL [c])) := upd_at
  have f2 : (l₁.upd 195 (.str (strL [c]))) 133 = some (.ref wa) := (upd_no (by decide)).trans m1
  generalize l₁.upd 195 (.str (strL [c])) = l2 at *
  have ne : splitC 32 (l.take j) ≠ [] := by obtain ⟨w, ws, e⟩ := split_ne (c := 32) (l.take j); rw [e]; exact fun h => nomatch h
  have cnt := split_count (c := 32) (l.take j)
  have tl : (l.take j).length ≤ l.length := by rw [List.length_take]; exact Nat.min_le_right _ _
  rw [et, split_snoc]
  refine oks_step rfl ?_
  simp (disch := decide) only [f1, s_blank, ok_eqS, strL_eq, ok_truthb, zf,zg,zh,zi,zj,zk,zl,zm,zn,zo,zp,zq,zr,zt,zu,zv,zw,zx,zy,zz,zA,zB,zC,zD,zE,zF,zG,zH,zI,zJ,zK,zL,zM,zN,zO,zP,zQ,zR,zS,zT,zU,zV,zW,zX,zY,zZ,z0,z5,z6,z7,z8,z9,qa,qb,qc,qd,qe,qf,qg,qh,qi,qj,qk,ql,qm,qo,qp,qr,qt,qw,qx,qy,qz,qA,qB,qC,qD,qE,qF,qG,qH,qI,qJ,qK,qL,qM,qN,qO,qP,qQ,qR,qS,qT,qX,qY,qZ,q0,q5,qU,Nat.reduceBEq,qV,qW,if_true,if_false,q6,reduceCtorEq,Nat.reduceEqDiff,ne_eq,q7,q8,decide_true,decide_false,q9,ya]
  by_cases hb : [c] = [32]
  ·have hb' : c = 32 := List.head_eq_of_cons_eq hb
   subst hb'
   simp (disch := decide) only [zf,zg,zh,zi,zj,zk,zl,zm,zn,zo,zp,zq,zr,zt,zu,zv,zw,zx,zy,zz,zA,zB,zC,zD,zE,zF,zG,zH,zI,zJ,zK,zL,zM,zN,zO,zP,zQ,zR,zS,zT,zU,zV,zW,zX,zY,zZ,z0,z5,z6,z7,z8,z9,qa,qb,qc,qd,qe,qf,qg,qh,qi,qj,qk,ql,qm,qo,qp,qr,qt,qw,qx,qy,qz,qA,qB,qC,qD,qE,qF,qG,qH,qI,qJ,qK,qL,qM,qN,qO,qP,qQ,qR,qS,qT,qX,qY,qZ,q0,q5,qU,Nat.reduceBEq,qV,qW,if_true,if_false,q6,reduceCtorEq,Nat.reduceEqDiff,ne_eq,q7,q8,decide_true,decide_false,q9,ya]
   refine oks_step rfl ?_
   simp (disch := decide) only [f2, mx_list g1 (.inl rfl), s_empty, ok_append g1 hw (le_lim (by rw [List.length_append, wV_len]; simp; lia)), zb, zc, zf,zg,zh,zi,zj,zk,zl,zm,zn,zo,zp,zq,zr,zt,zu,zv,zw,zx,zy,zz,zA,zB,zC,zD,zE,zF,zG,zH,zI,zJ,zK,zL,zM,zN,zO,zP,zQ,zR,zS,zT,zU,zV,zW,zX,zY,zZ,z0,z5,z6,z7,z8,z9,qa,qb,qc,qd,qe,qf,qg,qh,qi,qj,qk,ql,qm,qo,qp,qr,qt,qw,qx,qy,qz,qA,qB,qC,qD,qE,qF,qG,qH,qI,qJ,qK,qL,qM,qN,qO,qP,qQ,qR,qS,qT,qX,qY,qZ,q0,q5,qU,Nat.reduceBEq,qV,qW,if_true,if_false,q6,reduceCtorEq,Nat.reduceEqDiff,ne_eq,q7,q8,decide_true,decide_false,q9,ya]
   refine ⟨trivial, rfl, ?_, fun B hB σ₀ h0 x => ext_put (x1 B hB σ₀ h0 x) (Nat.le_trans h0 hB) _, trivial⟩
   rw [get_put_eq (get_lt g1), snoc_blank ne]
  ·have hb' : c ≠ 32 := fun e => hb (by rw [e])
   obtain ⟨w, n, q1, q2, q3, q4⟩ := snoc_sign hb' ne
   have q1' : (wV (splitC 32 (l.take j))).length = n + 1 := by rw [wV_len]; exact q1
   have ok1 : okS (strL (w ++ [c])) = true := okS_of (fun d hd => by
    rcases List.mem_append.mp hd with hd | hd
    ·exact ha d (List.mem_of_mem_take (split_sub q3 d hd))
    ·rw [List.mem_singleton.mp hd]; exact ha c (List.mem_of_getElem? hc)) (le_lim (by
     have := split_len q3
     rw [List.length_append]; simp; lia))
   simp (disch := decide) only [hb, zf,zg,zh,zi,zj,zk,zl,zm,zn,zo,zp,zq,zr,zt,zu,zv,zw,zx,zy,zz,zA,zB,zC,zD,zE,zF,zG,zH,zI,zJ,zK,zL,zM,zN,zO,zP,zQ,zR,zS,zT,zU,zV,zW,zX,zY,zZ,z0,z5,z6,z7,z8,z9,qa,qb,qc,qd,qe,qf,qg,qh,qi,qj,qk,ql,qm,qo,qp,qr,qt,qw,qx,qy,qz,qA,qB,qC,qD,qE,qF,qG,qH,qI,qJ,qK,qL,qM,qN,qO,qP,qQ,qR,qS,qT,qX,qY,qZ,q0,q5,qU,Nat.reduceBEq,qV,qW,if_true,if_false,q6,reduceCtorEq,Nat.reduceEqDiff,ne_eq,q7,q8,decide_true,decide_false,q9,ya]
   refine oks_step rfl ?_
   simp (disch := decide) only [f1, f2, e_neg, ok_getLast g1 q1' q2, ok_cat ok1, ok_setLast g1 hw q1', zb, zc, zf,zg,zh,zi,zj,zk,zl,zm,zn,zo,zp,zq,zr,zt,zu,zv,zw,zx,zy,zz,zA,zB,zC,zD,zE,zF,zG,zH,zI,zJ,zK,zL,zM,zN,zO,zP,zQ,zR,zS,zT,zU,zV,zW,zX,zY,zZ,z0,z5,z6,z7,z8,z9,qa,qb,qc,qd,qe,qf,qg,qh,qi,qj,qk,ql,qm,qo,qp,qr,qt,qw,qx,qy,qz,qA,qB,qC,qD,qE,qF,qG,qH,qI,qJ,qK,qL,qM,qN,qO,qP,qQ,qR,qS,qT,qX,qY,qZ,q0,q5,qU,Nat.reduceBEq,qV,qW,if_true,if_false,q6,reduceCtorEq,Nat.reduceEqDiff,ne_eq,q7,q8,decide_true,decide_false,q9,ya]
   refine ⟨trivial, rfl, ?_, fun B hB σ₀ h0 x => ext_put (x1 B hB σ₀ h0 x) (Nat.le_trans h0 hB) _, trivial⟩
   rw [get_put_eq (get_lt g1), q4]
 ·rintro l₁ s ⟨g1, x1, m1⟩
  have e : l.take (chs l).length = l := by
   have : (chs l).length = l.length := List.length_map _
   rw [this, List.take_length]
  rw [e] at g1
  exact h l₁ s g1 x1 m1
end
end Mine.Internal.L05
set_option autoImplicit false
set_option linter.unusedSimpArgs false
set_option linter.unusedVariables false
namespace Mine.Internal.L05
open Mine.Internal
open PySem (Str PyData)
noncomputable def rd (l : List Nat) : Option (List Nat × List (List Nat)) := match splitC 32 l with
 | p :: ws => if lookW wl p = some ws.length ∧ ws.all numOK = true then some (p, ws) else none
 | [] => none
noncomputable def deedV (p : List Nat) (ns : List Int) : List V := .str (strL p) :: ns.map .int
noncomputable def digs (ws : List (List Nat)) : List Int := ws.map fun w => ((digV w : Nat) : Int)
structure Asc (l : List Nat) : Prop where
 a : ∀ c ∈ l, c < 128
 n : l.length ≤ 500
theorem Asc.part {l : List Nat} (h : Asc l) {w : List Nat} (hw : w ∈ splitC 32 l) : Asc w := ⟨fun c hc => h.a c (split_sub hw c hc), Nat.le_trans (split_len hw) h.n⟩
section
variable {C : Calls} {σ : H} {d : Nat}
theorem comp_nums {v : V} {loc : Loc} (hs : still v σ σ = true) : ∀ ws : List (List Nat), (∀ w ∈ ws, Asc w) →
  compL v [113] false (tstAnd prog (run prog 1000 (d + 1)) .nil) (ev prog (run prog 1000 (d + 1)) (.call 112 (.cons (.loc 113) .nil))) loc σ (wV ws) σ = some (bif ws.all numOK then .ok ((digs ws).map .int) else .err 97, σ)
 | [], _ => rfl
 | w :: ws, h => by
  have ih := comp_nums (loc := loc) hs ws fun w hw => h w (.tail _ hw)
  have hw := h w (.head _)
  have hbt : bindTg [113] false (.str (strL w)) loc σ = some (loc.upd 113 (.str (strL w))) := rfl
  have e1 : (loc.upd 113 (.str (strL w))) 113 = some (.str (strL w)) := upd_at
  unfold wV
  rw [List.map_cons]
  unfold compL
  rw [hbt]
  dsimp only
  have ht : tstAnd prog (run prog 1000 (d + 1)) .nil (loc.upd 113 (.str (strL w))) σ = some (.ok true, σ) := rfl
  rw [ht]
  dsimp only
  have he : ev prog (run prog 1000 (d + 1)) (.call 112 (.cons (.loc 113) .nil)) (loc.upd 113 (.str (strL w))) σ = run prog 1000 (d + 1) false 112 [.str (strL w)] σ := by
   show X.bind (X.bind (X.lift ((loc.upd 113 (.str (strL w))) 113)) fun v => X.bind (X.pure []) fun vs => X.pure (v :: vs)) (fun vs => run prog 1000 (d + 1) false 112 vs) σ = _
   rw [e1]; rfl
  rw [he, number_run hw.a (Nat.le_trans hw.n (by decide))]
  cases hn : numOK w with
  | false =>
   rw [List.all_cons, hn]; rfl
  | true =>
   dsimp only [cond]
   rw [if_pos hs]
   unfold wV at ih
   rw [ih, List.all_cons, hn, Bool.true_and]
   cases ws.all numOK <;> rfl
theorem read_head {l p : List Nat} {ws : List (List Nat)} (hA : Asc l) (es : splitC 32 l = p :: ws) (h1 : σ.get 1 = some (.dict words)) {Q : Option V → Loc → H → Prop} (hg : lookW wl p = some ws.length)
  (h : ∀ (lc : Loc) pa τ, Ext σ τ → τ.get pa = some (.list (wV (p :: ws))) → lc 117 = some (.ref pa) → OkS (exs prog (run prog 1000 (d + 1)) 1000 f_read_3 lc τ) Q) : OkS (exs prog (run prog 1000 (d + 1)) 1000 f_read_1 ((f_read.params.zip [V.str (strL l)]).foldl (fun l p => l.upd p.1 p.2) fun _ => none) σ) Q := by
 have cnt := split_count (c := 32) l
 have hn := hA.n
 refine oks_step rfl ?_
 simp (disch := decide) only [s_blank, mx_str (.inl rfl), ok_split (l := l) (c := 32) (by decide) (le_lim (by rw [List.length_map]; lia)), f_read, zf,zg,zh,zi,zj,zk,zl,zm,zn,zo,zp,zq,zr,zt,zu,zv,zw,zx,zy,zz,zA,zB,zC,zD,zE,zF,zG,zH,zI,zJ,zK,zL,zM,zN,zO,zP,zQ,zR,zS,zT,zU,zV,zW,zX,zY,zZ,z0,z5,z6,z7,z8,z9,qa,qb,qc,qd,qe,qf,qg,qh,qi,qj,qk,ql,qm,qo,qp,qr,qt,qw,qx,qy,qz,qA,qB,qC,qD,qE,qF,qG,qH,qI,qJ,qK,qL,qM,qN,qO,qP,qQ,qR,qS,qT,qX,qY,qZ,q0,q5,qU,Nat.reduceBEq,qV,qW,if_true,if_false,q6,reduceCtorEq,Nat.reduceEqDiff,ne_eq,q7,q8,decide_true,decide_false,q9,ya]
 rw [es]
 have g1 : (σ.push (.list (wV (p :: ws)))).get σ.length = some (.list (wV (p :: ws))) := get_push_eq
 have x1 : Ext σ (σ.push (.list (wV (p :: ws)))) := (Ext.refl _).push _
 change andThen _ _ _ _ _ _ _ (σ.push (.list (wV (p :: ws))))
 generalize σ.push (.list (wV (p :: ws))) = τ at *
 generalize σ.length = pa at *
 have g2 := x1 _ _ h1
 have i0 : (wV (p :: ws))[(0 : Int).toNat]? = some (.str (strL p)) := rfl
 have e1 : dget words (.str (strL p)) = some (.int ((ws.length : Nat) : Int)) := by rw [dget_words, hg]; rfl
 have e2 : (((wV (p :: ws)).length : Nat) : Int) - 1 = ((ws.length : Nat) : Int) := by rw [wV_len, List.length_cons]; lia
 refine then_step rfl ?_
 simp (disch := decide) only [ok_getList g1 (Int.le_refl 0) i0, g110, ok_notInD g2 (k := .str (strL p)) rfl, e1, Option.isSome_some, ok_truthb, ok_lenL g1, ok_sub, e2, ok_getDict g2 rfl e1, ok_neI, zb, zc, zf,zg,zh,zi,zj,zk,zl,zm,zn,zo,zp,zq,zr,zt,zu,zv,zw,zx,zy,zz,zA,zB,zC,zD,zE,zF,zG,zH,zI,zJ,zK,zL,zM,zN,zO,zP,zQ,zR,zS,zT,zU,zV,zW,zX,zY,zZ,z0,z5,z6,z7,z8,z9,qa,qb,qc,qd,qe,qf,qg,qh,qi,qj,qk,ql,qm,qo,qp,qr,qt,qw,qx,qy,qz,qA,qB,qC,qD,qE,qF,qG,qH,qI,qJ,qK,qL,qM,qN,qO,qP,qQ,qR,qS,qT,qX,qY,qZ,q0,q5,qU,Nat.reduceBEq,qV,qW,if_true,if_false,q6,reduceCtorEq,Nat.reduceEqDiff,ne_eq,q7,q8,decide_true,decide_false,q9,ya]
 refine h _ pa τ x1 g1 ?_
 rfl
theorem read_ok {l p : List Nat} {ws : List (List Nat)} (hA : Asc l) (hr : rd l = some (p, ws)) (h1 : σ.get 1 = some (.dict words)) {Q : V → H → Prop} (h : ∀ τ, Ext σ τ → Q (.ref τ.length) (τ.push (.tup (deedV p (digs ws))))) : Ok (run prog 1000 (d + 2) false 115 [.str (strL l)]) σ Q := by
 obtain ⟨q, qs, es⟩ := split_ne (c := 32) l
 unfold rd at hr
 rw [es] at hr
 dsimp only at hr
 by_cases hc : lookW wl q = some qs.length ∧ qs.all numOK = true
 ·rw [if_pos hc] at hr
  cases hr
  have cnt := split_count (c := 32) l
  rw [es] at cnt
  have hn := hA.n
  have hln : ws.length ≤ 501 := by have := List.length_cons (a := p) (as := ws); lia
  rw [ok_run (fd := f_read) rfl rfl]
  refine read_head hA es h1 hc.1 fun lc pa τ x1 g1 e117 => ?_
  refine oks_step rfl ?_
  have i0 : (wV (p :: ws))[(0 : Int).toNat]? = some (.str (strL p)) := rfl
  simp (disch := decide) only [e117, ok_getList g1 (Int.le_refl 0) i0, ok_alloc (show okO (.list [V.str (strL p)]) = true from rfl), zf,zg,zh,zi,zj,zk,zl,zm,zn,zo,zp,zq,zr,zt,zu,zv,zw,zx,zy,zz,zA,zB,zC,zD,zE,zF,zG,zH,zI,zJ,zK,zL,zM,zN,zO,zP,zQ,zR,zS,zT,zU,zV,zW,zX,zY,zZ,z0,z5,z6,z7,z8,z9,qa,qb,qc,qd,qe,qf,qg,qh,qi,qj,qk,ql,qm,qo,qp,qr,qt,qw,qx,qy,qz,qA,qB,qC,qD,qE,qF,qG,qH,qI,qJ,qK,qL,qM,qN,qO,qP,qQ,qR,qS,qT,qX,qY,qZ,q0,q5,qU,Nat.reduceBEq,qV,qW,if_true,if_false,q6,reduceCtorEq,Nat.reduceEqDiff,ne_eq,q7,q8,decide_true,decide_false,q9,ya]
  have x2 : Ext τ (τ.push (.list [V.str (strL p)])) := (Ext.refl _).push _
  have g2 : (τ.push (.list [V.str (strL p)])).get τ.length = some (.list [V.str (strL p)]) := get_push_eq
  generalize τ.push (.list [V.str (strL p)]) = τ2 at *
  generalize τ.length = ha at *
  simp (disch := decide) only [e117, qB, slF_at, slF2_at, ok_tail (x2 _ _ g1), zf,zg,zh,zi,zj,zk,zl,zm,zn,zo,zp,zq,zr,zt,zu,zv,zw,zx,zy,zz,zA,zB,zC,zD,zE,zF,zG,zH,zI,zJ,zK,zL,zM,zN,zO,zP,zQ,zR,zS,zT,zU,zV,zW,zX,zY,zZ,z0,z5,z6,z7,z8,z9,qa,qb,qc,qd,qe,qf,qg,qh,qi,qj,qk,ql,qm,qo,qp,qr,qt,qw,qx,qy,qz,qA,qB,qC,qD,qE,qF,qG,qH,qI,qJ,qK,qL,qM,qN,qO,qP,qQ,qR,qS,qT,qX,qY,qZ,q0,q5,qU,Nat.reduceBEq,qV,qW,if_true,if_false,q6,reduceCtorEq,Nat.reduceEqDiff,ne_eq,q7,q8,decide_true,decide_false,q9,ya]
  have x3 : Ext τ2 (τ2.push (.list (wV ws))) := (Ext.refl _).push _
  have g3 : (τ2.push (.list (wV ws))).get τ2.length = some (.list (wV ws)) := get_push_eq
  change Ok (compX _ _ _ _ _ (.ref τ2.length)) (τ2.push (.list (wV ws))) _
  generalize τ2.push (.list (wV ws)) = τ3 at *
  have hcl : Ok (compX [113] false (tstAnd prog (run prog 1000 (d + 1)) .nil) (ev prog (run prog 1000 (d + 1)) (.call 112 (.cons (.loc 113) .nil))) lc (.ref τ2.length)) τ3 (fun v s => v = .ref τ3.length ∧ s = τ3.push (.list ((digs ws).map .int))) := by
   rw [ok_some (a := V.ref τ3.length) (σ' := τ3.push (.list ((digs ws).map .int))) ?_]
   ·exact ⟨rfl, rfl⟩
   ·unfold compX
    rw [it_list g3]
    dsimp only
    unfold X.bind
    rw [comp_nums (still_get rfl) ws (fun w hw => hA.part (by rw [es]; exact .tail _ hw)), hc.2]
    dsimp only [cond]
    unfold alloc
    have : ((digs ws).map V.int).length ≤ lim := le_lim (by unfold digs; rw [List.length_map, List.length_map]; lia)
    exact if_pos (decide_eq_true this)
  rw [ok_some (ok_eq hcl)]
  have x4 : Ext τ3 (τ3.push (.list ((digs ws).map .int))) := (Ext.refl _).push _
  have g4 : (τ3.push (.list ((digs ws).map .int))).get τ3.length = some (.list ((digs ws).map .int)) := get_push_eq
  have g2' := x4 _ _ (x3 _ _ g2)
  generalize τ3.push (.list ((digs ws).map .int)) = τ4 at *
  generalize τ3.length = na at *
  have hlen : ([V.str (strL p)] ++ (digs ws).map V.int).length ≤ lim := le_lim (by unfold digs; rw [List.length_append, List.length_map, List.length_map]; simp; lia)
  simp (disch := decide) only [ok_catL g2' g4 hlen, ok_tuple (get_push_eq (σ := τ4) (o := .list ([V.str (strL p)] ++ (digs ws).map V.int))) hlen, zd, zy, zf,zg,zh,zi,zj,zk,zl,zm,zn,zo,zp,zq,zr,zt,zu,zv,zw,zx,zy,zz,zA,zB,zC,zD,zE,zF,zG,zH,zI,zJ,zK,zL,zM,zN,zO,zP,zQ,zR,zS,zT,zU,zV,zW,zX,zY,zZ,z0,z5,z6,z7,z8,z9,qa,qb,qc,qd,qe,qf,qg,qh,qi,qj,qk,ql,qm,qo,qp,qr,qt,qw,qx,qy,qz,qA,qB,qC,qD,qE,qF,qG,qH,qI,qJ,qK,qL,qM,qN,qO,qP,qQ,qR,qS,qT,qX,qY,qZ,q0,q5,qU,Nat.reduceBEq,qV,qW,if_true,if_false,q6,reduceCtorEq,Nat.reduceEqDiff,ne_eq,q7,q8,decide_true,decide_false,q9,ya]
  exact h _ ((((x1.trans x2).trans x3).trans x4).push _)
 ·rw [if_neg hc] at hr; cases hr
end
end Mine.Internal.L05
set_option autoImplicit false
set_option linter.unusedSimpArgs false
set_option linter.unusedVariables false
namespace Mine.Internal.L05
open Mine.Internal
open PySem (Str PyData)
theorem er_bind1 {α β : Type} {x : X α} {f : α → X β} {σ σ' : H} {k : Nat} (h : x σ = some (.err k, σ')) : X.bind x f σ = some (.err k, σ') := by unfold X.bind; rw [h]
theorem er_bind2 {α β : Type} {x : X α} {f : α → X β} {σ σ₁ σ' : H} {k : Nat} {a : α} (h : x σ = some (.ok a, σ₁)) (h2 : f a σ₁ = some (.err k, σ')) : X.bind x f σ = some (.err k, σ') := by unfold X.bind; rw [h]; exact h2
noncomputable abbrev rloc (l : List Nat) : Loc := (f_read.params.zip [V.str (strL l)]).foldl (fun (l : Loc) (p : Nat × V) => l.upd p.1 p.2) (fun _ => none)
section
variable {C : Calls} {σ : H} {d : Nat}
theorem read_err {l : List Nat} (hA : Asc l) (hr : rd l = none) (h1 : σ.get 1 = some (.dict words)) : ∃ τ, run prog 1000 (d + 2) false 115 [.str (strL l)] σ = some (.err 97, τ) ∧ Ext σ τ := by
 obtain ⟨p, ws, es⟩ := split_ne (c := 32) l
 unfold rd at hr
 rw [es] at hr
 dsimp only at hr
 have cnt := split_count (c := 32) l
 have hn := hA.n
 have hc : ¬ (lookW wl p = some ws.length ∧ ws.all numOK = true) := fun hc => by rw [if_pos hc] at hr; cases hr
 have st1 : ∀ {Q : Option V → Loc → H → Prop}, Q none ((rloc l).upd 117 (.ref σ.length)) (σ.push (.list (wV (p :: ws)))) →
   OkS (ex prog (run prog 1000 (d + 1)) 1000 (.asg (.var 117) (.meth (.loc 116) 10 (.cons (.cstr (.ofString " ")) .nil))) (rloc l) σ) Q := fun {Q} hq => by
  have e116 : rloc l 116 = some (.str (strL l)) := rfl
  simp (disch := decide) only [e116, s_blank, mx_str (.inl rfl), ok_split (l := l) (c := 32) (by decide) (le_lim (by rw [List.length_map]; lia)), f_read, zf,zg,zh,zi,zj,zk,zl,zm,zn,zo,zp,zq,zr,zt,zu,zv,zw,zx,zy,zz,zA,zB,zC,zD,zE,zF,zG,zH,zI,zJ,zK,zL,zM,zN,zO,zP,zQ,zR,zS,zT,zU,zV,zW,zX,zY,zZ,z0,z5,z6,z7,z8,z9,qa,qb,qc,qd,qe,qf,qg,qh,qi,qj,qk,ql,qm,qo,qp,qr,qt,qw,qx,qy,qz,qA,qB,qC,qD,qE,qF,qG,qH,qI,qJ,qK,qL,qM,qN,qO,qP,qQ,qR,qS,qT,qX,qY,qZ,q0,q5,qU,Nat.reduceBEq,qV,qW,if_true,if_false,q6,reduceCtorEq,Nat.reduceEqDiff,ne_eq,q7,q8,decide_true,decide_false,q9,ya]
  rw [es]
  exact hq
 have g1 : (σ.push (.list (wV (p :: ws)))).get σ.length = some (.list (wV (p :: ws))) := get_push_eq
 have x1 : Ext σ (σ.push (.list (wV (p :: ws)))) := (Ext.refl _).push _
 have e117 : ((rloc l).upd 117 (.ref σ.length)) 117 = some (.ref σ.length) := upd_at
 generalize ((rloc l).upd 117 (.ref σ.length)) = lc at *
 generalize σ.push (.list (wV (p :: ws))) = τ at *
 generalize σ.length = pa at *
 have g2 := x1 _ _ h1
 have i0 : (wV (p :: ws))[(0 : Int).toNat]? = some (.str (strL p)) := rfl
 have e2 : (((wV (p :: ws)).length : Nat) : Int) - 1 = ((ws.length : Nat) : Int) := by rw [wV_len, List.length_cons]; lia
 by_cases hk : lookW wl p = some ws.length
 ·have hd : ws.all numOK = false := by
   cases h : ws.all numOK with
   | false => rfl
   | true => exact absurd ⟨hk, h⟩ hc
  have e1 : dget words (.str (strL p)) = some (.int ((ws.length : Nat) : Int)) := by rw [dget_words, hk]; rfl
  have hL : ev prog (run prog 1000 (d + 1)) (.list (.cons (.sub (.loc 117) (.cint 0)) .nil)) lc τ = some (.ok (.ref τ.length), τ.push (.list [V.str (strL p)])) := ok_eq (by
   simp (disch := decide) only [e117, ok_getList g1 (Int.le_refl 0) i0, ok_alloc (show okO (.list [V.str (strL p)]) = true from rfl), za,zb,zc,zd,zf,zg,zh,zi,zj,zk,zl,zm,zn,zo,zp,zq,zr,zt,zu,zv,zw,zx,zy,zz,zA,zB,zC,zD,zE,zF,zG,zH,zI,zJ,zK,zL,zM,zN,zO,zP,zQ,zR,zS,zT,zU,zV,zW,zX,zY,zZ,z0,z5,z6,z7,z8,z9,qa,qb,qc,qd,qe,qf,qg,qh,qi,qj,qk,ql,qm,qo,qp,qr,qt,qw,qx,qy,qz,qA,qB,qC,qD,qE,qF,qG,qH,qI,qJ,qK,qL,qM,qN,qO,qP,qQ,qR,qS,qT,qX,qY,qZ,q0,q5,qU,Nat.reduceBEq,qV,qW,if_true,if_false,q6,reduceCtorEq,Nat.reduceEqDiff,ne_eq,q7,q8,decide_true,decide_false,q9,ya]
   exact ⟨trivial, trivial⟩)
  have x2 : Ext τ (τ.push (.list [V.str (strL p)])) := (Ext.refl _).push _
  generalize τ.push (.list [V.str (strL p)]) = τ2 at *
  generalize τ.length = ha at *
  have hS : ev prog (run prog 1000 (d + 1)) (.slice (.loc 117) (.cint 1) .cnone) lc τ2 = some (.ok (.ref τ2.length), τ2.push (.list (wV ws))) := ok_eq (by
   simp (disch := decide) only [e117, qB, slF_at, slF2_at, ok_tail (x2 _ _ g1), za,zb,zc,zd,zf,zg,zh,zi,zj,zk,zl,zm,zn,zo,zp,zq,zr,zt,zu,zv,zw,zx,zy,zz,zA,zB,zC,zD,zE,zF,zG,zH,zI,zJ,zK,zL,zM,zN,zO,zP,zQ,zR,zS,zT,zU,zV,zW,zX,zY,zZ,z0,z5,z6,z7,z8,z9,qa,qb,qc,qd,qe,qf,qg,qh,qi,qj,qk,ql,qm,qo,qp,qr,qt,qw,qx,qy,qz,qA,qB,qC,qD,qE,qF,qG,qH,qI,qJ,qK,qL,qM,qN,qO,qP,qQ,qR,qS,qT,qX,qY,qZ,q0,q5,qU,Nat.reduceBEq,qV,qW,if_true,if_false,q6,reduceCtorEq,Nat.reduceEqDiff,ne_eq,q7,q8,decide_true,decide_false,q9,ya]
   exact ⟨trivial, rfl⟩)
  have x3 : Ext τ2 (τ2.push (.list (wV ws))) := (Ext.refl _).push _
  have g3 : (τ2.push (.list (wV ws))).get τ2.length = some (.list (wV ws)) := get_push_eq
  generalize τ2.push (.list (wV ws)) = τ3 at *
  generalize τ2.length = wa at *
  refine ⟨τ3, run_err (fd := f_read) rfl rfl ?_, (x1.trans x2).trans x3⟩
  refine ers_cons2 (t := f_read.body) rfl (st1 ⟨rfl, ?_⟩)
  refine ers_cons2 (t := f_read_2) rfl ?_
  simp (disch := decide) only [e117, ok_getList g1 (Int.le_refl 0) i0, g110, ok_notInD g2 (k := .str (strL p)) rfl, e1, Option.isSome_some, ok_truthb, ok_lenL g1, ok_sub, e2, ok_getDict g2 rfl e1, ok_neI, zb, zf,zg,zh,zi,zj,zk,zl,zm,zn,zo,zp,zq,zr,zt,zu,zv,zw,zx,zy,zz,zA,zB,zC,zD,zE,zF,zG,zH,zI,zJ,zK,zL,zM,zN,zO,zP,zQ,zR,zS,zT,zU,zV,zW,zX,zY,zZ,z0,z5,z6,z7,z8,z9,qa,qb,qc,qd,qe,qf,qg,qh,qi,qj,qk,ql,qm,qo,qp,qr,qt,qw,qx,qy,qz,qA,qB,qC,qD,qE,qF,qG,qH,qI,qJ,qK,qL,qM,qN,qO,qP,qQ,qR,qS,qT,qX,qY,qZ,q0,q5,qU,Nat.reduceBEq,qV,qW,if_true,if_false,q6,reduceCtorEq,Nat.reduceEqDiff,ne_eq,q7,q8,decide_true,decide_false,q9,ya]
  refine ⟨trivial, ?_⟩
  refine ers_cons1 (t := f_read_3) rfl (ers_ret ?_)
  refine er_bind1 (x := evs prog _ (.cons (.bin .Add (.list (.cons (.sub (.loc 117) (.cint 0)) .nil)) (.comp (.call 112 (.cons (.loc 113) .nil)) [113] false (.slice (.loc 117) (.cint 1) .cnone) .nil)) .nil) lc) ?_
  refine er_bind1 (x := ev prog _ (.bin .Add (.list (.cons (.sub (.loc 117) (.cint 0)) .nil)) (.comp (.call 112 (.cons (.loc 113) .nil)) [113] false (.slice (.loc 117) (.cint 1) .cnone) .nil)) lc) ?_
  refine er_bind2 hL ?_
  refine er_bind1 (x := ev prog _ (.comp (.call 112 (.cons (.loc 113) .nil)) [113] false (.slice (.loc 117) (.cint 1) .cnone) .nil) lc) ?_
  refine er_bind2 hS ?_
  show (match iterOf (.ref wa) τ3 with | none => none | some vs => X.bind (compL (.ref wa) [113] false (tstAnd prog _ .nil) (ev prog _ (.call 112 (.cons (.loc 113) .nil))) lc τ3 vs) (fun ws => alloc (.list ws)) τ3) = _
  rw [it_list g3]
  dsimp only
  refine er_bind1 ?_
  rw [comp_nums (still_get rfl) ws (fun w hw => hA.part (by rw [es]; exact .tail _ hw)), hd]; rfl
 ·refine ⟨τ, run_err (fd := f_read) rfl rfl ?_, x1⟩
  refine ers_cons2 (t := f_read.body) rfl (st1 ⟨rfl, ?_⟩)
  refine ers_cons1 (t := f_read_2) rfl (ers_ite (t := true) ?_ (ers_cons1 (t := f_read_2a_1) rfl ers_rais))
  cases hw : lookW wl p with
  | none =>
   have e1 : dget words (.str (strL p)) = none := by rw [dget_words, hw]; rfl
   simp (disch := decide) only [e117, ok_getList g1 (Int.le_refl 0) i0, g110, ok_notInD g2 (k := .str (strL p)) rfl, e1, Option.isSome_none, ok_truthb, za,zb,zc,zd,zf,zg,zh,zi,zj,zk,zl,zm,zn,zo,zp,zq,zr,zt,zu,zv,zw,zx,zy,zz,zA,zB,zC,zD,zE,zF,zG,zH,zI,zJ,zK,zL,zM,zN,zO,zP,zQ,zR,zS,zT,zU,zV,zW,zX,zY,zZ,z0,z5,z6,z7,z8,z9,qa,qb,qc,qd,qe,qf,qg,qh,qi,qj,qk,ql,qm,qo,qp,qr,qt,qw,qx,qy,qz,qA,qB,qC,qD,qE,qF,qG,qH,qI,qJ,qK,qL,qM,qN,qO,qP,qQ,qR,qS,qT,qX,qY,qZ,q0,q5,qU,Nat.reduceBEq,qV,qW,if_true,if_false,q6,reduceCtorEq,Nat.reduceEqDiff,ne_eq,q7,q8,decide_true,decide_false,q9,ya]
   exact ⟨trivial, trivial⟩
  | some m =>
   have e1 : dget words (.str (strL p)) = some (.int ((m : Nat) : Int)) := by rw [dget_words, hw]; rfl
   have ne : ¬ ((ws.length : Nat) : Int) = ((m : Nat) : Int) := fun e => hk (by rw [hw]; congr 1; lia)
   simp (disch := decide) only [e117, ok_getList g1 (Int.le_refl 0) i0, g110, ok_notInD g2 (k := .str (strL p)) rfl, e1, Option.isSome_some, ok_truthb, ok_lenL g1, ok_sub, e2, ok_getDict g2 rfl e1, ok_neI, ne, za,zb,zc,zd,zf,zg,zh,zi,zj,zk,zl,zm,zn,zo,zp,zq,zr,zt,zu,zv,zw,zx,zy,zz,zA,zB,zC,zD,zE,zF,zG,zH,zI,zJ,zK,zL,zM,zN,zO,zP,zQ,zR,zS,zT,zU,zV,zW,zX,zY,zZ,z0,z5,z6,z7,z8,z9,qa,qb,qc,qd,qe,qf,qg,qh,qi,qj,qk,ql,qm,qo,qp,qr,qt,qw,qx,qy,qz,qA,qB,qC,qD,qE,qF,qG,qH,qI,qJ,qK,qL,qM,qN,qO,qP,qQ,qR,qS,qT,qX,qY,qZ,q0,q5,qU,Nat.reduceBEq,qV,qW,if_true,if_false,q6,reduceCtorEq,Nat.reduceEqDiff,ne_eq,q7,q8,decide_true,decide_false,q9,ya]
   exact ⟨trivial, trivial⟩
/- the law's own reading -/
theorem lawN_neg {w : List Nat} : (decide (lawN w = -1)) = !numOK w := by
 unfold lawN
 cases numOK w with
 | true => exact decide_eq_false (by show ¬ ((digV w : Nat) : Int) = -1; lia)
 | false => exact decide_eq_true rfl
theorem data_ints {n : Nat} : ∀ {ns : List Int}, optAll (dataOf σ (n + 1)) (ns.map V.int) = some (ns.map .int)
 | [] => rfl
 | k :: l => by rw [List.map_cons]; unfold optAll; rw [data_ints (ns := l)]; rfl
theorem ok_inI {a : Nat} {i : Int} {ns : List Int} {Q : V → H → Prop} (h : σ.get a = some (.list (ns.map .int))) : Ok (cmpop prog .In (.int i) (.ref a)) σ Q = Q (.bool (ns.any fun n => decide (n = i))) σ := ok_some (by
 have e : inList σ (.int i) (ns.map .int) = some (ns.any fun n => decide (n = i)) := by
  unfold inList
  rw [data_ints]
  show some ((ns.map PyData.int).any fun y => PyData.eqv y (.int i)) = _
  rw [List.any_map]
  rfl
 show X.bind (contains prog (.int i) (.ref a)) (fun r => X.pure (V.bool r)) σ = _
 unfold X.bind contains
 simp only [h, e, Option.map_some]
 rfl)
theorem any_neg : ∀ {ws : List (List Nat)}, ((ws.map lawN).any fun n => decide (n = -1)) = !ws.all numOK
 | [] => rfl
 | w :: ws => by rw [List.map_cons, List.any_cons, any_neg, lawN_neg, List.all_cons, Bool.not_and]
theorem law_digs : ∀ {ws : List (List Nat)}, ws.all numOK = true → ws.map lawN = digs ws
 | [], _ => rfl
 | w :: ws, h => by
  rw [List.all_cons, Bool.and_eq_true] at h
  show lawN w :: ws.map lawN = ((digV w : Nat) : Int) :: digs ws
  rw [law_digs h.2]
  unfold lawN
  rw [h.1]; rfl
theorem due_ok {l : List Nat} (hA : Asc l) (hnf : 2 ≤ σ.length) {Q : V → H → Prop} (h0 : rd l = none → ∀ τ, Ext σ τ → Q .none τ) (h1 : ∀ p ws, rd l = some (p, ws) → ∀ τ, Ext σ τ → Q (.ref τ.length) (τ.push (.tup (deedV p (digs ws))))) : Ok (run prog 1000 (d + 2) false 196 [.str (strL l)]) σ Q := by
 obtain ⟨p, ws, es⟩ := split_ne (c := 32) l
 have cnt := split_count (c := 32) l
 rw [es] at cnt
 have hn := hA.n
 have hln : ws.length ≤ 500 := by have := List.length_cons (a := p) (as := ws); lia
 rw [ok_run (fd := f__law_due_of) rfl rfl]
 unfold f__law_due_of
 refine oks_step rfl ?_
 simp (disch := decide) only [s_empty, ok_alloc (show okO (.list [V.str (strL [])]) = true from rfl), zf,zg,zh,zi,zj,zk,zl,zm,zn,zo,zp,zq,zr,zt,zu,zv,zw,zx,zy,zz,zA,zB,zC,zD,zE,zF,zG,zH,zI,zJ,zK,zL,zM,zN,zO,zP,zQ,zR,zS,zT,zU,zV,zW,zX,zY,zZ,z0,z5,z6,z7,z8,z9,qa,qb,qc,qd,qe,qf,qg,qh,qi,qj,qk,ql,qm,qo,qp,qr,qt,qw,qx,qy,qz,qA,qB,qC,qD,qE,qF,qG,qH,qI,qJ,qK,qL,qM,qN,qO,qP,qQ,qR,qS,qT,qX,qY,qZ,q0,q5,qU,Nat.reduceBEq,qV,qW,if_true,if_false,q6,reduceCtorEq,Nat.reduceEqDiff,ne_eq,q7,q8,decide_true,decide_false,q9,ya]
 have x1 : Ext σ (σ.push (.list (wV [[]]))) := (Ext.refl _).push _
 have g1 : (σ.push (.list (wV [[]]))).get σ.length = some (.list (wV [[]])) := get_push_eq
 change andThen _ _ _ _ _ _ _ (σ.push (.list (wV [[]])))
 refine then_step rfl ?_
 refine cut_loop (σ := σ.push (.list (wV [[]]))) hA.a hA.n (show prog.nf ≤ σ.length from hnf) g1 rfl rfl fun l1 τ g2 k2 e133 => ?_
 have x2 := k2 σ.length (Nat.le_refl _) σ (Nat.le_refl _) x1
 clear k2
 rw [es] at g2
 generalize σ.length = wa at *
 refine then_step rfl ?_
 simp (disch := decide) only [e133, qB, slF_at, slF2_at, ok_tail g2, zf,zg,zh,zi,zj,zk,zl,zm,zn,zo,zp,zq,zr,zt,zu,zv,zw,zx,zy,zz,zA,zB,zC,zD,zE,zF,zG,zH,zI,zJ,zK,zL,zM,zN,zO,zP,zQ,zR,zS,zT,zU,zV,zW,zX,zY,zZ,z0,z5,z6,z7,z8,z9,qa,qb,qc,qd,qe,qf,qg,qh,qi,qj,qk,ql,qm,qo,qp,qr,qt,qw,qx,qy,qz,qA,qB,qC,qD,qE,qF,qG,qH,qI,qJ,qK,qL,qM,qN,qO,qP,qQ,qR,qS,qT,qX,qY,qZ,q0,q5,qU,Nat.reduceBEq,qV,qW,if_true,if_false,q6,reduceCtorEq,Nat.reduceEqDiff,ne_eq,q7,q8,decide_true,decide_false,q9,ya]
 have x3 : Ext τ (τ.push (.list (wV ws))) := (Ext.refl _).push _
 have g3 : (τ.push (.list (wV ws))).get τ.length = some (.list (wV ws)) := get_push_eq
 change Ok (compX _ _ _ _ _ (.ref τ.length)) (τ.push (.list (wV ws))) _
 generalize τ.push (.list (wV ws)) = τ3 at *
 have hcl : Ok (compX [134] false (tstAnd prog (run prog 1000 (d + 1)) .nil) (ev prog (run prog 1000 (d + 1)) (.call 78 (.cons (.loc 134) .nil))) l1 (.ref τ.length)) τ3 (fun v s => v = .ref τ3.length ∧ s = τ3.push (.list ((ws.map lawN).map .int))) := by
  have key : ∀ y ∈ wV ws, ev prog (run prog 1000 (d + 1)) (.call 78 (.cons (.loc 134) .nil)) (l1.upd 134 y) τ3 = some (.ok (match y with | .str s => .int (lawN s.cps.toList) | _ => .none), τ3) := fun y hy => by
   obtain ⟨w, hw, rfl⟩ := List.mem_map.mp hy
   have hw := hA.part (w := w) (by rw [es]; exact .tail _ hw)
   refine ok_eq ?_
   simp (disch := decide) only [za,zb,zc,zd,zf,zg,zh,zi,zj,zk,zl,zm,zn,zo,zp,zq,zr,zt,zu,zv,zw,zx,zy,zz,zA,zB,zC,zD,zE,zF,zG,zH,zI,zJ,zK,zL,zM,zN,zO,zP,zQ,zR,zS,zT,zU,zV,zW,zX,zY,zZ,z0,z5,z6,z7,z8,z9,qa,qb,qc,qd,qe,qf,qg,qh,qi,qj,qk,ql,qm,qo,qp,qr,qt,qw,qx,qy,qz,qA,qB,qC,qD,qE,qF,qG,qH,qI,qJ,qK,qL,qM,qN,qO,qP,qQ,qR,qS,qT,qX,qY,qZ,q0,q5,qU,Nat.reduceBEq,qV,qW,if_true,if_false,q6,reduceCtorEq,Nat.reduceEqDiff,ne_eq,q7,q8,decide_true,decide_false,q9,ya]
   exact lnumber_ok hw.a (Nat.le_trans hw.n (by decide)) ⟨rfl, rfl⟩
  rw [c_pure (fun _ => true) _ (it_list g3) (fun y _ => rfl) (fun y hy _ => key y hy) ?_]
  ·refine ⟨rfl, ?_⟩
   congr 2
   rw [List.filter_eq_self.mpr fun _ _ => rfl]
   unfold wV
   rw [List.map_map, List.map_map]
   rfl
  ·rw [List.filter_eq_self.mpr fun _ _ => rfl, List.length_map, wV_len]; exact le_lim (by lia)
 rw [ok_some (ok_eq hcl)]
 have x4 : Ext τ3 (τ3.push (.list ((ws.map lawN).map .int))) := (Ext.refl _).push _
 have g4 : (τ3.push (.list ((ws.map lawN).map .int))).get τ3.length = some (.list ((ws.map lawN).map .int)) := get_push_eq
 have g2' := x4 _ _ (x3 _ _ g2)
 have y4 := (x2.trans x3).trans x4
 generalize τ3.push (.list ((ws.map lawN).map .int)) = τ4 at *
 generalize τ3.length = na at *
 have i0 : (wV (p :: ws))[(0 : Int).toNat]? = some (.str (strL p)) := rfl
 simp (disch := decide) only [zf,zg,zh,zi,zj,zk,zl,zm,zn,zo,zp,zq,zr,zt,zu,zv,zw,zx,zy,zz,zA,zB,zC,zD,zE,zF,zG,zH,zI,zJ,zK,zL,zM,zN,zO,zP,zQ,zR,zS,zT,zU,zV,zW,zX,zY,zZ,z0,z5,z6,z7,z8,z9,qa,qb,qc,qd,qe,qf,qg,qh,qi,qj,qk,ql,qm,qo,qp,qr,qt,qw,qx,qy,qz,qA,qB,qC,qD,qE,qF,qG,qH,qI,qJ,qK,qL,qM,qN,qO,qP,qQ,qR,qS,qT,qX,qY,qZ,q0,q5,qU,Nat.reduceBEq,qV,qW,if_true,if_false,q6,reduceCtorEq,Nat.reduceEqDiff,ne_eq,q7,q8,decide_true,decide_false,q9,ya]
 refine then_step rfl ?_
 have e133' : (l1.upd 159 (.ref na)) 133 = some (.ref wa) := (upd_no (by decide)).trans e133
 simp (disch := decide) only [ok_lenL g4, e133, ok_getList g2' (Int.le_refl 0) i0, zf,zg,zh,zi,zj,zk,zl,zm,zn,zo,zp,zq,zr,zt,zu,zv,zw,zx,zy,zz,zA,zB,zC,zD,zE,zF,zG,zH,zI,zJ,zK,zL,zM,zN,zO,zP,zQ,zR,zS,zT,zU,zV,zW,zX,zY,zZ,z0,z5,z6,z7,z8,z9,qa,qb,qc,qd,qe,qf,qg,qh,qi,qj,qk,ql,qm,qo,qp,qr,qt,qw,qx,qy,qz,qA,qB,qC,qD,qE,qF,qG,qH,qI,qJ,qK,qL,qM,qN,qO,qP,qQ,qR,qS,qT,qX,qY,qZ,q0,q5,qU,Nat.reduceBEq,qV,qW,if_true,if_false,q6,reduceCtorEq,Nat.reduceEqDiff,ne_eq,q7,q8,decide_true,decide_false,q9,ya]
 refine many_ok fun τ5 x5 => ?_
 have g5 := x5 _ _ g4
 have y5 := y4.trans x5
 have hl : (((((ws.map lawN).map V.int).length : Nat) : Int) = manyN p) ↔ lookW wl p = some ws.length := by
  rw [List.length_map, List.length_map]
  unfold manyN
  cases lookW wl p with
  | none => exact ⟨fun h => absurd h (by show ¬ (ws.length : Int) = -1; lia), fun h => nomatch h⟩
  | some m => exact ⟨fun h => by have h : (ws.length : Int) = (m : Int) := h; congr 1; lia, fun h => by cases h; rfl⟩
 have hrd : rd l = if lookW wl p = some ws.length ∧ ws.all numOK = true then some (p, ws) else none := by unfold rd; rw [es]
 simp (disch := decide) only [ok_neI, hl, ok_truthb, zf,zg,zh,zi,zj,zk,zl,zm,zn,zo,zp,zq,zr,zt,zu,zv,zw,zx,zy,zz,zA,zB,zC,zD,zE,zF,zG,zH,zI,zJ,zK,zL,zM,zN,zO,zP,zQ,zR,zS,zT,zU,zV,zW,zX,zY,zZ,z0,z5,z6,z7,z8,z9,qa,qb,qc,qd,qe,qf,qg,qh,qi,qj,qk,ql,qm,qo,qp,qr,qt,qw,qx,qy,qz,qA,qB,qC,qD,qE,qF,qG,qH,qI,qJ,qK,qL,qM,qN,qO,qP,qQ,qR,qS,qT,qX,qY,qZ,q0,q5,qU,Nat.reduceBEq,qV,qW,if_true,if_false,q6,reduceCtorEq,Nat.reduceEqDiff,ne_eq,q7,q8,decide_true,decide_false,q9,ya]
 by_cases hk : lookW wl p = some ws.length
 ·simp (disch := decide) only [hk, e_neg, ok_inI g5, any_neg, ok_truthb, zf,zg,zh,zi,zj,zk,zl,zm,zn,zo,zp,zq,zr,zt,zu,zv,zw,zx,zy,zz,zA,zB,zC,zD,zE,zF,zG,zH,zI,zJ,zK,zL,zM,zN,zO,zP,zQ,zR,zS,zT,zU,zV,zW,zX,zY,zZ,z0,z5,z6,z7,z8,z9,qa,qb,qc,qd,qe,qf,qg,qh,qi,qj,qk,ql,qm,qo,qp,qr,qt,qw,qx,qy,qz,qA,qB,qC,qD,qE,qF,qG,qH,qI,qJ,qK,qL,qM,qN,qO,qP,qQ,qR,qS,qT,qX,qY,qZ,q0,q5,qU,Nat.reduceBEq,qV,qW,if_true,if_false,q6,reduceCtorEq,Nat.reduceEqDiff,ne_eq,q7,q8,decide_true,decide_false,q9,ya]
  cases ha : ws.all numOK with
  | false =>
   simp (disch := decide) only [zf,zg,zh,zi,zj,zk,zl,zm,zn,zo,zp,zq,zr,zt,zu,zv,zw,zx,zy,zz,zA,zB,zC,zD,zE,zF,zG,zH,zI,zJ,zK,zL,zM,zN,zO,zP,zQ,zR,zS,zT,zU,zV,zW,zX,zY,zZ,z0,z5,z6,z7,z8,z9,qa,qb,qc,qd,qe,qf,qg,qh,qi,qj,qk,ql,qm,qo,qp,qr,qt,qw,qx,qy,qz,qA,qB,qC,qD,qE,qF,qG,qH,qI,qJ,qK,qL,qM,qN,qO,qP,qQ,qR,qS,qT,qX,qY,qZ,q0,q5,qU,Nat.reduceBEq,qV,qW,if_true,if_false,q6,reduceCtorEq,Nat.reduceEqDiff,ne_eq,q7,q8,decide_true,decide_false,q9,ya]
   refine oks_step rfl ?_
   simp (disch := decide) only [zd, zf,zg,zh,zi,zj,zk,zl,zm,zn,zo,zp,zq,zr,zt,zu,zv,zw,zx,zy,zz,zA,zB,zC,zD,zE,zF,zG,zH,zI,zJ,zK,zL,zM,zN,zO,zP,zQ,zR,zS,zT,zU,zV,zW,zX,zY,zZ,z0,z5,z6,z7,z8,z9,qa,qb,qc,qd,qe,qf,qg,qh,qi,qj,qk,ql,qm,qo,qp,qr,qt,qw,qx,qy,qz,qA,qB,qC,qD,qE,qF,qG,qH,qI,qJ,qK,qL,qM,qN,qO,qP,qQ,qR,qS,qT,qX,qY,qZ,q0,q5,qU,Nat.reduceBEq,qV,qW,if_true,if_false,q6,reduceCtorEq,Nat.reduceEqDiff,ne_eq,q7,q8,decide_true,decide_false,q9,ya]
   exact h0 (by rw [hrd, if_neg (by rw [ha]; simp)]) _ y5
  | true =>
   simp (disch := decide) only [zb, zc, zf,zg,zh,zi,zj,zk,zl,zm,zn,zo,zp,zq,zr,zt,zu,zv,zw,zx,zy,zz,zA,zB,zC,zD,zE,zF,zG,zH,zI,zJ,zK,zL,zM,zN,zO,zP,zQ,zR,zS,zT,zU,zV,zW,zX,zY,zZ,z0,z5,z6,z7,z8,z9,qa,qb,qc,qd,qe,qf,qg,qh,qi,qj,qk,ql,qm,qo,qp,qr,qt,qw,qx,qy,qz,qA,qB,qC,qD,qE,qF,qG,qH,qI,qJ,qK,qL,qM,qN,qO,qP,qQ,qR,qS,qT,qX,qY,qZ,q0,q5,qU,Nat.reduceBEq,qV,qW,if_true,if_false,q6,reduceCtorEq,Nat.reduceEqDiff,ne_eq,q7,q8,decide_true,decide_false,q9,ya]
   refine oks_step rfl ?_
   have g5' := x5 _ _ g2'
   simp (disch := decide) only [e133, ok_getList g5' (Int.le_refl 0) i0, ok_alloc (show okO (.list [V.str (strL p)]) = true from rfl), zf,zg,zh,zi,zj,zk,zl,zm,zn,zo,zp,zq,zr,zt,zu,zv,zw,zx,zy,zz,zA,zB,zC,zD,zE,zF,zG,zH,zI,zJ,zK,zL,zM,zN,zO,zP,zQ,zR,zS,zT,zU,zV,zW,zX,zY,zZ,z0,z5,z6,z7,z8,z9,qa,qb,qc,qd,qe,qf,qg,qh,qi,qj,qk,ql,qm,qo,qp,qr,qt,qw,qx,qy,qz,qA,qB,qC,qD,qE,qF,qG,qH,qI,qJ,qK,qL,qM,qN,qO,qP,qQ,qR,qS,qT,qX,qY,qZ,q0,q5,qU,Nat.reduceBEq,qV,qW,if_true,if_false,q6,reduceCtorEq,Nat.reduceEqDiff,ne_eq,q7,q8,decide_true,decide_false,q9,ya]
   have x6 : Ext τ5 (τ5.push (.list [V.str (strL p)])) := (Ext.refl _).push _
   have g6 : (τ5.push (.list [V.str (strL p)])).get τ5.length = some (.list [V.str (strL p)]) := get_push_eq
   generalize τ5.push (.list [V.str (strL p)]) = τ6 at *
   generalize τ5.length = ha at *
   have hlen : ([V.str (strL p)] ++ (ws.map lawN).map V.int).length ≤ lim := le_lim (by rw [List.length_append, List.length_map, List.length_map]; simp; lia)
   simp (disch := decide) only [ok_catL g6 (x6 _ _ g5) hlen, ok_tuple (get_push_eq (σ := τ6) (o := .list ([V.str (strL p)] ++ (ws.map lawN).map V.int))) hlen, zd, zy, zf,zg,zh,zi,zj,zk,zl,zm,zn,zo,zp,zq,zr,zt,zu,zv,zw,zx,zy,zz,zA,zB,zC,zD,zE,zF,zG,zH,zI,zJ,zK,zL,zM,zN,zO,zP,zQ,zR,zS,zT,zU,zV,zW,zX,zY,zZ,z0,z5,z6,z7,z8,z9,qa,qb,qc,qd,qe,qf,qg,qh,qi,qj,qk,ql,qm,qo,qp,qr,qt,qw,qx,qy,qz,qA,qB,qC,qD,qE,qF,qG,qH,qI,qJ,qK,qL,qM,qN,qO,qP,qQ,qR,qS,qT,qX,qY,qZ,q0,q5,qU,Nat.reduceBEq,qV,qW,if_true,if_false,q6,reduceCtorEq,Nat.reduceEqDiff,ne_eq,q7,q8,decide_true,decide_false,q9,ya]
   have := h1 p ws (by rw [hrd, if_pos ⟨hk, by assumption⟩]) _ ((y5.trans x6).push (.list ([V.str (strL p)] ++ (ws.map lawN).map V.int)))
   rw [law_digs (by assumption)] at this ⊢
   exact this
 ·simp (disch := decide) only [hk, zf,zg,zh,zi,zj,zk,zl,zm,zn,zo,zp,zq,zr,zt,zu,zv,zw,zx,zy,zz,zA,zB,zC,zD,zE,zF,zG,zH,zI,zJ,zK,zL,zM,zN,zO,zP,zQ,zR,zS,zT,zU,zV,zW,zX,zY,zZ,z0,z5,z6,z7,z8,z9,qa,qb,qc,qd,qe,qf,qg,qh,qi,qj,qk,ql,qm,qo,qp,qr,qt,qw,qx,qy,qz,qA,qB,qC,qD,qE,qF,qG,qH,qI,qJ,qK,qL,qM,qN,qO,qP,qQ,qR,qS,qT,qX,qY,qZ,q0,q5,qU,Nat.reduceBEq,qV,qW,if_true,if_false,q6,reduceCtorEq,Nat.reduceEqDiff,ne_eq,q7,q8,decide_true,decide_false,q9,ya]
  refine oks_step rfl ?_
  simp (disch := decide) only [zd, zf,zg,zh,zi,zj,zk,zl,zm,zn,zo,zp,zq,zr,zt,zu,zv,zw,zx,zy,zz,zA,zB,zC,zD,zE,zF,zG,zH,zI,zJ,zK,zL,zM,zN,zO,zP,zQ,zR,zS,zT,zU,zV,zW,zX,zY,zZ,z0,z5,z6,z7,z8,z9,qa,qb,qc,qd,qe,qf,qg,qh,qi,qj,qk,ql,qm,qo,qp,qr,qt,qw,qx,qy,qz,qA,qB,qC,qD,qE,qF,qG,qH,qI,qJ,qK,qL,qM,qN,qO,qP,qQ,qR,qS,qT,qX,qY,qZ,q0,q5,qU,Nat.reduceBEq,qV,qW,if_true,if_false,q6,reduceCtorEq,Nat.reduceEqDiff,ne_eq,q7,q8,decide_true,decide_false,q9,ya]
  exact h0 (by rw [hrd, if_neg fun h => hk h.1]) _ y5
end
end Mine.Internal.L05
set_option autoImplicit false
set_option linter.unusedSimpArgs false
set_option linter.unusedVariables false
namespace Mine.Internal.L05
open Mine.Internal
open PySem (Str PyData)
noncomputable def dg (n : Nat) : List Nat := (Nat.toDigits 10 n).map Char.toNat
theorem strOfI_nat (n : Nat) : strOfI (n : Int) = strL (dg n) := by
 unfold strOfI
 rw [Str.ofString_eq_toList]
 show (⟨((Nat.repr n).toList.map Char.toNat).toArray⟩ : Str) = _
 rw [Nat.toList_repr]; rfl
theorem ch_dig : ∀ k : Fin 10, (Nat.digitChar k.1).toNat = 48 + k.1 := by decide
theorem dg_lt {n : Nat} (h : n < 10) : dg n = [48 + n] := by
 unfold dg
 rw [Nat.toDigits_of_lt_base h]
 exact congrArg (fun c => [c]) (ch_dig ⟨n, h⟩)
theorem dg_ge {n : Nat} (h : 10 ≤ n) : dg n = dg (n / 10) ++ [48 + n % 10] := by
 have hm : n % 10 < 10 := Nat.mod_lt n (by decide)
 have t : Nat.toDigits 10 (n / 10) ++ Nat.toDigits 10 (n % 10) = Nat.toDigits 10 (10 * (n / 10) + n % 10) := Nat.toDigits_append_toDigits (by decide) (by lia) hm
 rw [Nat.div_add_mod] at t
 have e := dg_lt hm
 unfold dg at e ⊢
 rw [← t, List.map_append, e]
theorem digV_snoc (l : List Nat) (c : Nat) : digV (l ++ [c]) = digV l * 10 + (c - 48) := by unfold digV; rw [List.foldl_append]; rfl
structure DgOK (n : Nat) : Prop where
 v : digV (dg n) = n
 d : (dg n).all dig = true
 h : ∃ c r, dg n = c :: r ∧ (n ≠ 0 → c ≠ 48)
theorem dg_ok (n : Nat) : DgOK n := by
 induction n using Nat.strongRecOn with
 | _ n ih =>
  by_cases h : n < 10
  ·have e := dg_lt h
   refine ⟨?_, ?_, 48 + n, [], e, fun h0 => by lia⟩
   ·rw [e]; show 0 * 10 + (48 + n - 48) = n; lia
   ·rw [e]
    show (dig (48 + n) && true) = true
    unfold dig
    rw [decide_eq_true (show 48 ≤ 48 + n by lia), decide_eq_true (show 48 + n ≤ 57 by lia)]; rfl
  ·have hm : n % 10 < 10 := Nat.mod_lt n (by decide)
   have e := dg_ge (n := n) (by lia)
   obtain ⟨v, dd, c, r, ec, hc⟩ := ih (n / 10) (by lia)
   refine ⟨?_, ?_, c, r ++ [48 + n % 10], by rw [e, ec]; rfl, fun _ => hc (by lia)⟩
   ·rw [e, digV_snoc, v]; lia
   ·rw [e, List.all_append, dd]
    show (true && (dig (48 + n % 10) && true)) = true
    unfold dig
    rw [decide_eq_true (show 48 ≤ 48 + n % 10 by lia), decide_eq_true (show 48 + n % 10 ≤ 57 by lia)]; rfl
theorem dg_len : ∀ (k n : Nat), n < 10 ^ (k + 1) → (dg n).length ≤ k + 1
 | 0, n, h => by rw [dg_lt (by simpa using h)]; exact Nat.le_refl _
 | k + 1, n, h => by
  by_cases h10 : n < 10
  ·rw [dg_lt h10]; exact Nat.succ_le_succ (Nat.zero_le _)
  ·rw [dg_ge (by lia), List.length_append]
   have := dg_len k (n / 10) (by rw [Nat.pow_succ] at h; lia)
   exact Nat.succ_le_succ this
theorem dg_num {n : Nat} (h : n < 10 ^ 60) : numOK (dg n) = true := by
 obtain ⟨v, dd, c, r, ec, hc⟩ := dg_ok n
 have l1 := dg_len 59 n h
 unfold numOK
 rw [dd, decide_eq_true l1, decide_eq_true (show 1 ≤ (dg n).length by rw [ec]; exact Nat.succ_le_succ (Nat.zero_le _))]
 by_cases h0 : n = 0
 ·have e : dg n = [48] := by rw [h0]; exact dg_lt (by decide)
  rw [e]; rfl
 ·have hh : ¬ ((dg n).head? = some 48) := by rw [ec]; exact fun e => hc h0 (Option.some.inj e)
  rw [decide_eq_false hh]; rfl
theorem dig_asc {c : Nat} (h : dig c = true) : c < 128 ∧ c ≠ 32 := by
 unfold dig at h
 rw [Bool.and_eq_true, decide_eq_true_eq, decide_eq_true_eq] at h
 exact ⟨by lia, by lia⟩
theorem dg_asc {n : Nat} : ∀ c ∈ dg n, c < 128 ∧ c ≠ 32 := fun c hc => dig_asc (List.all_eq_true.mp (dg_ok n).d c hc)
/- lines -/
noncomputable def joinL : List (List Nat) → List Nat
 | [] => []
 | [w] => w
 | w :: v :: ws => w ++ 32 :: joinL (v :: ws)
theorem join_strL : ∀ ws : List (List Nat), joinS (strL [32]) (ws.map strL) = strL (joinL ws)
 | [] => rfl
 | [w] => rfl
 | w :: v :: ws => by
  have ih := join_strL (v :: ws)
  show strL w ++ strL [32] ++ joinS (strL [32]) ((v :: ws).map strL) = strL (w ++ 32 :: joinL (v :: ws))
  rw [ih, strL_app, strL_app, List.append_assoc]; rfl
theorem split_word : ∀ {w : List Nat}, 32 ∉ w → splitC 32 w = [w]
 | [], _ => rfl
 | c :: r, h => split_cons (fun e => h (e ▸ .head _)) (split_word fun hm => h (.tail _ hm))
theorem split_app : ∀ {w r : List Nat}, 32 ∉ w → splitC 32 (w ++ 32 :: r) = w :: splitC 32 r
 | [], r, _ => split_sep
 | c :: w, r, h => split_cons (fun e => h (e ▸ .head _)) (split_app (w := w) fun hm => h (.tail _ hm))
theorem split_join : ∀ {ws : List (List Nat)}, ws ≠ [] → (∀ w ∈ ws, 32 ∉ w) → splitC 32 (joinL ws) = ws
 | [], h, _ => absurd rfl h
 | [w], _, h => split_word (h w (.head _))
 | w :: v :: ws, _, h => by
  show splitC 32 (w ++ 32 :: joinL (v :: ws)) = _
  rw [split_app (h w (.head _)), split_join (ws := v :: ws) (fun e => nomatch e) fun u hu => h u (.tail _ hu)]
theorem joinL_mem : ∀ {ws : List (List Nat)} {c : Nat}, c ∈ joinL ws → c = 32 ∨ ∃ w ∈ ws, c ∈ w
 | [], c, h => nomatch h
 | [w], c, h => .inr ⟨w, .head _, h⟩
 | w :: v :: ws, c, h => by
  have h : c ∈ w ++ 32 :: joinL (v :: ws) := h
  rcases List.mem_append.mp h with h | h
  ·exact .inr ⟨w, .head _, h⟩
  ·rcases List.mem_cons.mp h with h | h
   ·exact .inl h
   ·rcases joinL_mem h with h | ⟨u, hu, hc⟩
    ·exact .inl h
    ·exact .inr ⟨u, .tail _ hu, hc⟩
theorem joinL_len : ∀ {ws : List (List Nat)} {k : Nat}, (∀ w ∈ ws, w.length ≤ k) → (joinL ws).length ≤ ws.length * (k + 1)
 | [], k, _ => Nat.zero_le _
 | [w], k, h => by have := h w (.head _); show w.length ≤ 1 * (k + 1); lia
 | w :: v :: ws, k, h => by
  have ih := joinL_len (ws := v :: ws) (k := k) fun u hu => h u (.tail _ hu)
  have := h w (.head _)
  show (w ++ 32 :: joinL (v :: ws)).length ≤ _
  rw [List.length_append, List.length_cons]
  rw [show (w :: v :: ws).length = (v :: ws).length + 1 from rfl, Nat.succ_mul]
  lia
noncomputable def lineL (p : List Nat) (ns : List Nat) : List Nat := joinL (p :: ns.map dg)
theorem line_rd {p : List Nat} {ns : List Nat} (hp : lookW wl p = some ns.length) (h32 : 32 ∉ p) (hn : ∀ n ∈ ns, n < 10 ^ 60) : rd (lineL p ns) = some (p, ns.map dg) ∧ digs (ns.map dg) = ns.map fun (n : Nat) => (n : Int) := by
 have hs : splitC 32 (lineL p ns) = p :: ns.map dg := split_join (fun e => nomatch e) fun w hw => by
  rcases List.mem_cons.mp hw with rfl | hw
  ·exact h32
  ·obtain ⟨n, _, rfl⟩ := List.mem_map.mp hw
   exact fun h => (dg_asc 32 h).2 rfl
 have hall : (ns.map dg).all numOK = true := List.all_eq_true.mpr fun w hw => by
  obtain ⟨n, hn', rfl⟩ := List.mem_map.mp hw
  exact dg_num (hn n hn')
 constructor
 ·unfold rd
  rw [hs]
  exact if_pos ⟨by rw [List.length_map]; exact hp, hall⟩
 ·unfold digs
  rw [List.map_map]
  exact List.map_congr_left fun n _ => by show ((digV (dg n) : Nat) : Int) = _; rw [(dg_ok n).v]
theorem line_asc {p : List Nat} {ns : List Nat} (hp : ∀ c ∈ p, c < 128) (lp : p.length ≤ 60) (hl : ns.length ≤ 3) (hn : ∀ n ∈ ns, n < 10 ^ 60) : (∀ c ∈ lineL p ns, c < 128) ∧ (lineL p ns).length ≤ 250 := by
 constructor
 ·intro c hc
  rcases joinL_mem hc with rfl | ⟨w, hw, hcw⟩
  ·decide
  ·rcases List.mem_cons.mp hw with e | hw
   ·exact hp c (e ▸ hcw)
   ·obtain ⟨n, _, rfl⟩ := List.mem_map.mp hw
    exact (dg_asc c hcw).1
 ·have h1 := joinL_len (ws := p :: ns.map dg) (k := 60) fun w hw => by
   rcases List.mem_cons.mp hw with rfl | hw
   ·exact lp
   ·obtain ⟨n, hn', rfl⟩ := List.mem_map.mp hw
    exact dg_len 59 n (hn n hn')
  have h2 : (p :: ns.map dg).length ≤ 4 := by rw [List.length_cons, List.length_map]; lia
  unfold lineL
  lia
end Mine.Internal.L05
set_option autoImplicit false
set_option linter.unusedSimpArgs false
set_option linter.unusedVariables false
namespace Mine.Internal.L05
open Mine.Internal
open PySem (Str PyData)
noncomputable def cellAt (ns : List Int) (k : Nat) : Int := (ns[k]?).getD 0
section
variable {C : Calls} {σ : H} {d : Nat}
theorem cell_ok {k : Nat} {ns : List Int} {Q : V → H → Prop} (hz : σ.get 0 = some (.list (ns.map .int))) (h : Q (.int (cellAt ns k)) σ) : Ok (run prog 1000 (d + 1) false 69 [.ref 0, .int (k : Int)]) σ Q := by
 rw [ok_run (fd := f__law_cell_at) rfl rfl]
 unfold f__law_cell_at
 refine oks_step rfl ?_
 by_cases hk : k < ns.length
 ·have hlt : (k : Int) < ((ns.map V.int).length : Int) := by rw [List.length_map]; lia
  have hg : (ns.map V.int)[((k : Int)).toNat]? = some (.int (cellAt ns k)) := by simp [cellAt, hk]
  simp (disch := decide) only [ok_lenL hz, ok_lt, hlt, ok_truthb, zf,zg,zh,zi,zj,zk,zl,zm,zn,zo,zp,zq,zr,zt,zu,zv,zw,zx,zy,zz,zA,zB,zC,zD,zE,zF,zG,zH,zI,zJ,zK,zL,zM,zN,zO,zP,zQ,zR,zS,zT,zU,zV,zW,zX,zY,zZ,z0,z5,z6,z7,z8,z9,qa,qb,qc,qd,qe,qf,qg,qh,qi,qj,qk,ql,qm,qo,qp,qr,qt,qw,qx,qy,qz,qA,qB,qC,qD,qE,qF,qG,qH,qI,qJ,qK,qL,qM,qN,qO,qP,qQ,qR,qS,qT,qX,qY,qZ,q0,q5,qU,Nat.reduceBEq,qV,qW,if_true,if_false,q6,reduceCtorEq,Nat.reduceEqDiff,ne_eq,q7,q8,decide_true,decide_false,q9,ya]
  refine oks_step rfl ?_
  simp (disch := decide) only [ok_getList hz (Int.natCast_nonneg _) hg, zd, zf,zg,zh,zi,zj,zk,zl,zm,zn,zo,zp,zq,zr,zt,zu,zv,zw,zx,zy,zz,zA,zB,zC,zD,zE,zF,zG,zH,zI,zJ,zK,zL,zM,zN,zO,zP,zQ,zR,zS,zT,zU,zV,zW,zX,zY,zZ,z0,z5,z6,z7,z8,z9,qa,qb,qc,qd,qe,qf,qg,qh,qi,qj,qk,ql,qm,qo,qp,qr,qt,qw,qx,qy,qz,qA,qB,qC,qD,qE,qF,qG,qH,qI,qJ,qK,qL,qM,qN,qO,qP,qQ,qR,qS,qT,qX,qY,qZ,q0,q5,qU,Nat.reduceBEq,qV,qW,if_true,if_false,q6,reduceCtorEq,Nat.reduceEqDiff,ne_eq,q7,q8,decide_true,decide_false,q9,ya]
  exact h
 ·have hlt : ¬ ((k : Int) < ((ns.map V.int).length : Int)) := by rw [List.length_map]; lia
  have hg : cellAt ns k = 0 := by unfold cellAt; rw [List.getElem?_eq_none (by lia)]; rfl
  rw [hg] at h
  simp (disch := decide) only [ok_lenL hz, ok_lt, hlt, ok_truthb, zb, zf,zg,zh,zi,zj,zk,zl,zm,zn,zo,zp,zq,zr,zt,zu,zv,zw,zx,zy,zz,zA,zB,zC,zD,zE,zF,zG,zH,zI,zJ,zK,zL,zM,zN,zO,zP,zQ,zR,zS,zT,zU,zV,zW,zX,zY,zZ,z0,z5,z6,z7,z8,z9,qa,qb,qc,qd,qe,qf,qg,qh,qi,qj,qk,ql,qm,qo,qp,qr,qt,qw,qx,qy,qz,qA,qB,qC,qD,qE,qF,qG,qH,qI,qJ,qK,qL,qM,qN,qO,qP,qQ,qR,qS,qT,qX,qY,qZ,q0,q5,qU,Nat.reduceBEq,qV,qW,if_true,if_false,q6,reduceCtorEq,Nat.reduceEqDiff,ne_eq,q7,q8,decide_true,decide_false,q9,ya]
  refine then_step rfl ?_
  simp (disch := decide) only [zd, zf,zg,zh,zi,zj,zk,zl,zm,zn,zo,zp,zq,zr,zt,zu,zv,zw,zx,zy,zz,zA,zB,zC,zD,zE,zF,zG,zH,zI,zJ,zK,zL,zM,zN,zO,zP,zQ,zR,zS,zT,zU,zV,zW,zX,zY,zZ,z0,z5,z6,z7,z8,z9,qa,qb,qc,qd,qe,qf,qg,qh,qi,qj,qk,ql,qm,qo,qp,qr,qt,qw,qx,qy,qz,qA,qB,qC,qD,qE,qF,qG,qH,qI,qJ,qK,qL,qM,qN,qO,qP,qQ,qR,qS,qT,qX,qY,qZ,q0,q5,qU,Nat.reduceBEq,qV,qW,if_true,if_false,q6,reduceCtorEq,Nat.reduceEqDiff,ne_eq,q7,q8,decide_true,decide_false,q9,ya]
  exact h
theorem whole_ok {i : Int} {Q : V → H → Prop} (h : Q (.bool true) σ) : Ok (run prog 1000 (d + 1) false 66 [.int i]) σ Q := by
 rw [ok_run (fd := f__law_whole) rfl rfl]
 unfold f__law_whole
 refine oks_step rfl ?_
 simp (disch := decide) only [ea_cons, ea_one, eandF_t, eandF_f, ok_isi isi_int, ok_isi isi_intb, ok_truthb, zd, zf,zg,zh,zi,zj,zk,zl,zm,zn,zo,zp,zq,zr,zt,zu,zv,zw,zx,zy,zz,zA,zB,zC,zD,zE,zF,zG,zH,zI,zJ,zK,zL,zM,zN,zO,zP,zQ,zR,zS,zT,zU,zV,zW,zX,zY,zZ,z0,z5,z6,z7,z8,z9,qa,qb,qc,qd,qe,qf,qg,qh,qi,qj,qk,ql,qm,qo,qp,qr,qt,qw,qx,qy,qz,qA,qB,qC,qD,qE,qF,qG,qH,qI,qJ,qK,qL,qM,qN,qO,qP,qQ,qR,qS,qT,qX,qY,qZ,q0,q5,qU,Nat.reduceBEq,qV,qW,if_true,if_false,q6,reduceCtorEq,Nat.reduceEqDiff,ne_eq,q7,q8,decide_true,decide_false,q9,ya]
 exact h
theorem rng_at {n : Int} {j : Nat} {y : V} (h : ((List.range n.toNat).map fun (k : Nat) => V.int (k : Int))[j]? = some y) : (j : Int) < n ∧ y = .int (j : Int) := by
 rw [List.getElem?_map] at h
 obtain ⟨q, hq, rfl⟩ := Option.map_eq_some_iff.mp h
 obtain ⟨q1, q2⟩ := List.getElem?_eq_some_iff.mp hq
 simp at q1 q2
 subst q2
 exact ⟨by lia, rfl⟩
theorem numbers_ok {a b : Nat} {ns : List Int} {Q : V → H → Prop} (ha : σ.get a = some (.list (ns.map .int))) (hb : σ.get b = some (.list (ns.map .int))) (hl : ns.length ≤ 1000) (h : ∀ τ, Ext σ τ → Q (.bool true) τ) : Ok (run prog 1000 (d + 2) false 72 [.ref a, .ref b]) σ Q := by
 rw [ok_run (fd := f__law_numbers) rfl rfl]
 unfold f__law_numbers
 refine oks_step rfl ?_
 simp (disch := decide) only [ok_isi (isi_list ha), ok_truthb, ok_lenL ha, ok_lenL hb, ok_neI, zb, zf,zg,zh,zi,zj,zk,zl,zm,zn,zo,zp,zq,zr,zt,zu,zv,zw,zx,zy,zz,zA,zB,zC,zD,zE,zF,zG,zH,zI,zJ,zK,zL,zM,zN,zO,zP,zQ,zR,zS,zT,zU,zV,zW,zX,zY,zZ,z0,z5,z6,z7,z8,z9,qa,qb,qc,qd,qe,qf,qg,qh,qi,qj,qk,ql,qm,qo,qp,qr,qt,qw,qx,qy,qz,qA,qB,qC,qD,qE,qF,qG,qH,qI,qJ,qK,qL,qM,qN,qO,qP,qQ,qR,qS,qT,qX,qY,qZ,q0,q5,qU,Nat.reduceBEq,qV,qW,if_true,if_false,q6,reduceCtorEq,Nat.reduceEqDiff,ne_eq,q7,q8,decide_true,decide_false,q9,ya]
 refine then_step rfl ?_
 rw [s_for]
 simp (disch := decide) only [ok_lenL hb, List.length_map, ok_range1, zf,zg,zh,zi,zj,zk,zl,zm,zn,zo,zp,zq,zr,zt,zu,zv,zw,zx,zy,zz,zA,zB,zC,zD,zE,zF,zG,zH,zI,zJ,zK,zL,zM,zN,zO,zP,zQ,zR,zS,zT,zU,zV,zW,zX,zY,zZ,z0,z5,z6,z7,z8,z9,qa,qb,qc,qd,qe,qf,qg,qh,qi,qj,qk,ql,qm,qo,qp,qr,qt,qw,qx,qy,qz,qA,qB,qC,qD,qE,qF,qG,qH,qI,qJ,qK,qL,qM,qN,qO,qP,qQ,qR,qS,qT,qX,qY,qZ,q0,q5,qU,Nat.reduceBEq,qV,qW,if_true,if_false,q6,reduceCtorEq,Nat.reduceEqDiff,ne_eq,q7,q8,decide_true,decide_false,q9,ya]
 have x1 : Ext σ (σ.push (.rng 0 ((ns.length : Nat) : Int) 1)) := (Ext.refl _).push _
 have g1 : (σ.push (.rng 0 ((ns.length : Nat) : Int) 1)).get σ.length = some (.rng 0 ((ns.length : Nat) : Int) 1) := get_push_eq
 have ha1 := x1 _ _ ha
 have hb1 := x1 _ _ hb
 generalize σ.push (.rng 0 ((ns.length : Nat) : Int) 1) = τ at *
 refine ⟨_, it_range g1 (Int.natCast_nonneg _) (by lia), f_inv (fun _ l s => s = τ ∧ l 67 = some (.ref a) ∧ l 73 = some (.ref b)) ⟨rfl, rfl, rfl⟩ (fun j l s y hy ⟨e, e1, e2⟩ => ?_) fun l s ⟨e, e1, e2⟩ => ?_⟩
 ·subst e
  obtain ⟨hj, rfl⟩ := rng_at hy
  have hj : j < ns.length := by lia
  have hg : (ns.map V.int)[((j : Int)).toNat]? = some (.int ns[j]) := by rw [Int.toNat_natCast, List.getElem?_map, List.getElem?_eq_getElem hj]; rfl
  have f1 : (l.upd 71 (.int (j : Int))) 67 = some (.ref a) := (upd_no (by decide)).trans e1
  have f2 : (l.upd 71 (.int (j : Int))) 73 = some (.ref b) := (upd_no (by decide)).trans e2
  have f3 : (l.upd 71 (.int (j : Int))) 71 = some (.int (j : Int)) := upd_at
  generalize l.upd 71 (.int (j : Int)) = l1 at *
  refine oks_step rfl ?_
  simp (disch := decide) only [f1, f2, f3, ok_getList hb1 (Int.natCast_nonneg j) hg, ok_is, ok_truthb, zf,zg,zh,zi,zj,zk,zl,zm,zn,zo,zp,zq,zr,zt,zu,zv,zw,zx,zy,zz,zA,zB,zC,zD,zE,zF,zG,zH,zI,zJ,zK,zL,zM,zN,zO,zP,zQ,zR,zS,zT,zU,zV,zW,zX,zY,zZ,z0,z5,z6,z7,z8,z9,qa,qb,qc,qd,qe,qf,qg,qh,qi,qj,qk,ql,qm,qo,qp,qr,qt,qw,qx,qy,qz,qA,qB,qC,qD,qE,qF,qG,qH,qI,qJ,qK,qL,qM,qN,qO,qP,qQ,qR,qS,qT,qX,qY,qZ,q0,q5,qU,Nat.reduceBEq,qV,qW,if_true,if_false,q6,reduceCtorEq,Nat.reduceEqDiff,ne_eq,q7,q8,decide_true,decide_false,q9,ya]
  refine oks_step rfl ?_
  simp (disch := decide) only [f1, f2, f3, ok_getList ha1 (Int.natCast_nonneg j) hg, zf,zg,zh,zi,zj,zk,zl,zm,zn,zo,zp,zq,zr,zt,zu,zv,zw,zx,zy,zz,zA,zB,zC,zD,zE,zF,zG,zH,zI,zJ,zK,zL,zM,zN,zO,zP,zQ,zR,zS,zT,zU,zV,zW,zX,zY,zZ,z0,z5,z6,z7,z8,z9,qa,qb,qc,qd,qe,qf,qg,qh,qi,qj,qk,ql,qm,qo,qp,qr,qt,qw,qx,qy,qz,qA,qB,qC,qD,qE,qF,qG,qH,qI,qJ,qK,qL,qM,qN,qO,qP,qQ,qR,qS,qT,qX,qY,qZ,q0,q5,qU,Nat.reduceBEq,qV,qW,if_true,if_false,q6,reduceCtorEq,Nat.reduceEqDiff,ne_eq,q7,q8,decide_true,decide_false,q9,ya]
  refine whole_ok ?_
  simp (disch := decide) only [f1, f2, f3, ok_getList hb1 (Int.natCast_nonneg j) hg, ok_getList ha1 (Int.natCast_nonneg j) hg, ok_neI, ok_truthb, zb, zc, zf,zg,zh,zi,zj,zk,zl,zm,zn,zo,zp,zq,zr,zt,zu,zv,zw,zx,zy,zz,zA,zB,zC,zD,zE,zF,zG,zH,zI,zJ,zK,zL,zM,zN,zO,zP,zQ,zR,zS,zT,zU,zV,zW,zX,zY,zZ,z0,z5,z6,z7,z8,z9,qa,qb,qc,qd,qe,qf,qg,qh,qi,qj,qk,ql,qm,qo,qp,qr,qt,qw,qx,qy,qz,qA,qB,qC,qD,qE,qF,qG,qH,qI,qJ,qK,qL,qM,qN,qO,qP,qQ,qR,qS,qT,qX,qY,qZ,q0,q5,qU,Nat.reduceBEq,qV,qW,if_true,if_false,q6,reduceCtorEq,Nat.reduceEqDiff,ne_eq,q7,q8,decide_true,decide_false,q9,ya]
  exact ⟨trivial, still_get rfl, trivial, trivial, trivial⟩
 ·subst e
  refine then_step rfl ?_
  simp (disch := decide) only [zd, zf,zg,zh,zi,zj,zk,zl,zm,zn,zo,zp,zq,zr,zt,zu,zv,zw,zx,zy,zz,zA,zB,zC,zD,zE,zF,zG,zH,zI,zJ,zK,zL,zM,zN,zO,zP,zQ,zR,zS,zT,zU,zV,zW,zX,zY,zZ,z0,z5,z6,z7,z8,z9,qa,qb,qc,qd,qe,qf,qg,qh,qi,qj,qk,ql,qm,qo,qp,qr,qt,qw,qx,qy,qz,qA,qB,qC,qD,qE,qF,qG,qH,qI,qJ,qK,qL,qM,qN,qO,qP,qQ,qR,qS,qT,qX,qY,qZ,q0,q5,qU,Nat.reduceBEq,qV,qW,if_true,if_false,q6,reduceCtorEq,Nat.reduceEqDiff,ne_eq,q7,q8,decide_true,decide_false,q9,ya]
  exact h _ x1
theorem alike_ok {a b : Nat} {p : List Nat} {ns : List Int} {Q : V → H → Prop} (ha : σ.get a = some (.tup (deedV p ns))) (hb : σ.get b = some (.tup (deedV p ns))) (hl : ns.length ≤ 1000) (h : ∀ τ, Ext σ τ → Q (.bool true) τ) : Ok (run prog 1000 (d + 3) false 198 [.ref a, .ref b]) σ Q := by
 rw [ok_run (fd := f__law_alike) rfl rfl]
 unfold f__law_alike
 have i0 : (deedV p ns)[(0 : Int).toNat]? = some (.str (strL p)) := rfl
 refine oks_step rfl ?_
 simp (disch := decide) only [ok_isi (isi_tup ha), ok_getTup ha (Int.le_refl 0) i0, ok_getTup hb (Int.le_refl 0) i0, ok_isi isi_str, ok_neS, ok_truthb, zb, zf,zg,zh,zi,zj,zk,zl,zm,zn,zo,zp,zq,zr,zt,zu,zv,zw,zx,zy,zz,zA,zB,zC,zD,zE,zF,zG,zH,zI,zJ,zK,zL,zM,zN,zO,zP,zQ,zR,zS,zT,zU,zV,zW,zX,zY,zZ,z0,z5,z6,z7,z8,z9,qa,qb,qc,qd,qe,qf,qg,qh,qi,qj,qk,ql,qm,qo,qp,qr,qt,qw,qx,qy,qz,qA,qB,qC,qD,qE,qF,qG,qH,qI,qJ,qK,qL,qM,qN,qO,qP,qQ,qR,qS,qT,qX,qY,qZ,q0,q5,qU,Nat.reduceBEq,qV,qW,if_true,if_false,q6,reduceCtorEq,Nat.reduceEqDiff,ne_eq,q7,q8,decide_true,decide_false,q9,ya]
 refine then_step rfl ?_
 have hlen : (ns.map V.int).length ≤ lim := le_lim (by rw [List.length_map]; exact hl)
 simp (disch := decide) only [qB, slF_at, slF2_at, ok_tailT ha, zf,zg,zh,zi,zj,zk,zl,zm,zn,zo,zp,zq,zr,zt,zu,zv,zw,zx,zy,zz,zA,zB,zC,zD,zE,zF,zG,zH,zI,zJ,zK,zL,zM,zN,zO,zP,zQ,zR,zS,zT,zU,zV,zW,zX,zY,zZ,z0,z5,z6,z7,z8,z9,qa,qb,qc,qd,qe,qf,qg,qh,qi,qj,qk,ql,qm,qo,qp,qr,qt,qw,qx,qy,qz,qA,qB,qC,qD,qE,qF,qG,qH,qI,qJ,qK,qL,qM,qN,qO,qP,qQ,qR,qS,qT,qX,qY,qZ,q0,q5,qU,Nat.reduceBEq,qV,qW,if_true,if_false,q6,reduceCtorEq,Nat.reduceEqDiff,ne_eq,q7,q8,decide_true,decide_false,q9,ya]
 have x1 : Ext σ (σ.push (.tup (ns.map .int))) := (Ext.refl _).push _
 have g1 : (σ.push (.tup (ns.map .int))).get σ.length = some (.tup (ns.map .int)) := get_push_eq
 generalize σ.push (.tup (ns.map .int)) = τ1 at *
 generalize σ.length = a1 at *
 simp (disch := decide) only [ok_listT g1 hlen, zf,zg,zh,zi,zj,zk,zl,zm,zn,zo,zp,zq,zr,zt,zu,zv,zw,zx,zy,zz,zA,zB,zC,zD,zE,zF,zG,zH,zI,zJ,zK,zL,zM,zN,zO,zP,zQ,zR,zS,zT,zU,zV,zW,zX,zY,zZ,z0,z5,z6,z7,z8,z9,qa,qb,qc,qd,qe,qf,qg,qh,qi,qj,qk,ql,qm,qo,qp,qr,qt,qw,qx,qy,qz,qA,qB,qC,qD,qE,qF,qG,qH,qI,qJ,qK,qL,qM,qN,qO,qP,qQ,qR,qS,qT,qX,qY,qZ,q0,q5,qU,Nat.reduceBEq,qV,qW,if_true,if_false,q6,reduceCtorEq,Nat.reduceEqDiff,ne_eq,q7,q8,decide_true,decide_false,q9,ya]
 have x2 := x1.push (.list (ns.map .int))
 have g2 : (τ1.push (.list (ns.map .int))).get τ1.length = some (.list (ns.map .int)) := get_push_eq
 generalize τ1.push (.list (ns.map .int)) = τ2 at *
 generalize τ1.length = a2 at *
 simp (disch := decide) only [qB, slF_at, slF2_at, ok_tailT (x2 _ _ hb), zf,zg,zh,zi,zj,zk,zl,zm,zn,zo,zp,zq,zr,zt,zu,zv,zw,zx,zy,zz,zA,zB,zC,zD,zE,zF,zG,zH,zI,zJ,zK,zL,zM,zN,zO,zP,zQ,zR,zS,zT,zU,zV,zW,zX,zY,zZ,z0,z5,z6,z7,z8,z9,qa,qb,qc,qd,qe,qf,qg,qh,qi,qj,qk,ql,qm,qo,qp,qr,qt,qw,qx,qy,qz,qA,qB,qC,qD,qE,qF,qG,qH,qI,qJ,qK,qL,qM,qN,qO,qP,qQ,qR,qS,qT,qX,qY,qZ,q0,q5,qU,Nat.reduceBEq,qV,qW,if_true,if_false,q6,reduceCtorEq,Nat.reduceEqDiff,ne_eq,q7,q8,decide_true,decide_false,q9,ya]
 have x3 := x2.push (.tup (ns.map .int))
 have g3 : (τ2.push (.tup (ns.map .int))).get τ2.length = some (.tup (ns.map .int)) := get_push_eq
 have g2' := get_keep (x := .tup (ns.map .int)) g2
 generalize τ2.push (.tup (ns.map .int)) = τ3 at *
 generalize τ2.length = a3 at *
 simp (disch := decide) only [ok_listT g3 hlen, zf,zg,zh,zi,zj,zk,zl,zm,zn,zo,zp,zq,zr,zt,zu,zv,zw,zx,zy,zz,zA,zB,zC,zD,zE,zF,zG,zH,zI,zJ,zK,zL,zM,zN,zO,zP,zQ,zR,zS,zT,zU,zV,zW,zX,zY,zZ,z0,z5,z6,z7,z8,z9,qa,qb,qc,qd,qe,qf,qg,qh,qi,qj,qk,ql,qm,qo,qp,qr,qt,qw,qx,qy,qz,qA,qB,qC,qD,qE,qF,qG,qH,qI,qJ,qK,qL,qM,qN,qO,qP,qQ,qR,qS,qT,qX,qY,qZ,q0,q5,qU,Nat.reduceBEq,qV,qW,if_true,if_false,q6,reduceCtorEq,Nat.reduceEqDiff,ne_eq,q7,q8,decide_true,decide_false,q9,ya]
 have x4 := x3.push (.list (ns.map .int))
 refine numbers_ok (get_keep g2') get_push_eq hl fun τ x => ?_
 simp (disch := decide) only [zd, zf,zg,zh,zi,zj,zk,zl,zm,zn,zo,zp,zq,zr,zt,zu,zv,zw,zx,zy,zz,zA,zB,zC,zD,zE,zF,zG,zH,zI,zJ,zK,zL,zM,zN,zO,zP,zQ,zR,zS,zT,zU,zV,zW,zX,zY,zZ,z0,z5,z6,z7,z8,z9,qa,qb,qc,qd,qe,qf,qg,qh,qi,qj,qk,ql,qm,qo,qp,qr,qt,qw,qx,qy,qz,qA,qB,qC,qD,qE,qF,qG,qH,qI,qJ,qK,qL,qM,qN,qO,qP,qQ,qR,qS,qT,qX,qY,qZ,q0,q5,qU,Nat.reduceBEq,qV,qW,if_true,if_false,q6,reduceCtorEq,Nat.reduceEqDiff,ne_eq,q7,q8,decide_true,decide_false,q9,ya]
 exact h _ (x4.trans x)
theorem refused_t {l : List Nat} (hA : Asc l) (hr : rd l = none) (h1 : σ.get 1 = some (.dict words)) {Q : V → H → Prop} (h : ∀ τ, Ext σ τ → Q (.bool true) τ) : Ok (run prog 1000 (d + 3) false 200 [.str (strL l)]) σ Q := by
 obtain ⟨τ, e, x⟩ := read_err (d := d) hA hr h1
 rw [ok_run (fd := f__law_refused) rfl rfl]
 unfold f__law_refused
 refine oks_step rfl ?_
 generalize hlc : ((([197] : List Nat).zip [V.str (strL l)]).foldl (fun (l : Loc) (p : Nat × V) => l.upd p.1 p.2) (fun _ => none)) = lc
 have e197 : lc 197 = some (.str (strL l)) := by rw [← hlc]; rfl
 have er : ErS (exs prog (run prog 1000 (d + 2)) 1000 f__law_refused_1t_1 lc σ) 97 τ := by
  refine ers_cons1 rfl (ers_expr ?_)
  show X.bind (X.bind (X.lift (lc 197)) fun v => X.bind (X.pure []) fun vs => X.pure (v :: vs)) (fun vs => run prog 1000 (d + 2) false 115 vs) σ = _
  rw [e197]
  exact e
 obtain ⟨l', er⟩ := er
 have : ex prog (run prog 1000 (d + 2)) 1000 (.try f__law_refused_1t_1 [(97, .cbool true)]) lc σ = some (.ok (some (.bool true)), l', τ) := by
  show tryX prog (run prog 1000 (d + 2)) (exs prog (run prog 1000 (d + 2)) 1000 f__law_refused_1t_1 lc σ) [(97, .cbool true)] = _
  rw [er]; rfl
 rw [this]
 exact h _ x
theorem refused_f {l p : List Nat} {ws : List (List Nat)} (hA : Asc l) (hr : rd l = some (p, ws)) (h1 : σ.get 1 = some (.dict words)) {Q : V → H → Prop} (h : ∀ τ, Ext σ τ → Q (.bool false) τ) : Ok (run prog 1000 (d + 3) false 200 [.str (strL l)]) σ Q := by
 rw [ok_run (fd := f__law_refused) rfl rfl]
 unfold f__law_refused
 refine oks_step rfl ?_
 generalize hlc : ((([197] : List Nat).zip [V.str (strL l)]).foldl (fun (l : Loc) (p : Nat × V) => l.upd p.1 p.2) (fun _ => none)) = lc
 have e197 : lc 197 = some (.str (strL l)) := by rw [← hlc]; rfl
 have ok : OkS (exs prog (run prog 1000 (d + 2)) 1000 f__law_refused_1t_1 lc σ) (fun r l s => r = none ∧ Ext σ s) := by
  refine oks_step rfl ?_
  simp (disch := decide) only [e197, zf,zg,zh,zi,zj,zk,zl,zm,zn,zo,zp,zq,zr,zt,zu,zv,zw,zx,zy,zz,zA,zB,zC,zD,zE,zF,zG,zH,zI,zJ,zK,zL,zM,zN,zO,zP,zQ,zR,zS,zT,zU,zV,zW,zX,zY,zZ,z0,z5,z6,z7,z8,z9,qa,qb,qc,qd,qe,qf,qg,qh,qi,qj,qk,ql,qm,qo,qp,qr,qt,qw,qx,qy,qz,qA,qB,qC,qD,qE,qF,qG,qH,qI,qJ,qK,qL,qM,qN,qO,qP,qQ,qR,qS,qT,qX,qY,qZ,q0,q5,qU,Nat.reduceBEq,qV,qW,if_true,if_false,q6,reduceCtorEq,Nat.reduceEqDiff,ne_eq,q7,q8,decide_true,decide_false,q9,ya]
  refine read_ok hA hr h1 fun τ x => ?_
  simp (disch := decide) only [zb, zc, zf,zg,zh,zi,zj,zk,zl,zm,zn,zo,zp,zq,zr,zt,zu,zv,zw,zx,zy,zz,zA,zB,zC,zD,zE,zF,zG,zH,zI,zJ,zK,zL,zM,zN,zO,zP,zQ,zR,zS,zT,zU,zV,zW,zX,zY,zZ,z0,z5,z6,z7,z8,z9,qa,qb,qc,qd,qe,qf,qg,qh,qi,qj,qk,ql,qm,qo,qp,qr,qt,qw,qx,qy,qz,qA,qB,qC,qD,qE,qF,qG,qH,qI,qJ,qK,qL,qM,qN,qO,qP,qQ,qR,qS,qT,qX,qY,qZ,q0,q5,qU,Nat.reduceBEq,qV,qW,if_true,if_false,q6,reduceCtorEq,Nat.reduceEqDiff,ne_eq,q7,q8,decide_true,decide_false,q9,ya]
  exact ⟨trivial, x.push _⟩
 obtain ⟨r, l', s, e, rfl, x⟩ := oks_iff.mp ok
 have : ex prog (run prog 1000 (d + 2)) 1000 (.try f__law_refused_1t_1 [(97, .cbool true)]) lc σ = some (.ok none, l', s) := by
  show tryX prog (run prog 1000 (d + 2)) (exs prog (run prog 1000 (d + 2)) 1000 f__law_refused_1t_1 lc σ) [(97, .cbool true)] = _
  rw [e]; rfl
 rw [this, oks_some]
 refine then_step rfl ?_
 simp (disch := decide) only [zd, zf,zg,zh,zi,zj,zk,zl,zm,zn,zo,zp,zq,zr,zt,zu,zv,zw,zx,zy,zz,zA,zB,zC,zD,zE,zF,zG,zH,zI,zJ,zK,zL,zM,zN,zO,zP,zQ,zR,zS,zT,zU,zV,zW,zX,zY,zZ,z0,z5,z6,z7,z8,z9,qa,qb,qc,qd,qe,qf,qg,qh,qi,qj,qk,ql,qm,qo,qp,qr,qt,qw,qx,qy,qz,qA,qB,qC,qD,qE,qF,qG,qH,qI,qJ,qK,qL,qM,qN,qO,qP,qQ,qR,qS,qT,qX,qY,qZ,q0,q5,qU,Nat.reduceBEq,qV,qW,if_true,if_false,q6,reduceCtorEq,Nat.reduceEqDiff,ne_eq,q7,q8,decide_true,decide_false,q9,ya]
 exact h _ x
theorem by_all_ok {l : List Nat} (hA : Asc l) (hr : rd l = none) (h1 : σ.get 1 = some (.dict words)) {Q : V → H → Prop} (h : ∀ τ, Ext σ τ → Q (.bool true) τ) : Ok (run prog 1000 (d + 3) false 201 [.str (strL l)]) σ Q := by
 obtain ⟨τ, e, x⟩ := read_err (d := d) hA hr h1
 rw [ok_run (fd := f__law_refused_by_all) rfl rfl]
 unfold f__law_refused_by_all
 refine oks_step rfl ?_
 generalize hlc : ((([197] : List Nat).zip [V.str (strL l)]).foldl (fun (l : Loc) (p : Nat × V) => l.upd p.1 p.2) (fun _ => none)) = lc
 have e197 : lc 197 = some (.str (strL l)) := by rw [← hlc]; rfl
 have er : ErS (exs prog (run prog 1000 (d + 2)) 1000 f__law_refused_by_all_1t_1 lc σ) 97 τ := by
  refine ers_cons1 rfl (ers_expr ?_)
  show X.bind (X.bind (X.lift (lc 197)) fun v => X.bind (X.pure []) fun vs => X.pure (v :: vs)) (fun vs => run prog 1000 (d + 2) false 115 vs) σ = _
  rw [e197]
  exact e
 obtain ⟨l', er⟩ := er
 have : ∃ l2, ex prog (run prog 1000 (d + 2)) 1000 (.tryE f__law_refused_by_all_1t_1 16 143 [17, 18, 19, 20, 85] 97) lc σ = some (.ok (some (.bool true)), l2, τ) := by
  refine ⟨fun _ => none, ?_⟩
  show tryE prog (exs prog (run prog 1000 (d + 2)) 1000 f__law_refused_by_all_1t_1 lc σ) 16 143 [17, 18, 19, 20, 85] 97 = _
  rw [er]; rfl
 obtain ⟨l2, this⟩ := this
 rw [this]
 exact h _ x
end
end Mine.Internal.L05
set_option autoImplicit false
set_option linter.unusedSimpArgs false
set_option linter.unusedVariables false
namespace Mine.Internal.L05
open Mine.Internal
open PySem (Str PyData)
noncomputable def someL : List Nat := [32, 33, 34, 35, 36, 38, 39, 40, 41, 42, 43, 44, 45, 46, 47, 48, 49, 50, 51, 52, 53, 54, 55, 56, 57, 58, 59, 60, 61, 62, 63, 64, 65, 66, 67, 68, 69, 70, 71, 72, 73, 74, 75, 76, 77, 78, 79, 80, 81, 82, 83, 84, 85, 86, 87, 88, 89, 90, 91, 92, 93, 94, 95, 96, 97, 98, 99, 100, 101, 102, 103, 104, 105, 106, 107, 108, 109, 110, 111, 112, 113, 114, 115, 116, 117, 118, 119, 120, 121, 122, 123, 124, 125, 126]
theorem s_some : Str.ofString " !\"#$&'()*+,-./0123456789:;<=>?@ABCDEFGHIJKLMNOPQRSTUVWXYZ[\\]^_`abcdefghijklmnopqrstuvwxyz{|}~" = strL someL := by kernel_rfl
theorem some_ok : someL.all (fun c => decide (c < 128)) = true := by decide
noncomputable def odd1 : List Str := [Str.ofString "", Str.ofString " ", Str.ofString "tidy ", Str.ofString " tidy", Str.ofString "Tidy", Str.ofString "tidy 0", Str.ofString "make", Str.ofString "make 1", Str.ofString "make 1 2 3", Str.ofString "make  1 2", Str.ofString "MAKE 1 2"]
noncomputable def odd2 : List Str := [Str.ofString "drop +1", Str.ofString "drop 01", Str.ofString "hold 1,2", Str.ofString "put 1 2", Str.ofString "empty 1 2 ", Str.ofString "take 1 2 x", Str.ofString "drop 1.", Str.ofString "   "]
noncomputable def odds : List Str := (odd1 ++ [Str.ofString "drop -1"]) ++ odd2
theorem odds_ok : odds.all (fun s => s.cps.toList.all (fun c => decide (c < 128)) && decide (s.cps.toList.length ≤ 500)) = true := by kernel_rfl
theorem odd_asc {s : Str} (h : s ∈ odds) : Asc s.cps.toList := by
 have := List.all_eq_true.mp odds_ok s h
 rw [Bool.and_eq_true, decide_eq_true_eq] at this
 exact ⟨fun c hc => of_decide_eq_true (List.all_eq_true.mp this.1 c hc), this.2⟩
theorem replC_mem {c : Nat} {z : List Nat} : ∀ {n : Nat} {l : List Nat} {x : Nat}, x ∈ replC c z n l → x ∈ z ∨ x ∈ l
 | 0, [], x, h => nomatch h
 | 0, y :: r, x, h => .inr h
 | n + 1, [], x, h => .inr h
 | n + 1, y :: r, x, h => by
  unfold replC at h
  split at h
  ·rcases List.mem_append.mp h with h | h
   ·exact .inl h
   ·exact (replC_mem h).imp id (.tail _)
  ·rcases List.mem_cons.mp h with h | h
   ·exact .inr (h ▸ .head _)
   ·exact (replC_mem h).imp id (.tail _)
theorem replC_len {c : Nat} {z : List Nat} : ∀ {n : Nat} {l : List Nat}, (replC c z n l).length ≤ l.length + n * z.length
 | 0, [] => Nat.zero_le _
 | 0, y :: r => Nat.le_add_right _ _
 | n + 1, [] => Nat.zero_le _
 | n + 1, y :: r => by
  unfold replC
  split
  ·have := replC_len (c := c) (z := z) (n := n) (l := r)
   rw [List.length_append, Nat.succ_mul, List.length_cons]; lia
  ·have := replC_len (c := c) (z := z) (n := n + 1) (l := r)
   rw [List.length_cons, List.length_cons]; lia
theorem cut_mem {l : List Nat} {a b x : Nat} (h : x ∈ cut l a b) : x ∈ l := List.mem_of_mem_take (List.mem_of_mem_drop h)
theorem cut_len {l : List Nat} {a b : Nat} : (cut l a b).length ≤ l.length := by
 unfold cut
 rw [List.length_drop, List.length_take]
 have := Nat.min_le_right b l.length
 lia
section
variable {C : Calls} {σ : H} {d : Nat}
theorem odd_ok {c : Int} {Q : V → H → Prop} (hnf : 2 ≤ σ.length) (h : ∀ l τ, Asc l → Ext σ τ → Q (.str (strL l)) τ) : Ok (run prog 1000 (d + 1) false 199 [.int c]) σ Q := by
 rw [ok_run (fd := f__law_odd_line) rfl rfl]
 unfold f__law_odd_line
 refine oks_step rfl ?_
 simp (disch := decide) only [zf,zg,zh,zi,zj,zk,zl,zm,zn,zo,zp,zq,zr,zt,zu,zv,zw,zx,zy,zz,zA,zB,zC,zD,zE,zF,zG,zH,zI,zJ,zK,zL,zM,zN,zO,zP,zQ,zR,zS,zT,zU,zV,zW,zX,zY,zZ,z0,z5,z6,z7,z8,z9,qa,qb,qc,qd,qe,qf,qg,qh,qi,qj,qk,ql,qm,qo,qp,qr,qt,qw,qx,qy,qz,qA,qB,qC,qD,qE,qF,qG,qH,qI,qJ,qK,qL,qM,qN,qO,qP,qQ,qR,qS,qT,qX,qY,qZ,q0,q5,qU,Nat.reduceBEq,qV,qW,if_true,if_false,q6,reduceCtorEq,Nat.reduceEqDiff,ne_eq,q7,q8,decide_true,decide_false,q9,ya]
 change Ok (alloc (.list (odd1.map V.str))) σ _
 rw [ok_alloc (show okO (.list (odd1.map V.str)) = true from rfl)]
 have x1 : Ext σ (σ.push (.list (odd1.map V.str))) := (Ext.refl _).push _
 have g1 : (σ.push (.list (odd1.map V.str))).get σ.length = some (.list (odd1.map V.str)) := get_push_eq
 generalize σ.push (.list (odd1.map V.str)) = τ1 at *
 simp (disch := decide) only [zf,zg,zh,zi,zj,zk,zl,zm,zn,zo,zp,zq,zr,zt,zu,zv,zw,zx,zy,zz,zA,zB,zC,zD,zE,zF,zG,zH,zI,zJ,zK,zL,zM,zN,zO,zP,zQ,zR,zS,zT,zU,zV,zW,zX,zY,zZ,z0,z5,z6,z7,z8,z9,qa,qb,qc,qd,qe,qf,qg,qh,qi,qj,qk,ql,qm,qo,qp,qr,qt,qw,qx,qy,qz,qA,qB,qC,qD,qE,qF,qG,qH,qI,qJ,qK,qL,qM,qN,qO,qP,qQ,qR,qS,qT,qX,qY,qZ,q0,q5,qU,Nat.reduceBEq,qV,qW,if_true,if_false,q6,reduceCtorEq,Nat.reduceEqDiff,ne_eq,q7,q8,decide_true,decide_false,q9,ya]
 refine then_step rfl ?_
 simp (disch := decide) only [mx_list g1 (.inl rfl), ok_append g1 (show prog.nf ≤ σ.length from hnf) (show (odd1.map V.str ++ [V.str (Str.ofString "drop -1")]).length ≤ lim from by decide), zf,zg,zh,zi,zj,zk,zl,zm,zn,zo,zp,zq,zr,zt,zu,zv,zw,zx,zy,zz,zA,zB,zC,zD,zE,zF,zG,zH,zI,zJ,zK,zL,zM,zN,zO,zP,zQ,zR,zS,zT,zU,zV,zW,zX,zY,zZ,z0,z5,z6,z7,z8,z9,qa,qb,qc,qd,qe,qf,qg,qh,qi,qj,qk,ql,qm,qo,qp,qr,qt,qw,qx,qy,qz,qA,qB,qC,qD,qE,qF,qG,qH,qI,qJ,qK,qL,qM,qN,qO,qP,qQ,qR,qS,qT,qX,qY,qZ,q0,q5,qU,Nat.reduceBEq,qV,qW,if_true,if_false,q6,reduceCtorEq,Nat.reduceEqDiff,ne_eq,q7,q8,decide_true,decide_false,q9,ya]
 have x2 := ext_put x1 (Nat.le_refl _) (.list (odd1.map V.str ++ [V.str (Str.ofString "drop -1")]))
 have g2 : (τ1.put σ.length (.list (odd1.map V.str ++ [V.str (Str.ofString "drop -1")]))).get σ.length = some (.list (odd1.map V.str ++ [V.str (Str.ofString "drop -1")])) := get_put_eq (get_lt g1)
 generalize τ1.put σ.length (.list (odd1.map V.str ++ [V.str (Str.ofString "drop -1")])) = τ2 at *
 refine then_step rfl ?_
 simp (disch := decide) only [zf,zg,zh,zi,zj,zk,zl,zm,zn,zo,zp,zq,zr,zt,zu,zv,zw,zx,zy,zz,zA,zB,zC,zD,zE,zF,zG,zH,zI,zJ,zK,zL,zM,zN,zO,zP,zQ,zR,zS,zT,zU,zV,zW,zX,zY,zZ,z0,z5,z6,z7,z8,z9,qa,qb,qc,qd,qe,qf,qg,qh,qi,qj,qk,ql,qm,qo,qp,qr,qt,qw,qx,qy,qz,qA,qB,qC,qD,qE,qF,qG,qH,qI,qJ,qK,qL,qM,qN,qO,qP,qQ,qR,qS,qT,qX,qY,qZ,q0,q5,qU,Nat.reduceBEq,qV,qW,if_true,if_false,q6,reduceCtorEq,Nat.reduceEqDiff,ne_eq,q7,q8,decide_true,decide_false,q9,ya]
 change Ok (alloc (.list (odd2.map V.str))) τ2 _
 rw [ok_alloc (show okO (.list (odd2.map V.str)) = true from rfl)]
 have x3 := x2.push (.list (odd2.map V.str))
 have g3 : (τ2.push (.list (odd2.map V.str))).get τ2.length = some (.list (odd2.map V.str)) := get_push_eq
 have g2' := get_keep (x := .list (odd2.map V.str)) g2
 generalize τ2.push (.list (odd2.map V.str)) = τ3 at *
 have e : (odd1.map V.str ++ [V.str (Str.ofString "drop -1")]) ++ odd2.map V.str = odds.map V.str := by unfold odds; rw [List.map_append, List.map_append]; rfl
 have el : ((odd1.map V.str ++ [V.str (Str.ofString "drop -1")]) ++ odd2.map V.str).length ≤ lim := by decide
 simp (disch := decide) only [ok_catL g2' g3 el, zf,zg,zh,zi,zj,zk,zl,zm,zn,zo,zp,zq,zr,zt,zu,zv,zw,zx,zy,zz,zA,zB,zC,zD,zE,zF,zG,zH,zI,zJ,zK,zL,zM,zN,zO,zP,zQ,zR,zS,zT,zU,zV,zW,zX,zY,zZ,z0,z5,z6,z7,z8,z9,qa,qb,qc,qd,qe,qf,qg,qh,qi,qj,qk,ql,qm,qo,qp,qr,qt,qw,qx,qy,qz,qA,qB,qC,qD,qE,qF,qG,qH,qI,qJ,qK,qL,qM,qN,qO,qP,qQ,qR,qS,qT,qX,qY,qZ,q0,q5,qU,Nat.reduceBEq,qV,qW,if_true,if_false,q6,reduceCtorEq,Nat.reduceEqDiff,ne_eq,q7,q8,decide_true,decide_false,q9,ya]
 rw [e]
 have x4 := x3.push (.list (odds.map V.str))
 have g4 : (τ3.push (.list (odds.map V.str))).get τ3.length = some (.list (odds.map V.str)) := get_push_eq
 generalize τ3.push (.list (odds.map V.str)) = τ4 at *
 obtain ⟨k, hk1, hk2⟩ := fmod_nat (a := c) (b := 20) (by decide)
 have hk : k < odds.length := by show k < 20; lia
 have ig : (odds.map V.str)[((k : Int)).toNat]? = some (.str odds[k]) := by rw [Int.toNat_natCast, List.getElem?_map, List.getElem?_eq_getElem hk]; rfl
 refine then_step rfl ?_
 simp (disch := decide) only [ok_mod (b := 20) (by decide), hk1, ok_getList g4 (Int.natCast_nonneg _) ig, zd, zf,zg,zh,zi,zj,zk,zl,zm,zn,zo,zp,zq,zr,zt,zu,zv,zw,zx,zy,zz,zA,zB,zC,zD,zE,zF,zG,zH,zI,zJ,zK,zL,zM,zN,zO,zP,zQ,zR,zS,zT,zU,zV,zW,zX,zY,zZ,z0,z5,z6,z7,z8,z9,qa,qb,qc,qd,qe,qf,qg,qh,qi,qj,qk,ql,qm,qo,qp,qr,qt,qw,qx,qy,qz,qA,qB,qC,qD,qE,qF,qG,qH,qI,qJ,qK,qL,qM,qN,qO,qP,qQ,qR,qS,qT,qX,qY,qZ,q0,q5,qU,Nat.reduceBEq,qV,qW,if_true,if_false,q6,reduceCtorEq,Nat.reduceEqDiff,ne_eq,q7,q8,decide_true,decide_false,q9,ya]
 have := h _ τ4 (odd_asc (List.getElem_mem hk)) x4
 rw [strL_of] at this
 exact this
theorem s_rrep {F i : Nat} {y : Str} {zs : List Str} {j n : Ex} {loc : Loc} {jv nv : V} {x s : Str} {Q : Option V → Loc → H → Prop} (h1 : ev prog C j loc σ = some (.ok jv, σ)) (h2 : ev prog C n loc σ = some (.ok nv, σ)) (h3 : loc i = some (.str x)) (h4 : replV (.str x) jv nv y zs = some s) : OkS (ex prog C F (.rrep i y zs j n) loc σ) Q = Q (some (.str s)) loc σ := by
 show OkS (match loc i with
  | some (.str x) => onX (ev prog C j loc) loc (fun jv h₁ => if jOK jv zs.length then onX (ev prog C n loc) loc (fun nv h₂ => (replV (.str x) jv nv y zs).map fun s => (.ok (some (.str s)), loc, h₂)) h₁ else none) σ
  | _ => none) Q = _
 rw [h3]
 unfold onX
 dsimp only
 rw [h1]
 dsimp only
 rw [if_pos (replV_j h4), h2]
 dsimp only
 rw [h4]
 rfl
noncomputable def zsL : List (List Nat) := [[32, 48], [32, 32], [32, 45]]
theorem zs_eq : [Str.ofString " 0", Str.ofString "  ", Str.ofString " -"] = zsL.map strL := by kernel_rfl
theorem repl_ok {l : List Nat} (ha : ∀ c ∈ l, c < 128) (hl : l.length ≤ 300) {j n : Nat} (hj : j < 3) (hn : 0 < n) (hn2 : n ≤ 2) : ∃ l', Asc l' ∧ replV (.str (strL l)) (.int (j : Int)) (.int (n : Int)) (strL [32]) (zsL.map strL) = some (strL l') := by
 have hz : ∃ z, zsL[j]? = some z ∧ z ≠ [32] ∧ z.length = 2 ∧ ∀ c ∈ z, c < 128 := by
  have : ∀ j : Fin 3, ∃ z, zsL[j.1]? = some z ∧ z ≠ [32] ∧ z.length = 2 ∧ ∀ c ∈ z, c < 128
   | ⟨0, _⟩ => ⟨[32, 48], rfl, by decide, rfl, by decide⟩
   | ⟨1, _⟩ => ⟨[32, 32], rfl, by decide, rfl, by decide⟩
   | ⟨2, _⟩ => ⟨[32, 45], rfl, by decide, rfl, by decide⟩
  exact this ⟨j, hj⟩
 obtain ⟨z, z1, z2, z3, z4⟩ := hz
 have r1 : ∀ c ∈ replC 32 z n l, c < 128 := fun c hc => (replC_mem hc).elim (z4 c) (ha c)
 have r2 : (replC 32 z n l).length ≤ 304 := by
  have := replC_len (c := 32) (z := z) (n := n) (l := l)
  rw [z3] at this; lia
 refine ⟨replC 32 z n l, ⟨r1, by lia⟩, ?_⟩
 show (idx (j : Int) 3).bind (fun j => ((zsL.map strL)[j]?).bind fun z => if z ≠ strL [32] ∧ 0 < (n : Int) ∧ (n : Int) < 2 ^ 60 ∧ z.cps.toList.length ≤ 10 ∧ l.length ≤ 100000 ∧ okS (strL (replC 32 z.cps.toList ((n : Int)).toNat l)) = true then some (strL (replC 32 z.cps.toList ((n : Int)).toNat l)) else none) = _
 rw [idx_at (Int.natCast_nonneg _) (by lia), Option.bind_some, Int.toNat_natCast, List.getElem?_map, z1, Option.map_some, Option.bind_some, Int.toNat_natCast]
 exact if_pos ⟨fun e => z2 (strL_eq.mp e), by lia, by lia, by show z.length ≤ 10; lia, by lia, okS_of r1 (le_lim (Nat.le_trans r2 (by decide)))⟩
theorem line_ok {l : List Nat} {way : Nat} {c : Int} {Q : V → H → Prop} (ha : ∀ c ∈ l, c < 128) (hl : l.length ≤ 300) (h0 : 0 < l.length) (hw : way < 6) (hnf : 2 ≤ σ.length) (h : ∀ l' τ, Asc l' → Ext σ τ → Q (.str (strL l')) τ) : Ok (run prog 1000 (d + 2) false 202 [.str (strL l), .int (way : Int), .int c]) σ Q := by
 rw [ok_run (fd := f__law_line_by) rfl rfl]
 unfold f__law_line_by
 generalize hlc : ((([197, 160, 94] : List Nat).zip [V.str (strL l), V.int (way : Int), V.int c]).foldl (fun (l : Loc) (p : Nat × V) => l.upd p.1 p.2) (fun _ => none)) = lc
 have e197 : lc 197 = some (.str (strL l)) := by rw [← hlc]; rfl
 have e160 : lc 160 = some (.int (way : Int)) := by rw [← hlc]; rfl
 have e94 : lc 94 = some (.int c) := by rw [← hlc]; rfl
 show OkS (exs prog (run prog 1000 (d + 1)) 1000 f__law_line_by_2 (lc.upd 144 (.str (Str.ofString " !\"#$&'()*+,-./0123456789:;<=>?@ABCDEFGHIJKLMNOPQRSTUVWXYZ[\\]^_`abcdefghijklmnopqrstuvwxyz{|}~"))) σ) (runK Q)
 rw [s_some]
 obtain ⟨k, hk1, hk2⟩ := fmod_nat (a := c) (b := 94) (by decide)
 have hk : k < someL.length := by show k < 94; lia
 obtain ⟨a, ha1, ha2⟩ := fmod_nat (a := Int.fdiv c 94) (b := (l.length : Int)) (by lia)
 obtain ⟨a', ha1', ha2'⟩ := fmod_nat (a := Int.fdiv c 94) (b := (l.length : Int) + 1) (by lia)
 have ig : someL[((k : Int)).toNat]? = some someL[k] := by rw [Int.toNat_natCast, List.getElem?_eq_getElem hk]
 have hs : someL[k] < 128 := of_decide_eq_true (List.all_eq_true.mp some_ok _ (List.getElem_mem hk))
 generalize someL[k] = s at *
 refine oks_step rfl ?_
 simp (disch := decide) only [e94, ok_mod (b := 94) (by decide), hk1, ok_getStr (l := someL) (Int.natCast_nonneg _) ig, zf,zg,zh,zi,zj,zk,zl,zm,zn,zo,zp,zq,zr,zt,zu,zv,zw,zx,zy,zz,zA,zB,zC,zD,zE,zF,zG,zH,zI,zJ,zK,zL,zM,zN,zO,zP,zQ,zR,zS,zT,zU,zV,zW,zX,zY,zZ,z0,z5,z6,z7,z8,z9,qa,qb,qc,qd,qe,qf,qg,qh,qi,qj,qk,ql,qm,qo,qp,qr,qt,qw,qx,qy,qz,qA,qB,qC,qD,qE,qF,qG,qH,qI,qJ,qK,qL,qM,qN,qO,qP,qQ,qR,qS,qT,qX,qY,qZ,q0,q5,qU,Nat.reduceBEq,qV,qW,if_true,if_false,q6,reduceCtorEq,Nat.reduceEqDiff,ne_eq,q7,q8,decide_true,decide_false,q9,ya]
 refine then_step rfl ?_
 have lnz : ((l.length : Nat) : Int) ≠ 0 := by lia
 simp (disch := decide) only [e94, e197, ok_div (b := 94) (by decide) (by decide), ok_lenS, ok_mod lnz, ha1, zf,zg,zh,zi,zj,zk,zl,zm,zn,zo,zp,zq,zr,zt,zu,zv,zw,zx,zy,zz,zA,zB,zC,zD,zE,zF,zG,zH,zI,zJ,zK,zL,zM,zN,zO,zP,zQ,zR,zS,zT,zU,zV,zW,zX,zY,zZ,z0,z5,z6,z7,z8,z9,qa,qb,qc,qd,qe,qf,qg,qh,qi,qj,qk,ql,qm,qo,qp,qr,qt,qw,qx,qy,qz,qA,qB,qC,qD,qE,qF,qG,qH,qI,qJ,qK,qL,qM,qN,qO,qP,qQ,qR,qS,qT,qX,qY,qZ,q0,q5,qU,Nat.reduceBEq,qV,qW,if_true,if_false,q6,reduceCtorEq,Nat.reduceEqDiff,ne_eq,q7,q8,decide_true,decide_false,q9,ya]
 generalize hl2 : Loc.upd (Loc.upd (Loc.upd lc 144 (.str (strL someL))) 195 (.str (strL [s]))) 167 (.int (a : Int)) = l2
 have f197 : l2 197 = some (.str (strL l)) := by rw [← hl2]; exact e197
 have f160 : l2 160 = some (.int (way : Int)) := by rw [← hl2]; exact e160
 have f94 : l2 94 = some (.int c) := by rw [← hl2]; exact e94
 have f195 : l2 195 = some (.str (strL [s])) := by rw [← hl2]; rfl
 have f167 : l2 167 = some (.int (a : Int)) := by rw [← hl2]; rfl
 clear hl2 hlc e197 e160 e94
 have asc2 : ∀ {x y : List Nat}, (∀ c ∈ x, c < 128) → (∀ c ∈ y, c < 128) → ∀ c ∈ x ++ y, c < 128 := fun hx hy c hc => (List.mem_append.mp hc).elim (hx c) (hy c)
 have asc1 : ∀ c ∈ [s], c < 128 := fun c hc => by rw [List.mem_singleton.mp hc]; exact hs
 have ascC : ∀ {p q : Nat}, ∀ c ∈ cut l p q, c < 128 := fun c hc => ha c (cut_mem hc)
 have lenC : ∀ {p q : Nat}, (cut l p q).length ≤ 300 := fun {p q} => Nat.le_trans cut_len hl
 have e1 : (a : Int) + 1 = ((a + 1 : Nat) : Int) := rfl
 match way, hw, f160 with
 | 0, _, f160 =>
  refine then_step rfl ?_
  simp (disch := decide) only [f160, ok_eqI, Int.natCast_zero, ok_truthb, zf,zg,zh,zi,zj,zk,zl,zm,zn,zo,zp,zq,zr,zt,zu,zv,zw,zx,zy,zz,zA,zB,zC,zD,zE,zF,zG,zH,zI,zJ,zK,zL,zM,zN,zO,zP,zQ,zR,zS,zT,zU,zV,zW,zX,zY,zZ,z0,z5,z6,z7,z8,z9,qa,qb,qc,qd,qe,qf,qg,qh,qi,qj,qk,ql,qm,qo,qp,qr,qt,qw,qx,qy,qz,qA,qB,qC,qD,qE,qF,qG,qH,qI,qJ,qK,qL,qM,qN,qO,qP,qQ,qR,qS,qT,qX,qY,qZ,q0,q5,qU,Nat.reduceBEq,qV,qW,if_true,if_false,q6,reduceCtorEq,Nat.reduceEqDiff,ne_eq,q7,q8,decide_true,decide_false,q9,ya]
  refine oks_step rfl ?_
  simp (disch := decide) only [f94, zf,zg,zh,zi,zj,zk,zl,zm,zn,zo,zp,zq,zr,zt,zu,zv,zw,zx,zy,zz,zA,zB,zC,zD,zE,zF,zG,zH,zI,zJ,zK,zL,zM,zN,zO,zP,zQ,zR,zS,zT,zU,zV,zW,zX,zY,zZ,z0,z5,z6,z7,z8,z9,qa,qb,qc,qd,qe,qf,qg,qh,qi,qj,qk,ql,qm,qo,qp,qr,qt,qw,qx,qy,qz,qA,qB,qC,qD,qE,qF,qG,qH,qI,qJ,qK,qL,qM,qN,qO,qP,qQ,qR,qS,qT,qX,qY,qZ,q0,q5,qU,Nat.reduceBEq,qV,qW,if_true,if_false,q6,reduceCtorEq,Nat.reduceEqDiff,ne_eq,q7,q8,decide_true,decide_false,q9,ya]
  refine odd_ok hnf fun l' τ hA x => ?_
  simp (disch := decide) only [zd, zf,zg,zh,zi,zj,zk,zl,zm,zn,zo,zp,zq,zr,zt,zu,zv,zw,zx,zy,zz,zA,zB,zC,zD,zE,zF,zG,zH,zI,zJ,zK,zL,zM,zN,zO,zP,zQ,zR,zS,zT,zU,zV,zW,zX,zY,zZ,z0,z5,z6,z7,z8,z9,qa,qb,qc,qd,qe,qf,qg,qh,qi,qj,qk,ql,qm,qo,qp,qr,qt,qw,qx,qy,qz,qA,qB,qC,qD,qE,qF,qG,qH,qI,qJ,qK,qL,qM,qN,qO,qP,qQ,qR,qS,qT,qX,qY,qZ,q0,q5,qU,Nat.reduceBEq,qV,qW,if_true,if_false,q6,reduceCtorEq,Nat.reduceEqDiff,ne_eq,q7,q8,decide_true,decide_false,q9,ya]
  exact h l' τ hA x
 | 1, _, f160 =>
  have n1 : ((1 : Nat) : Int) = 1 := rfl
  refine then_step rfl ?_
  simp (disch := decide) only [f160, ok_eqI, n1, Int.reduceEq, ok_truthb, zb, zf,zg,zh,zi,zj,zk,zl,zm,zn,zo,zp,zq,zr,zt,zu,zv,zw,zx,zy,zz,zA,zB,zC,zD,zE,zF,zG,zH,zI,zJ,zK,zL,zM,zN,zO,zP,zQ,zR,zS,zT,zU,zV,zW,zX,zY,zZ,z0,z5,z6,z7,z8,z9,qa,qb,qc,qd,qe,qf,qg,qh,qi,qj,qk,ql,qm,qo,qp,qr,qt,qw,qx,qy,qz,qA,qB,qC,qD,qE,qF,qG,qH,qI,qJ,qK,qL,qM,qN,qO,qP,qQ,qR,qS,qT,qX,qY,qZ,q0,q5,qU,Nat.reduceBEq,qV,qW,if_true,if_false,q6,reduceCtorEq,Nat.reduceEqDiff,ne_eq,q7,q8,decide_true,decide_false,q9,ya]
  refine then_step rfl ?_
  simp (disch := decide) only [f160, ok_eqI, n1, ok_truthb, zf,zg,zh,zi,zj,zk,zl,zm,zn,zo,zp,zq,zr,zt,zu,zv,zw,zx,zy,zz,zA,zB,zC,zD,zE,zF,zG,zH,zI,zJ,zK,zL,zM,zN,zO,zP,zQ,zR,zS,zT,zU,zV,zW,zX,zY,zZ,z0,z5,z6,z7,z8,z9,qa,qb,qc,qd,qe,qf,qg,qh,qi,qj,qk,ql,qm,qo,qp,qr,qt,qw,qx,qy,qz,qA,qB,qC,qD,qE,qF,qG,qH,qI,qJ,qK,qL,qM,qN,qO,qP,qQ,qR,qS,qT,qX,qY,qZ,q0,q5,qU,Nat.reduceBEq,qV,qW,if_true,if_false,q6,reduceCtorEq,Nat.reduceEqDiff,ne_eq,q7,q8,decide_true,decide_false,q9,ya]
  refine oks_step rfl ?_
  have lnz' : ((l.length : Nat) : Int) + 1 ≠ 0 := by lia
  simp (disch := decide) only [f94, f197, ok_div (b := 94) (by decide) (by decide), ok_lenS, ok_add, ok_mod lnz', ha1', zf,zg,zh,zi,zj,zk,zl,zm,zn,zo,zp,zq,zr,zt,zu,zv,zw,zx,zy,zz,zA,zB,zC,zD,zE,zF,zG,zH,zI,zJ,zK,zL,zM,zN,zO,zP,zQ,zR,zS,zT,zU,zV,zW,zX,zY,zZ,z0,z5,z6,z7,z8,z9,qa,qb,qc,qd,qe,qf,qg,qh,qi,qj,qk,ql,qm,qo,qp,qr,qt,qw,qx,qy,qz,qA,qB,qC,qD,qE,qF,qG,qH,qI,qJ,qK,qL,qM,qN,qO,qP,qQ,qR,qS,qT,qX,qY,qZ,q0,q5,qU,Nat.reduceBEq,qV,qW,if_true,if_false,q6,reduceCtorEq,Nat.reduceEqDiff,ne_eq,q7,q8,decide_true,decide_false,q9,ya]
  refine then_step rfl ?_
  have k1 : okS (strL (cut l 0 (min a' l.length) ++ [s])) = true := okS_of (asc2 ascC asc1) (le_lim (by have := lenC (p := 0) (q := min a' l.length); rw [List.length_append]; simp; lia))
  have k2 : okS (strL (cut l 0 (min a' l.length) ++ [s] ++ cut l (min a' l.length) l.length)) = true := okS_of (asc2 (asc2 ascC asc1) ascC) (le_lim (by have := lenC (p := 0) (q := min a' l.length); have := lenC (p := min a' l.length) (q := l.length); rw [List.length_append, List.length_append]; simp; lia))
  have g197 : (l2.upd 167 (.int (a' : Int))) 197 = some (.str (strL l)) := f197
  have g195 : (l2.upd 167 (.int (a' : Int))) 195 = some (.str (strL [s])) := f195
  simp (disch := decide) only [f197, f195, qB, slF_at, slF2_at, ok_sliceS (l := l) clip_none clip_at, ok_cat k1, ok_sliceS (l := l) clip_at clip_none, ok_cat k2, zd, zf,zg,zh,zi,zj,zk,zl,zm,zn,zo,zp,zq,zr,zt,zu,zv,zw,zx,zy,zz,zA,zB,zC,zD,zE,zF,zG,zH,zI,zJ,zK,zL,zM,zN,zO,zP,zQ,zR,zS,zT,zU,zV,zW,zX,zY,zZ,z0,z5,z6,z7,z8,z9,qa,qb,qc,qd,qe,qf,qg,qh,qi,qj,qk,ql,qm,qo,qp,qr,qt,qw,qx,qy,qz,qA,qB,qC,qD,qE,qF,qG,qH,qI,qJ,qK,qL,qM,qN,qO,qP,qQ,qR,qS,qT,qX,qY,qZ,q0,q5,qU,Nat.reduceBEq,qV,qW,if_true,if_false,q6,reduceCtorEq,Nat.reduceEqDiff,ne_eq,q7,q8,decide_true,decide_false,q9,ya]
  refine h _ σ ⟨asc2 (asc2 ascC asc1) ascC, ?_⟩ (Ext.refl _)
  have el : cut l 0 (min a' l.length) ++ cut l (min a' l.length) l.length = l := by unfold cut; rw [List.drop_zero, List.take_length, List.take_append_drop]
  have := congrArg List.length el
  rw [List.length_append] at this
  rw [List.length_append, List.length_append]
  simp
  lia
 | 2, _, f160 =>
  have n2 : ((2 : Nat) : Int) = 2 := rfl
  refine then_step rfl ?_
  simp (disch := decide) only [f160, ok_eqI, n2, Int.reduceEq, ok_truthb, zb, zf,zg,zh,zi,zj,zk,zl,zm,zn,zo,zp,zq,zr,zt,zu,zv,zw,zx,zy,zz,zA,zB,zC,zD,zE,zF,zG,zH,zI,zJ,zK,zL,zM,zN,zO,zP,zQ,zR,zS,zT,zU,zV,zW,zX,zY,zZ,z0,z5,z6,z7,z8,z9,qa,qb,qc,qd,qe,qf,qg,qh,qi,qj,qk,ql,qm,qo,qp,qr,qt,qw,qx,qy,qz,qA,qB,qC,qD,qE,qF,qG,qH,qI,qJ,qK,qL,qM,qN,qO,qP,qQ,qR,qS,qT,qX,qY,qZ,q0,q5,qU,Nat.reduceBEq,qV,qW,if_true,if_false,q6,reduceCtorEq,Nat.reduceEqDiff,ne_eq,q7,q8,decide_true,decide_false,q9,ya]
  refine then_step rfl ?_
  simp (disch := decide) only [f160, ok_eqI, n2, Int.reduceEq, ok_truthb, zb, zf,zg,zh,zi,zj,zk,zl,zm,zn,zo,zp,zq,zr,zt,zu,zv,zw,zx,zy,zz,zA,zB,zC,zD,zE,zF,zG,zH,zI,zJ,zK,zL,zM,zN,zO,zP,zQ,zR,zS,zT,zU,zV,zW,zX,zY,zZ,z0,z5,z6,z7,z8,z9,qa,qb,qc,qd,qe,qf,qg,qh,qi,qj,qk,ql,qm,qo,qp,qr,qt,qw,qx,qy,qz,qA,qB,qC,qD,qE,qF,qG,qH,qI,qJ,qK,qL,qM,qN,qO,qP,qQ,qR,qS,qT,qX,qY,qZ,q0,q5,qU,Nat.reduceBEq,qV,qW,if_true,if_false,q6,reduceCtorEq,Nat.reduceEqDiff,ne_eq,q7,q8,decide_true,decide_false,q9,ya]
  refine then_step rfl ?_
  simp (disch := decide) only [f160, ok_eqI, n2, ok_truthb, zf,zg,zh,zi,zj,zk,zl,zm,zn,zo,zp,zq,zr,zt,zu,zv,zw,zx,zy,zz,zA,zB,zC,zD,zE,zF,zG,zH,zI,zJ,zK,zL,zM,zN,zO,zP,zQ,zR,zS,zT,zU,zV,zW,zX,zY,zZ,z0,z5,z6,z7,z8,z9,qa,qb,qc,qd,qe,qf,qg,qh,qi,qj,qk,ql,qm,qo,qp,qr,qt,qw,qx,qy,qz,qA,qB,qC,qD,qE,qF,qG,qH,qI,qJ,qK,qL,qM,qN,qO,qP,qQ,qR,qS,qT,qX,qY,qZ,q0,q5,qU,Nat.reduceBEq,qV,qW,if_true,if_false,q6,reduceCtorEq,Nat.reduceEqDiff,ne_eq,q7,q8,decide_true,decide_false,q9,ya]
  refine oks_step rfl ?_
  have k2 : okS (strL (cut l 0 (min a l.length) ++ cut l (min (a + 1) l.length) l.length)) = true := okS_of (asc2 ascC ascC) (le_lim (by have := lenC (p := 0) (q := min a l.length); have := lenC (p := min (a + 1) l.length) (q := l.length); rw [List.length_append]; lia))
  simp (disch := decide) only [f197, f195, f167, ok_add, e1, qB, slF_at, slF2_at, ok_sliceS (l := l) clip_none clip_at, ok_sliceS (l := l) clip_at clip_none, ok_cat k2, zd, zf,zg,zh,zi,zj,zk,zl,zm,zn,zo,zp,zq,zr,zt,zu,zv,zw,zx,zy,zz,zA,zB,zC,zD,zE,zF,zG,zH,zI,zJ,zK,zL,zM,zN,zO,zP,zQ,zR,zS,zT,zU,zV,zW,zX,zY,zZ,z0,z5,z6,z7,z8,z9,qa,qb,qc,qd,qe,qf,qg,qh,qi,qj,qk,ql,qm,qo,qp,qr,qt,qw,qx,qy,qz,qA,qB,qC,qD,qE,qF,qG,qH,qI,qJ,qK,qL,qM,qN,qO,qP,qQ,qR,qS,qT,qX,qY,qZ,q0,q5,qU,Nat.reduceBEq,qV,qW,if_true,if_false,q6,reduceCtorEq,Nat.reduceEqDiff,ne_eq,q7,q8,decide_true,decide_false,q9,ya]
  refine h _ σ ⟨asc2 ascC ascC, ?_⟩ (Ext.refl _)
  have : (cut l 0 (min a l.length)).length ≤ min a l.length := by unfold cut; rw [List.drop_zero, List.length_take]; exact Nat.min_le_left _ _
  have : (cut l (min (a + 1) l.length) l.length).length = l.length - min (a + 1) l.length := by unfold cut; rw [List.take_length, List.length_drop]
  rw [List.length_append]
  lia
 | 3, _, f160 =>
  have n3 : ((3 : Nat) : Int) = 3 := rfl
  refine then_step rfl ?_
  simp (disch := decide) only [f160, ok_eqI, n3, Int.reduceEq, ok_truthb, zb, zf,zg,zh,zi,zj,zk,zl,zm,zn,zo,zp,zq,zr,zt,zu,zv,zw,zx,zy,zz,zA,zB,zC,zD,zE,zF,zG,zH,zI,zJ,zK,zL,zM,zN,zO,zP,zQ,zR,zS,zT,zU,zV,zW,zX,zY,zZ,z0,z5,z6,z7,z8,z9,qa,qb,qc,qd,qe,qf,qg,qh,qi,qj,qk,ql,qm,qo,qp,qr,qt,qw,qx,qy,qz,qA,qB,qC,qD,qE,qF,qG,qH,qI,qJ,qK,qL,qM,qN,qO,qP,qQ,qR,qS,qT,qX,qY,qZ,q0,q5,qU,Nat.reduceBEq,qV,qW,if_true,if_false,q6,reduceCtorEq,Nat.reduceEqDiff,ne_eq,q7,q8,decide_true,decide_false,q9,ya]
  refine then_step rfl ?_
  simp (disch := decide) only [f160, ok_eqI, n3, Int.reduceEq, ok_truthb, zb, zf,zg,zh,zi,zj,zk,zl,zm,zn,zo,zp,zq,zr,zt,zu,zv,zw,zx,zy,zz,zA,zB,zC,zD,zE,zF,zG,zH,zI,zJ,zK,zL,zM,zN,zO,zP,zQ,zR,zS,zT,zU,zV,zW,zX,zY,zZ,z0,z5,z6,z7,z8,z9,qa,qb,qc,qd,qe,qf,qg,qh,qi,qj,qk,ql,qm,qo,qp,qr,qt,qw,qx,qy,qz,qA,qB,qC,qD,qE,qF,qG,qH,qI,qJ,qK,qL,qM,qN,qO,qP,qQ,qR,qS,qT,qX,qY,qZ,q0,q5,qU,Nat.reduceBEq,qV,qW,if_true,if_false,q6,reduceCtorEq,Nat.reduceEqDiff,ne_eq,q7,q8,decide_true,decide_false,q9,ya]
  refine then_step rfl ?_
  simp (disch := decide) only [f160, ok_eqI, n3, Int.reduceEq, ok_truthb, zb, zf,zg,zh,zi,zj,zk,zl,zm,zn,zo,zp,zq,zr,zt,zu,zv,zw,zx,zy,zz,zA,zB,zC,zD,zE,zF,zG,zH,zI,zJ,zK,zL,zM,zN,zO,zP,zQ,zR,zS,zT,zU,zV,zW,zX,zY,zZ,z0,z5,z6,z7,z8,z9,qa,qb,qc,qd,qe,qf,qg,qh,qi,qj,qk,ql,qm,qo,qp,qr,qt,qw,qx,qy,qz,qA,qB,qC,qD,qE,qF,qG,qH,qI,qJ,qK,qL,qM,qN,qO,qP,qQ,qR,qS,qT,qX,qY,qZ,q0,q5,qU,Nat.reduceBEq,qV,qW,if_true,if_false,q6,reduceCtorEq,Nat.reduceEqDiff,ne_eq,q7,q8,decide_true,decide_false,q9,ya]
  refine then_step rfl ?_
  simp (disch := decide) only [f160, ok_eqI, n3, ok_truthb, zf,zg,zh,zi,zj,zk,zl,zm,zn,zo,zp,zq,zr,zt,zu,zv,zw,zx,zy,zz,zA,zB,zC,zD,zE,zF,zG,zH,zI,zJ,zK,zL,zM,zN,zO,zP,zQ,zR,zS,zT,zU,zV,zW,zX,zY,zZ,z0,z5,z6,z7,z8,z9,qa,qb,qc,qd,qe,qf,qg,qh,qi,qj,qk,ql,qm,qo,qp,qr,qt,qw,qx,qy,qz,qA,qB,qC,qD,qE,qF,qG,qH,qI,qJ,qK,qL,qM,qN,qO,qP,qQ,qR,qS,qT,qX,qY,qZ,q0,q5,qU,Nat.reduceBEq,qV,qW,if_true,if_false,q6,reduceCtorEq,Nat.reduceEqDiff,ne_eq,q7,q8,decide_true,decide_false,q9,ya]
  refine oks_step rfl ?_
  have k1 : okS (strL (cut l 0 (min a l.length) ++ [s])) = true := okS_of (asc2 ascC asc1) (le_lim (by have := lenC (p := 0) (q := min a l.length); rw [List.length_append]; simp; lia))
  have k2 : okS (strL (cut l 0 (min a l.length) ++ [s] ++ cut l (min (a + 1) l.length) l.length)) = true := okS_of (asc2 (asc2 ascC asc1) ascC) (le_lim (by have := lenC (p := 0) (q := min a l.length); have := lenC (p := min (a + 1) l.length) (q := l.length); rw [List.length_append, List.length_append]; simp; lia))
  simp (disch := decide) only [f197, f195, f167, ok_add, e1, qB, slF_at, slF2_at, ok_sliceS (l := l) clip_none clip_at, ok_cat k1, ok_sliceS (l := l) clip_at clip_none, ok_cat k2, zd, zf,zg,zh,zi,zj,zk,zl,zm,zn,zo,zp,zq,zr,zt,zu,zv,zw,zx,zy,zz,zA,zB,zC,zD,zE,zF,zG,zH,zI,zJ,zK,zL,zM,zN,zO,zP,zQ,zR,zS,zT,zU,zV,zW,zX,zY,zZ,z0,z5,z6,z7,z8,z9,qa,qb,qc,qd,qe,qf,qg,qh,qi,qj,qk,ql,qm,qo,qp,qr,qt,qw,qx,qy,qz,qA,qB,qC,qD,qE,qF,qG,qH,qI,qJ,qK,qL,qM,qN,qO,qP,qQ,qR,qS,qT,qX,qY,qZ,q0,q5,qU,Nat.reduceBEq,qV,qW,if_true,if_false,q6,reduceCtorEq,Nat.reduceEqDiff,ne_eq,q7,q8,decide_true,decide_false,q9,ya]
  refine h _ σ ⟨asc2 (asc2 ascC asc1) ascC, ?_⟩ (Ext.refl _)
  have : (cut l 0 (min a l.length)).length ≤ min a l.length := by unfold cut; rw [List.drop_zero, List.length_take]; exact Nat.min_le_left _ _
  have : (cut l (min (a + 1) l.length) l.length).length = l.length - min (a + 1) l.length := by unfold cut; rw [List.take_length, List.length_drop]
  rw [List.length_append, List.length_append]
  simp
  lia
 | 4, _, f160 =>
  have n4 : ((4 : Nat) : Int) = 4 := rfl
  refine then_step rfl ?_
  simp (disch := decide) only [f160, ok_eqI, n4, Int.reduceEq, ok_truthb, zb, zf,zg,zh,zi,zj,zk,zl,zm,zn,zo,zp,zq,zr,zt,zu,zv,zw,zx,zy,zz,zA,zB,zC,zD,zE,zF,zG,zH,zI,zJ,zK,zL,zM,zN,zO,zP,zQ,zR,zS,zT,zU,zV,zW,zX,zY,zZ,z0,z5,z6,z7,z8,z9,qa,qb,qc,qd,qe,qf,qg,qh,qi,qj,qk,ql,qm,qo,qp,qr,qt,qw,qx,qy,qz,qA,qB,qC,qD,qE,qF,qG,qH,qI,qJ,qK,qL,qM,qN,qO,qP,qQ,qR,qS,qT,qX,qY,qZ,q0,q5,qU,Nat.reduceBEq,qV,qW,if_true,if_false,q6,reduceCtorEq,Nat.reduceEqDiff,ne_eq,q7,q8,decide_true,decide_false,q9,ya]
  refine then_step rfl ?_
  simp (disch := decide) only [f160, ok_eqI, n4, Int.reduceEq, ok_truthb, zb, zf,zg,zh,zi,zj,zk,zl,zm,zn,zo,zp,zq,zr,zt,zu,zv,zw,zx,zy,zz,zA,zB,zC,zD,zE,zF,zG,zH,zI,zJ,zK,zL,zM,zN,zO,zP,zQ,zR,zS,zT,zU,zV,zW,zX,zY,zZ,z0,z5,z6,z7,z8,z9,qa,qb,qc,qd,qe,qf,qg,qh,qi,qj,qk,ql,qm,qo,qp,qr,qt,qw,qx,qy,qz,qA,qB,qC,qD,qE,qF,qG,qH,qI,qJ,qK,qL,qM,qN,qO,qP,qQ,qR,qS,qT,qX,qY,qZ,q0,q5,qU,Nat.reduceBEq,qV,qW,if_true,if_false,q6,reduceCtorEq,Nat.reduceEqDiff,ne_eq,q7,q8,decide_true,decide_false,q9,ya]
  refine then_step rfl ?_
  simp (disch := decide) only [f160, ok_eqI, n4, Int.reduceEq, ok_truthb, zb, zf,zg,zh,zi,zj,zk,zl,zm,zn,zo,zp,zq,zr,zt,zu,zv,zw,zx,zy,zz,zA,zB,zC,zD,zE,zF,zG,zH,zI,zJ,zK,zL,zM,zN,zO,zP,zQ,zR,zS,zT,zU,zV,zW,zX,zY,zZ,z0,z5,z6,z7,z8,z9,qa,qb,qc,qd,qe,qf,qg,qh,qi,qj,qk,ql,qm,qo,qp,qr,qt,qw,qx,qy,qz,qA,qB,qC,qD,qE,qF,qG,qH,qI,qJ,qK,qL,qM,qN,qO,qP,qQ,qR,qS,qT,qX,qY,qZ,q0,q5,qU,Nat.reduceBEq,qV,qW,if_true,if_false,q6,reduceCtorEq,Nat.reduceEqDiff,ne_eq,q7,q8,decide_true,decide_false,q9,ya]
  refine then_step rfl ?_
  simp (disch := decide) only [f160, ok_eqI, n4, Int.reduceEq, ok_truthb, zb, zf,zg,zh,zi,zj,zk,zl,zm,zn,zo,zp,zq,zr,zt,zu,zv,zw,zx,zy,zz,zA,zB,zC,zD,zE,zF,zG,zH,zI,zJ,zK,zL,zM,zN,zO,zP,zQ,zR,zS,zT,zU,zV,zW,zX,zY,zZ,z0,z5,z6,z7,z8,z9,qa,qb,qc,qd,qe,qf,qg,qh,qi,qj,qk,ql,qm,qo,qp,qr,qt,qw,qx,qy,qz,qA,qB,qC,qD,qE,qF,qG,qH,qI,qJ,qK,qL,qM,qN,qO,qP,qQ,qR,qS,qT,qX,qY,qZ,q0,q5,qU,Nat.reduceBEq,qV,qW,if_true,if_false,q6,reduceCtorEq,Nat.reduceEqDiff,ne_eq,q7,q8,decide_true,decide_false,q9,ya]
  refine then_step rfl ?_
  simp (disch := decide) only [f160, ok_eqI, n4, ok_truthb, zf,zg,zh,zi,zj,zk,zl,zm,zn,zo,zp,zq,zr,zt,zu,zv,zw,zx,zy,zz,zA,zB,zC,zD,zE,zF,zG,zH,zI,zJ,zK,zL,zM,zN,zO,zP,zQ,zR,zS,zT,zU,zV,zW,zX,zY,zZ,z0,z5,z6,z7,z8,z9,qa,qb,qc,qd,qe,qf,qg,qh,qi,qj,qk,ql,qm,qo,qp,qr,qt,qw,qx,qy,qz,qA,qB,qC,qD,qE,qF,qG,qH,qI,qJ,qK,qL,qM,qN,qO,qP,qQ,qR,qS,qT,qX,qY,qZ,q0,q5,qU,Nat.reduceBEq,qV,qW,if_true,if_false,q6,reduceCtorEq,Nat.reduceEqDiff,ne_eq,q7,q8,decide_true,decide_false,q9,ya]
  obtain ⟨j, hj1, hj2⟩ := fmod_nat (a := c) (b := 3) (by decide)
  obtain ⟨m, hm1, hm2⟩ := fmod_nat (a := Int.fdiv c 3) (b := 2) (by decide)
  have em : (1 : Int) + (m : Int) = ((m + 1 : Nat) : Int) := by lia
  obtain ⟨l', hA, hr⟩ := repl_ok ha hl (j := j) (n := m + 1) (by lia) (by lia) (by lia)
  refine oks_step rfl ?_
  rw [← zs_eq, ← s_blank] at hr
  rw [s_rrep (jv := .int (j : Int)) (nv := .int ((m + 1 : Nat) : Int)) (x := strL l) (s := strL l') (ok_eq ?_) (ok_eq ?_) f197 hr]
  ·exact h l' σ hA (Ext.refl _)
  ·simp (disch := decide) only [f94, ok_mod (b := 3) (by decide), hj1, za,zb,zc,zd,zf,zg,zh,zi,zj,zk,zl,zm,zn,zo,zp,zq,zr,zt,zu,zv,zw,zx,zy,zz,zA,zB,zC,zD,zE,zF,zG,zH,zI,zJ,zK,zL,zM,zN,zO,zP,zQ,zR,zS,zT,zU,zV,zW,zX,zY,zZ,z0,z5,z6,z7,z8,z9,qa,qb,qc,qd,qe,qf,qg,qh,qi,qj,qk,ql,qm,qo,qp,qr,qt,qw,qx,qy,qz,qA,qB,qC,qD,qE,qF,qG,qH,qI,qJ,qK,qL,qM,qN,qO,qP,qQ,qR,qS,qT,qX,qY,qZ,q0,q5,qU,Nat.reduceBEq,qV,qW,if_true,if_false,q6,reduceCtorEq,Nat.reduceEqDiff,ne_eq,q7,q8,decide_true,decide_false,q9,ya]
   exact ⟨trivial, trivial⟩
  ·simp (disch := decide) only [f94, ok_div (b := 3) (by decide) (by decide), ok_mod (b := 2) (by decide), hm1, ok_add, em, za,zb,zc,zd,zf,zg,zh,zi,zj,zk,zl,zm,zn,zo,zp,zq,zr,zt,zu,zv,zw,zx,zy,zz,zA,zB,zC,zD,zE,zF,zG,zH,zI,zJ,zK,zL,zM,zN,zO,zP,zQ,zR,zS,zT,zU,zV,zW,zX,zY,zZ,z0,z5,z6,z7,z8,z9,qa,qb,qc,qd,qe,qf,qg,qh,qi,qj,qk,ql,qm,qo,qp,qr,qt,qw,qx,qy,qz,qA,qB,qC,qD,qE,qF,qG,qH,qI,qJ,qK,qL,qM,qN,qO,qP,qQ,qR,qS,qT,qX,qY,qZ,q0,q5,qU,Nat.reduceBEq,qV,qW,if_true,if_false,q6,reduceCtorEq,Nat.reduceEqDiff,ne_eq,q7,q8,decide_true,decide_false,q9,ya]
   exact ⟨trivial, trivial⟩
 | 5, _, f160 =>
  have n5 : ((5 : Nat) : Int) = 5 := rfl
  refine then_step rfl ?_
  simp (disch := decide) only [f160, ok_eqI, n5, Int.reduceEq, ok_truthb, zb, zf,zg,zh,zi,zj,zk,zl,zm,zn,zo,zp,zq,zr,zt,zu,zv,zw,zx,zy,zz,zA,zB,zC,zD,zE,zF,zG,zH,zI,zJ,zK,zL,zM,zN,zO,zP,zQ,zR,zS,zT,zU,zV,zW,zX,zY,zZ,z0,z5,z6,z7,z8,z9,qa,qb,qc,qd,qe,qf,qg,qh,qi,qj,qk,ql,qm,qo,qp,qr,qt,qw,qx,qy,qz,qA,qB,qC,qD,qE,qF,qG,qH,qI,qJ,qK,qL,qM,qN,qO,qP,qQ,qR,qS,qT,qX,qY,qZ,q0,q5,qU,Nat.reduceBEq,qV,qW,if_true,if_false,q6,reduceCtorEq,Nat.reduceEqDiff,ne_eq,q7,q8,decide_true,decide_false,q9,ya]
  refine then_step rfl ?_
  simp (disch := decide) only [f160, ok_eqI, n5, Int.reduceEq, ok_truthb, zb, zf,zg,zh,zi,zj,zk,zl,zm,zn,zo,zp,zq,zr,zt,zu,zv,zw,zx,zy,zz,zA,zB,zC,zD,zE,zF,zG,zH,zI,zJ,zK,zL,zM,zN,zO,zP,zQ,zR,zS,zT,zU,zV,zW,zX,zY,zZ,z0,z5,z6,z7,z8,z9,qa,qb,qc,qd,qe,qf,qg,qh,qi,qj,qk,ql,qm,qo,qp,qr,qt,qw,qx,qy,qz,qA,qB,qC,qD,qE,qF,qG,qH,qI,qJ,qK,qL,qM,qN,qO,qP,qQ,qR,qS,qT,qX,qY,qZ,q0,q5,qU,Nat.reduceBEq,qV,qW,if_true,if_false,q6,reduceCtorEq,Nat.reduceEqDiff,ne_eq,q7,q8,decide_true,decide_false,q9,ya]
  refine then_step rfl ?_
  simp (disch := decide) only [f160, ok_eqI, n5, Int.reduceEq, ok_truthb, zb, zf,zg,zh,zi,zj,zk,zl,zm,zn,zo,zp,zq,zr,zt,zu,zv,zw,zx,zy,zz,zA,zB,zC,zD,zE,zF,zG,zH,zI,zJ,zK,zL,zM,zN,zO,zP,zQ,zR,zS,zT,zU,zV,zW,zX,zY,zZ,z0,z5,z6,z7,z8,z9,qa,qb,qc,qd,qe,qf,qg,qh,qi,qj,qk,ql,qm,qo,qp,qr,qt,qw,qx,qy,qz,qA,qB,qC,qD,qE,qF,qG,qH,qI,qJ,qK,qL,qM,qN,qO,qP,qQ,qR,qS,qT,qX,qY,qZ,q0,q5,qU,Nat.reduceBEq,qV,qW,if_true,if_false,q6,reduceCtorEq,Nat.reduceEqDiff,ne_eq,q7,q8,decide_true,decide_false,q9,ya]
  refine then_step rfl ?_
  simp (disch := decide) only [f160, ok_eqI, n5, Int.reduceEq, ok_truthb, zb, zf,zg,zh,zi,zj,zk,zl,zm,zn,zo,zp,zq,zr,zt,zu,zv,zw,zx,zy,zz,zA,zB,zC,zD,zE,zF,zG,zH,zI,zJ,zK,zL,zM,zN,zO,zP,zQ,zR,zS,zT,zU,zV,zW,zX,zY,zZ,z0,z5,z6,z7,z8,z9,qa,qb,qc,qd,qe,qf,qg,qh,qi,qj,qk,ql,qm,qo,qp,qr,qt,qw,qx,qy,qz,qA,qB,qC,qD,qE,qF,qG,qH,qI,qJ,qK,qL,qM,qN,qO,qP,qQ,qR,qS,qT,qX,qY,qZ,q0,q5,qU,Nat.reduceBEq,qV,qW,if_true,if_false,q6,reduceCtorEq,Nat.reduceEqDiff,ne_eq,q7,q8,decide_true,decide_false,q9,ya]
  refine then_step rfl ?_
  simp (disch := decide) only [f160, ok_eqI, n5, Int.reduceEq, ok_truthb, zb, zf,zg,zh,zi,zj,zk,zl,zm,zn,zo,zp,zq,zr,zt,zu,zv,zw,zx,zy,zz,zA,zB,zC,zD,zE,zF,zG,zH,zI,zJ,zK,zL,zM,zN,zO,zP,zQ,zR,zS,zT,zU,zV,zW,zX,zY,zZ,z0,z5,z6,z7,z8,z9,qa,qb,qc,qd,qe,qf,qg,qh,qi,qj,qk,ql,qm,qo,qp,qr,qt,qw,qx,qy,qz,qA,qB,qC,qD,qE,qF,qG,qH,qI,qJ,qK,qL,qM,qN,qO,qP,qQ,qR,qS,qT,qX,qY,qZ,q0,q5,qU,Nat.reduceBEq,qV,qW,if_true,if_false,q6,reduceCtorEq,Nat.reduceEqDiff,ne_eq,q7,q8,decide_true,decide_false,q9,ya]
  refine then_step rfl ?_
  simp (disch := decide) only [f197, zd, zf,zg,zh,zi,zj,zk,zl,zm,zn,zo,zp,zq,zr,zt,zu,zv,zw,zx,zy,zz,zA,zB,zC,zD,zE,zF,zG,zH,zI,zJ,zK,zL,zM,zN,zO,zP,zQ,zR,zS,zT,zU,zV,zW,zX,zY,zZ,z0,z5,z6,z7,z8,z9,qa,qb,qc,qd,qe,qf,qg,qh,qi,qj,qk,ql,qm,qo,qp,qr,qt,qw,qx,qy,qz,qA,qB,qC,qD,qE,qF,qG,qH,qI,qJ,qK,qL,qM,qN,qO,qP,qQ,qR,qS,qT,qX,qY,qZ,q0,q5,qU,Nat.reduceBEq,qV,qW,if_true,if_false,q6,reduceCtorEq,Nat.reduceEqDiff,ne_eq,q7,q8,decide_true,decide_false,q9,ya]
  exact h l σ ⟨ha, by lia⟩ (Ext.refl _)
 | n + 6, hw, _ => exact absurd hw (by lia)
end
end Mine.Internal.L05
set_option autoImplicit false
set_option linter.unusedSimpArgs false
set_option linter.unusedVariables false
namespace Mine.Internal.L05
open Mine.Internal
open PySem (Str PyData)
theorem it_tup {σ : H} {a : Nat} {xs : List V} (h : σ.get a = some (.tup xs)) : iterOf (.ref a) σ = some xs := by unfold iterOf; simp [h]
theorem strs_map : ∀ ws : List (List Nat), strsOf ((ws.map strL).map V.str) = some (ws.map strL)
 | [] => rfl
 | w :: ws => by
  show (strsOf ((ws.map strL).map V.str)).map (strL w :: ·) = _
  rw [strs_map ws]; rfl
theorem few_ok {n : Nat} (h : n < 10 ^ 60) : fewI10 (n : Int) = true := by
 unfold fewI10
 rw [Int.natAbs_natCast]
 refine Nat.ble_eq_true_of_le ?_
 by_cases h0 : n = 0
 ·rw [h0]; decide
 ·have : n.log2 < 200 := (Nat.log2_lt h0).mpr (Nat.lt_of_lt_of_le h (by decide))
  lia
theorem dg_okS {n : Nat} (h : n < 10 ^ 60) : okS (strOfI (n : Int)) = true := by
 rw [strOfI_nat]
 exact okS_of (fun c hc => (dg_asc c hc).1) (le_lim (Nat.le_trans (dg_len 59 n h) (by decide)))
noncomputable def nI (ns : List Nat) : List Int := ns.map fun (n : Nat) => (n : Int)
noncomputable def shV : V → V
 | .int i => .str (strOfI i)
 | v => v
theorem sh_nums (ns : List Nat) : ((nI ns).map V.int).map shV = ((ns.map dg).map strL).map V.str := by
 unfold nI
 rw [List.map_map, List.map_map, List.map_map, List.map_map]
 exact List.map_congr_left fun n _ => congrArg V.str (strOfI_nat n)
section
variable {C : Calls} {σ : H} {d : Nat}
theorem join_ok {p : List Nat} {ns : List Nat} {a : Nat} {Q : V → H → Prop} (hp : ∀ c ∈ p, c < 128) (lp : p.length ≤ 60) (hl : ns.length ≤ 3) (hn : ∀ n ∈ ns, n < 10 ^ 60) (h : σ.get a = some (.list (((p :: ns.map dg).map strL).map V.str))) : Ok (strMeth (.str (strL [32])) 11 [.ref a]) σ Q = Q (.str (strL (lineL p ns))) σ := by
 obtain ⟨q1, q2⟩ := line_asc hp lp hl hn
 rw [ok_join h (strs_map _) (by rw [join_strL]; exact okS_of q1 (le_lim (Nat.le_trans q2 (by decide)))), join_strL]
 rfl
theorem shown_ok {p : List Nat} {ns : List Nat} {a : Nat} {Q : V → H → Prop} (hp : ∀ c ∈ p, c < 128) (lp : p.length ≤ 60) (hl : ns.length ≤ 3) (hn : ∀ n ∈ ns, n < 10 ^ 60) (ha : σ.get a = some (.tup (deedV p (nI ns)))) (h : ∀ τ, Ext σ τ → Q (.str (strL (lineL p ns))) τ) : Ok (run prog 1000 (d + 1) false 190 [.ref a]) σ Q := by
 rw [ok_run (fd := f_shown) rfl rfl]
 unfold f_shown
 refine oks_step rfl ?_
 simp (disch := decide) only [s_blank, mx_str (.inr rfl), zf,zg,zh,zi,zj,zk,zl,zm,zn,zo,zp,zq,zr,zt,zu,zv,zw,zx,zy,zz,zA,zB,zC,zD,zE,zF,zG,zH,zI,zJ,zK,zL,zM,zN,zO,zP,zQ,zR,zS,zT,zU,zV,zW,zX,zY,zZ,z0,z5,z6,z7,z8,z9,qa,qb,qc,qd,qe,qf,qg,qh,qi,qj,qk,ql,qm,qo,qp,qr,qt,qw,qx,qy,qz,qA,qB,qC,qD,qE,qF,qG,qH,qI,qJ,qK,qL,qM,qN,qO,qP,qQ,qR,qS,qT,qX,qY,qZ,q0,q5,qU,Nat.reduceBEq,qV,qW,if_true,if_false,q6,reduceCtorEq,Nat.reduceEqDiff,ne_eq,q7,q8,decide_true,decide_false,q9,ya]
 have key : ∀ y ∈ deedV p (nI ns), ∀ lc : Loc, ev prog (run prog 1000 d) (.bi .str (.cons (.loc 191) .nil)) (lc.upd 191 y) σ = some (.ok (shV y), σ) := fun y hy lc => by
  refine ok_eq ?_
  rcases List.mem_cons.mp hy with rfl | hy
  ·simp (disch := decide) only [ok_strS, za,zb,zc,zd,zf,zg,zh,zi,zj,zk,zl,zm,zn,zo,zp,zq,zr,zt,zu,zv,zw,zx,zy,zz,zA,zB,zC,zD,zE,zF,zG,zH,zI,zJ,zK,zL,zM,zN,zO,zP,zQ,zR,zS,zT,zU,zV,zW,zX,zY,zZ,z0,z5,z6,z7,z8,z9,qa,qb,qc,qd,qe,qf,qg,qh,qi,qj,qk,ql,qm,qo,qp,qr,qt,qw,qx,qy,qz,qA,qB,qC,qD,qE,qF,qG,qH,qI,qJ,qK,qL,qM,qN,qO,qP,qQ,qR,qS,qT,qX,qY,qZ,q0,q5,qU,Nat.reduceBEq,qV,qW,if_true,if_false,q6,reduceCtorEq,Nat.reduceEqDiff,ne_eq,q7,q8,decide_true,decide_false,q9,ya]
   exact ⟨rfl, trivial⟩
  ·obtain ⟨i, hi, rfl⟩ := List.mem_map.mp hy
   obtain ⟨n, hn', rfl⟩ := List.mem_map.mp hi
   simp (disch := decide) only [ok_strI (few_ok (hn n hn')) (dg_okS (hn n hn')), za,zb,zc,zd,zf,zg,zh,zi,zj,zk,zl,zm,zn,zo,zp,zq,zr,zt,zu,zv,zw,zx,zy,zz,zA,zB,zC,zD,zE,zF,zG,zH,zI,zJ,zK,zL,zM,zN,zO,zP,zQ,zR,zS,zT,zU,zV,zW,zX,zY,zZ,z0,z5,z6,z7,z8,z9,qa,qb,qc,qd,qe,qf,qg,qh,qi,qj,qk,ql,qm,qo,qp,qr,qt,qw,qx,qy,qz,qA,qB,qC,qD,qE,qF,qG,qH,qI,qJ,qK,qL,qM,qN,qO,qP,qQ,qR,qS,qT,qX,qY,qZ,q0,q5,qU,Nat.reduceBEq,qV,qW,if_true,if_false,q6,reduceCtorEq,Nat.reduceEqDiff,ne_eq,q7,q8,decide_true,decide_false,q9,ya]
   exact ⟨rfl, trivial⟩
 rw [c_pure (fun _ => true) shV (it_tup ha) (fun y _ => rfl) (fun y hy _ => key y hy _) (le_lim (by rw [List.length_map, List.filter_eq_self.mpr fun _ _ => rfl]; unfold deedV nI; rw [List.length_cons, List.length_map, List.length_map]; lia))]
 have e : ((deedV p (nI ns)).filter fun _ => true).map shV = ((p :: ns.map dg).map strL).map V.str := by
  rw [List.filter_eq_self.mpr fun _ _ => rfl]
  show V.str (strL p) :: ((nI ns).map V.int).map shV = _
  rw [sh_nums]; rfl
 rw [e]
 simp (disch := decide) only [zf,zg,zh,zi,zj,zk,zl,zm,zn,zo,zp,zq,zr,zt,zu,zv,zw,zx,zy,zz,zA,zB,zC,zD,zE,zF,zG,zH,zI,zJ,zK,zL,zM,zN,zO,zP,zQ,zR,zS,zT,zU,zV,zW,zX,zY,zZ,z0,z5,z6,z7,z8,z9,qa,qb,qc,qd,qe,qf,qg,qh,qi,qj,qk,ql,qm,qo,qp,qr,qt,qw,qx,qy,qz,qA,qB,qC,qD,qE,qF,qG,qH,qI,qJ,qK,qL,qM,qN,qO,qP,qQ,qR,qS,qT,qX,qY,qZ,q0,q5,qU,Nat.reduceBEq,qV,qW,if_true,if_false,q6,reduceCtorEq,Nat.reduceEqDiff,ne_eq,q7,q8,decide_true,decide_false,q9,ya]
 rw [join_ok hp lp hl hn get_push_eq]
 simp (disch := decide) only [zd, zf,zg,zh,zi,zj,zk,zl,zm,zn,zo,zp,zq,zr,zt,zu,zv,zw,zx,zy,zz,zA,zB,zC,zD,zE,zF,zG,zH,zI,zJ,zK,zL,zM,zN,zO,zP,zQ,zR,zS,zT,zU,zV,zW,zX,zY,zZ,z0,z5,z6,z7,z8,z9,qa,qb,qc,qd,qe,qf,qg,qh,qi,qj,qk,ql,qm,qo,qp,qr,qt,qw,qx,qy,qz,qA,qB,qC,qD,qE,qF,qG,qH,qI,qJ,qK,qL,qM,qN,qO,qP,qQ,qR,qS,qT,qX,qY,qZ,q0,q5,qU,Nat.reduceBEq,qV,qW,if_true,if_false,q6,reduceCtorEq,Nat.reduceEqDiff,ne_eq,q7,q8,decide_true,decide_false,q9,ya]
 exact h _ ((Ext.refl _).push _)
theorem end_ok {l : List Nat} {lc : Loc} (hA : Asc l) (h1 : σ.get 1 = some (.dict words)) (hnf : 2 ≤ σ.length) (e : lc 197 = some (.str (strL l))) : OkS (exs prog (run prog 1000 20) 1000 f_law_10 lc σ) (runK fun v _ => v = .bool true) := by
 refine oks_step rfl ?_
 simp (disch := decide) only [e, zf,zg,zh,zi,zj,zk,zl,zm,zn,zo,zp,zq,zr,zt,zu,zv,zw,zx,zy,zz,zA,zB,zC,zD,zE,zF,zG,zH,zI,zJ,zK,zL,zM,zN,zO,zP,zQ,zR,zS,zT,zU,zV,zW,zX,zY,zZ,z0,z5,z6,z7,z8,z9,qa,qb,qc,qd,qe,qf,qg,qh,qi,qj,qk,ql,qm,qo,qp,qr,qt,qw,qx,qy,qz,qA,qB,qC,qD,qE,qF,qG,qH,qI,qJ,qK,qL,qM,qN,qO,qP,qQ,qR,qS,qT,qX,qY,qZ,q0,q5,qU,Nat.reduceBEq,qV,qW,if_true,if_false,q6,reduceCtorEq,Nat.reduceEqDiff,ne_eq,q7,q8,decide_true,decide_false,q9,ya]
 refine due_ok hA hnf (fun hr τ x => ?_) fun p ws hr τ x => ?_
 ·simp (disch := decide) only [zf,zg,zh,zi,zj,zk,zl,zm,zn,zo,zp,zq,zr,zt,zu,zv,zw,zx,zy,zz,zA,zB,zC,zD,zE,zF,zG,zH,zI,zJ,zK,zL,zM,zN,zO,zP,zQ,zR,zS,zT,zU,zV,zW,zX,zY,zZ,z0,z5,z6,z7,z8,z9,qa,qb,qc,qd,qe,qf,qg,qh,qi,qj,qk,ql,qm,qo,qp,qr,qt,qw,qx,qy,qz,qA,qB,qC,qD,qE,qF,qG,qH,qI,qJ,qK,qL,qM,qN,qO,qP,qQ,qR,qS,qT,qX,qY,qZ,q0,q5,qU,Nat.reduceBEq,qV,qW,if_true,if_false,q6,reduceCtorEq,Nat.reduceEqDiff,ne_eq,q7,q8,decide_true,decide_false,q9,ya]
  refine then_step rfl ?_
  simp (disch := decide) only [ok_is, ok_truthb, zf,zg,zh,zi,zj,zk,zl,zm,zn,zo,zp,zq,zr,zt,zu,zv,zw,zx,zy,zz,zA,zB,zC,zD,zE,zF,zG,zH,zI,zJ,zK,zL,zM,zN,zO,zP,zQ,zR,zS,zT,zU,zV,zW,zX,zY,zZ,z0,z5,z6,z7,z8,z9,qa,qb,qc,qd,qe,qf,qg,qh,qi,qj,qk,ql,qm,qo,qp,qr,qt,qw,qx,qy,qz,qA,qB,qC,qD,qE,qF,qG,qH,qI,qJ,qK,qL,qM,qN,qO,qP,qQ,qR,qS,qT,qX,qY,qZ,q0,q5,qU,Nat.reduceBEq,qV,qW,if_true,if_false,q6,reduceCtorEq,Nat.reduceEqDiff,ne_eq,q7,q8,decide_true,decide_false,q9,ya]
  refine oks_step rfl ?_
  simp (disch := decide) only [e, ea_cons, ea_one, zf,zg,zh,zi,zj,zk,zl,zm,zn,zo,zp,zq,zr,zt,zu,zv,zw,zx,zy,zz,zA,zB,zC,zD,zE,zF,zG,zH,zI,zJ,zK,zL,zM,zN,zO,zP,zQ,zR,zS,zT,zU,zV,zW,zX,zY,zZ,z0,z5,z6,z7,z8,z9,qa,qb,qc,qd,qe,qf,qg,qh,qi,qj,qk,ql,qm,qo,qp,qr,qt,qw,qx,qy,qz,qA,qB,qC,qD,qE,qF,qG,qH,qI,qJ,qK,qL,qM,qN,qO,qP,qQ,qR,qS,qT,qX,qY,qZ,q0,q5,qU,Nat.reduceBEq,qV,qW,if_true,if_false,q6,reduceCtorEq,Nat.reduceEqDiff,ne_eq,q7,q8,decide_true,decide_false,q9,ya]
  refine refused_t hA hr (x _ _ h1) fun τ1 x1 => ?_
  simp (disch := decide) only [e, ok_truthb, eandF_t, ea_one, zf,zg,zh,zi,zj,zk,zl,zm,zn,zo,zp,zq,zr,zt,zu,zv,zw,zx,zy,zz,zA,zB,zC,zD,zE,zF,zG,zH,zI,zJ,zK,zL,zM,zN,zO,zP,zQ,zR,zS,zT,zU,zV,zW,zX,zY,zZ,z0,z5,z6,z7,z8,z9,qa,qb,qc,qd,qe,qf,qg,qh,qi,qj,qk,ql,qm,qo,qp,qr,qt,qw,qx,qy,qz,qA,qB,qC,qD,qE,qF,qG,qH,qI,qJ,qK,qL,qM,qN,qO,qP,qQ,qR,qS,qT,qX,qY,qZ,q0,q5,qU,Nat.reduceBEq,qV,qW,if_true,if_false,q6,reduceCtorEq,Nat.reduceEqDiff,ne_eq,q7,q8,decide_true,decide_false,q9,ya]
  refine by_all_ok hA hr (x1 _ _ (x _ _ h1)) fun τ2 x2 => ?_
  simp (disch := decide) only [zd, zf,zg,zh,zi,zj,zk,zl,zm,zn,zo,zp,zq,zr,zt,zu,zv,zw,zx,zy,zz,zA,zB,zC,zD,zE,zF,zG,zH,zI,zJ,zK,zL,zM,zN,zO,zP,zQ,zR,zS,zT,zU,zV,zW,zX,zY,zZ,z0,z5,z6,z7,z8,z9,qa,qb,qc,qd,qe,qf,qg,qh,qi,qj,qk,ql,qm,qo,qp,qr,qt,qw,qx,qy,qz,qA,qB,qC,qD,qE,qF,qG,qH,qI,qJ,qK,qL,qM,qN,qO,qP,qQ,qR,qS,qT,qX,qY,qZ,q0,q5,qU,Nat.reduceBEq,qV,qW,if_true,if_false,q6,reduceCtorEq,Nat.reduceEqDiff,ne_eq,q7,q8,decide_true,decide_false,q9,ya]
 ·have gd : (τ.push (.tup (deedV p (digs ws)))).get τ.length = some (.tup (deedV p (digs ws))) := get_push_eq
  have x1 := x.push (.tup (deedV p (digs ws)))
  have hl : (digs ws).length ≤ 1000 := by
   have hc := split_count (c := 32) l
   have hn := hA.n
   obtain ⟨q, qs, es⟩ := split_ne (c := 32) l
   unfold rd at hr
   rw [es] at hr hc
   dsimp only at hr
   split at hr
   ·cases hr
    unfold digs
    rw [List.length_map]
    have := List.length_cons (a := p) (as := ws)
    lia
   ·cases hr
  generalize τ.push (.tup (deedV p (digs ws))) = τ1 at *
  generalize τ.length = da at *
  simp (disch := decide) only [zf,zg,zh,zi,zj,zk,zl,zm,zn,zo,zp,zq,zr,zt,zu,zv,zw,zx,zy,zz,zA,zB,zC,zD,zE,zF,zG,zH,zI,zJ,zK,zL,zM,zN,zO,zP,zQ,zR,zS,zT,zU,zV,zW,zX,zY,zZ,z0,z5,z6,z7,z8,z9,qa,qb,qc,qd,qe,qf,qg,qh,qi,qj,qk,ql,qm,qo,qp,qr,qt,qw,qx,qy,qz,qA,qB,qC,qD,qE,qF,qG,qH,qI,qJ,qK,qL,qM,qN,qO,qP,qQ,qR,qS,qT,qX,qY,qZ,q0,q5,qU,Nat.reduceBEq,qV,qW,if_true,if_false,q6,reduceCtorEq,Nat.reduceEqDiff,ne_eq,q7,q8,decide_true,decide_false,q9,ya]
  refine then_step rfl ?_
  simp (disch := decide) only [ok_is, ok_truthb, zb, zf,zg,zh,zi,zj,zk,zl,zm,zn,zo,zp,zq,zr,zt,zu,zv,zw,zx,zy,zz,zA,zB,zC,zD,zE,zF,zG,zH,zI,zJ,zK,zL,zM,zN,zO,zP,zQ,zR,zS,zT,zU,zV,zW,zX,zY,zZ,z0,z5,z6,z7,z8,z9,qa,qb,qc,qd,qe,qf,qg,qh,qi,qj,qk,ql,qm,qo,qp,qr,qt,qw,qx,qy,qz,qA,qB,qC,qD,qE,qF,qG,qH,qI,qJ,qK,qL,qM,qN,qO,qP,qQ,qR,qS,qT,qX,qY,qZ,q0,q5,qU,Nat.reduceBEq,qV,qW,if_true,if_false,q6,reduceCtorEq,Nat.reduceEqDiff,ne_eq,q7,q8,decide_true,decide_false,q9,ya]
  refine then_step rfl ?_
  simp (disch := decide) only [e, ea_cons, ea_one, zf,zg,zh,zi,zj,zk,zl,zm,zn,zo,zp,zq,zr,zt,zu,zv,zw,zx,zy,zz,zA,zB,zC,zD,zE,zF,zG,zH,zI,zJ,zK,zL,zM,zN,zO,zP,zQ,zR,zS,zT,zU,zV,zW,zX,zY,zZ,z0,z5,z6,z7,z8,z9,qa,qb,qc,qd,qe,qf,qg,qh,qi,qj,qk,ql,qm,qo,qp,qr,qt,qw,qx,qy,qz,qA,qB,qC,qD,qE,qF,qG,qH,qI,qJ,qK,qL,qM,qN,qO,qP,qQ,qR,qS,qT,qX,qY,qZ,q0,q5,qU,Nat.reduceBEq,qV,qW,if_true,if_false,q6,reduceCtorEq,Nat.reduceEqDiff,ne_eq,q7,q8,decide_true,decide_false,q9,ya]
  refine refused_f hA hr (x1 _ _ h1) fun τ2 x2 => ?_
  simp (disch := decide) only [e, ok_truthb, eandF_t, ea_one, zf,zg,zh,zi,zj,zk,zl,zm,zn,zo,zp,zq,zr,zt,zu,zv,zw,zx,zy,zz,zA,zB,zC,zD,zE,zF,zG,zH,zI,zJ,zK,zL,zM,zN,zO,zP,zQ,zR,zS,zT,zU,zV,zW,zX,zY,zZ,z0,z5,z6,z7,z8,z9,qa,qb,qc,qd,qe,qf,qg,qh,qi,qj,qk,ql,qm,qo,qp,qr,qt,qw,qx,qy,qz,qA,qB,qC,qD,qE,qF,qG,qH,qI,qJ,qK,qL,qM,qN,qO,qP,qQ,qR,qS,qT,qX,qY,qZ,q0,q5,qU,Nat.reduceBEq,qV,qW,if_true,if_false,q6,reduceCtorEq,Nat.reduceEqDiff,ne_eq,q7,q8,decide_true,decide_false,q9,ya]
  have y2 := x1.trans x2
  refine read_ok hA hr (y2 _ _ h1) fun τ3 x3 => ?_
  simp (disch := decide) only [zf,zg,zh,zi,zj,zk,zl,zm,zn,zo,zp,zq,zr,zt,zu,zv,zw,zx,zy,zz,zA,zB,zC,zD,zE,zF,zG,zH,zI,zJ,zK,zL,zM,zN,zO,zP,zQ,zR,zS,zT,zU,zV,zW,zX,zY,zZ,z0,z5,z6,z7,z8,z9,qa,qb,qc,qd,qe,qf,qg,qh,qi,qj,qk,ql,qm,qo,qp,qr,qt,qw,qx,qy,qz,qA,qB,qC,qD,qE,qF,qG,qH,qI,qJ,qK,qL,qM,qN,qO,qP,qQ,qR,qS,qT,qX,qY,qZ,q0,q5,qU,Nat.reduceBEq,qV,qW,if_true,if_false,q6,reduceCtorEq,Nat.reduceEqDiff,ne_eq,q7,q8,decide_true,decide_false,q9,ya]
  refine alike_ok get_push_eq (get_keep (x3 _ _ (x2 _ _ gd))) hl fun τ4 x4 => ?_
  simp (disch := decide) only [zd, zf,zg,zh,zi,zj,zk,zl,zm,zn,zo,zp,zq,zr,zt,zu,zv,zw,zx,zy,zz,zA,zB,zC,zD,zE,zF,zG,zH,zI,zJ,zK,zL,zM,zN,zO,zP,zQ,zR,zS,zT,zU,zV,zW,zX,zY,zZ,z0,z5,z6,z7,z8,z9,qa,qb,qc,qd,qe,qf,qg,qh,qi,qj,qk,ql,qm,qo,qp,qr,qt,qw,qx,qy,qz,qA,qB,qC,qD,qE,qF,qG,qH,qI,qJ,qK,qL,qM,qN,qO,qP,qQ,qR,qS,qT,qX,qY,qZ,q0,q5,qU,Nat.reduceBEq,qV,qW,if_true,if_false,q6,reduceCtorEq,Nat.reduceEqDiff,ne_eq,q7,q8,decide_true,decide_false,q9,ya]
theorem w7_eq : [V.str (Str.ofString "make"), V.str (Str.ofString "hold"), V.str (Str.ofString "drop"), V.str (Str.ofString "put"), V.str (Str.ofString "empty"), V.str (Str.ofString "take"), V.str (Str.ofString "tidy")] = wl.map fun q => V.str (strL q.1) := by kernel_rfl
theorem wl_look : ∀ q ∈ wl, lookW wl q.1 = some q.2 := by decide
theorem wl_ok : ∀ q ∈ wl, (∀ c ∈ q.1, c < 128) ∧ q.1.length ≤ 60 ∧ 32 ∉ q.1 ∧ q.2 ≤ 3 ∧ 0 < q.1.length := by decide
theorem ok_pow {Q : V → H → Prop} : Ok (binop .Pow (.int 10) (.int 60)) σ Q = Q (.int ((10 ^ 60 : Nat) : Int)) σ := ok_some (by kernel_rfl)
theorem line_pos {p : List Nat} {ns : List Nat} (h : 0 < p.length) : 0 < (lineL p ns).length := by
 unfold lineL
 cases ns with
 | nil => exact h
 | cons n ns => show 0 < (p ++ 32 :: joinL ((n :: ns).map dg)).length; rw [List.length_append]; lia
theorem mid_ok {ns : List Int} {p : List Nat} {m large : Nat} {lc : Loc} (hq : (p, m) ∈ wl) (hz : σ.get 0 = some (.list (ns.map .int))) (h1 : σ.get 1 = some (.dict words)) (hl1 : 0 < large) (hl2 : large ≤ 10 ^ 60) (e70 : lc 70 = some (.ref 0)) (e134 : lc 134 = some (.str (strL p))) (e203 : lc 203 = some (.int ((large : Nat) : Int))) : OkS (exs prog (run prog 1000 20) 1000 f_law_4 lc σ) (runK fun v _ => v = .bool true) := by
 have hlk := wl_look _ hq
 obtain ⟨hp, lp, p32, hm3, hp0⟩ := wl_ok _ hq
 dsimp only at hlk hp lp p32 hm3 hp0
 refine oks_step rfl ?_
 simp (disch := decide) only [e134, zf,zg,zh,zi,zj,zk,zl,zm,zn,zo,zp,zq,zr,zt,zu,zv,zw,zx,zy,zz,zA,zB,zC,zD,zE,zF,zG,zH,zI,zJ,zK,zL,zM,zN,zO,zP,zQ,zR,zS,zT,zU,zV,zW,zX,zY,zZ,z0,z5,z6,z7,z8,z9,qa,qb,qc,qd,qe,qf,qg,qh,qi,qj,qk,ql,qm,qo,qp,qr,qt,qw,qx,qy,qz,qA,qB,qC,qD,qE,qF,qG,qH,qI,qJ,qK,qL,qM,qN,qO,qP,qQ,qR,qS,qT,qX,qY,qZ,q0,q5,qU,Nat.reduceBEq,qV,qW,if_true,if_false,q6,reduceCtorEq,Nat.reduceEqDiff,ne_eq,q7,q8,decide_true,decide_false,q9,ya]
 refine many_ok fun τ x => ?_
 have em : manyN p = ((m : Nat) : Int) := by unfold manyN; rw [hlk]; rfl
 rw [em]
 simp (disch := decide) only [ok_range1, zf,zg,zh,zi,zj,zk,zl,zm,zn,zo,zp,zq,zr,zt,zu,zv,zw,zx,zy,zz,zA,zB,zC,zD,zE,zF,zG,zH,zI,zJ,zK,zL,zM,zN,zO,zP,zQ,zR,zS,zT,zU,zV,zW,zX,zY,zZ,z0,z5,z6,z7,z8,z9,qa,qb,qc,qd,qe,qf,qg,qh,qi,qj,qk,ql,qm,qo,qp,qr,qt,qw,qx,qy,qz,qA,qB,qC,qD,qE,qF,qG,qH,qI,qJ,qK,qL,qM,qN,qO,qP,qQ,qR,qS,qT,qX,qY,qZ,q0,q5,qU,Nat.reduceBEq,qV,qW,if_true,if_false,q6,reduceCtorEq,Nat.reduceEqDiff,ne_eq,q7,q8,decide_true,decide_false,q9,ya]
 have x1 := x.push (.rng 0 ((m : Nat) : Int) 1)
 have g1 : (τ.push (.rng 0 ((m : Nat) : Int) 1)).get τ.length = some (.rng 0 ((m : Nat) : Int) 1) := get_push_eq
 generalize τ.push (.rng 0 ((m : Nat) : Int) 1) = τ1 at *
 have hz1 := x1 _ _ hz
 have key : ∀ y ∈ (List.range ((m : Nat) : Int).toNat).map fun (k : Nat) => V.int (k : Int), ev prog (run prog 1000 20) (.bin .Mod (.call 69 (.cons (.loc 70) (.cons (.bin .Add (.cint 2) (.loc 71)) .nil))) (.loc 203)) (lc.upd 71 y) τ1 = some (.ok (match y with | .int i => .int (Int.fmod (cellAt ns (2 + i.toNat)) (large : Int)) | v => v), τ1) := fun y hy => by
  obtain ⟨k, hk, rfl⟩ := List.mem_map.mp hy
  refine ok_eq ?_
  have f70 : (lc.upd 71 (.int (k : Int))) 70 = some (.ref 0) := e70
  have f203 : (lc.upd 71 (.int (k : Int))) 203 = some (.int ((large : Nat) : Int)) := e203
  have f71 : (lc.upd 71 (.int (k : Int))) 71 = some (.int (k : Int)) := upd_at
  generalize lc.upd 71 (.int (k : Int)) = l2 at *
  have e2 : (2 : Int) + (k : Int) = ((2 + k : Nat) : Int) := rfl
  simp (disch := decide) only [f70, f71, f203, ok_add, e2, za,zb,zc,zd,zf,zg,zh,zi,zj,zk,zl,zm,zn,zo,zp,zq,zr,zt,zu,zv,zw,zx,zy,zz,zA,zB,zC,zD,zE,zF,zG,zH,zI,zJ,zK,zL,zM,zN,zO,zP,zQ,zR,zS,zT,zU,zV,zW,zX,zY,zZ,z0,z5,z6,z7,z8,z9,qa,qb,qc,qd,qe,qf,qg,qh,qi,qj,qk,ql,qm,qo,qp,qr,qt,qw,qx,qy,qz,qA,qB,qC,qD,qE,qF,qG,qH,qI,qJ,qK,qL,qM,qN,qO,qP,qQ,qR,qS,qT,qX,qY,qZ,q0,q5,qU,Nat.reduceBEq,qV,qW,if_true,if_false,q6,reduceCtorEq,Nat.reduceEqDiff,ne_eq,q7,q8,decide_true,decide_false,q9,ya]
  refine cell_ok (k := 2 + k) hz1 ?_
  have ln : ((large : Nat) : Int) ≠ 0 := by lia
  simp (disch := decide) only [f203, ok_mod ln, za,zb,zc,zd,zf,zg,zh,zi,zj,zk,zl,zm,zn,zo,zp,zq,zr,zt,zu,zv,zw,zx,zy,zz,zA,zB,zC,zD,zE,zF,zG,zH,zI,zJ,zK,zL,zM,zN,zO,zP,zQ,zR,zS,zT,zU,zV,zW,zX,zY,zZ,z0,z5,z6,z7,z8,z9,qa,qb,qc,qd,qe,qf,qg,qh,qi,qj,qk,ql,qm,qo,qp,qr,qt,qw,qx,qy,qz,qA,qB,qC,qD,qE,qF,qG,qH,qI,qJ,qK,qL,qM,qN,qO,qP,qQ,qR,qS,qT,qX,qY,qZ,q0,q5,qU,Nat.reduceBEq,qV,qW,if_true,if_false,q6,reduceCtorEq,Nat.reduceEqDiff,ne_eq,q7,q8,decide_true,decide_false,q9,ya]
  exact ⟨rfl, trivial⟩
 rw [c_pure (fun _ => true) _ (it_range g1 (Int.natCast_nonneg _) (by lia)) (fun y _ => rfl) (fun y hy _ => key y hy) (le_lim (by rw [List.length_map, List.filter_eq_self.mpr fun _ _ => rfl, List.length_map, List.length_range]; lia))]
 have en : ∃ nn : List Nat, nn.length = m ∧ (∀ n ∈ nn, n < 10 ^ 60) ∧ ((((List.range ((m : Nat) : Int).toNat).map fun (k : Nat) => V.int (k : Int)).filter fun _ => true).map fun y => match y with | .int i => .int (Int.fmod (cellAt ns (2 + i.toNat)) (large : Int)) | v => v) = (nI nn).map V.int := by
  refine ⟨(List.range m).map fun k => (Int.fmod (cellAt ns (2 + k)) (large : Int)).toNat, by rw [List.length_map, List.length_range], fun n hn => ?_, ?_⟩
  ·obtain ⟨k, _, rfl⟩ := List.mem_map.mp hn
   obtain ⟨q, q1, q2⟩ := fmod_nat (a := cellAt ns (2 + k)) (b := (large : Int)) (by lia)
   show (Int.fmod (cellAt ns (2 + k)) (large : Int)).toNat < 10 ^ 60
   rw [q1, Int.toNat_natCast]
   exact Nat.lt_of_lt_of_le (by lia) hl2
  ·rw [List.filter_eq_self.mpr fun _ _ => rfl, Int.toNat_natCast]
   unfold nI
   rw [List.map_map, List.map_map, List.map_map]
   refine List.map_congr_left fun k _ => ?_
   obtain ⟨q, q1, q2⟩ := fmod_nat (a := cellAt ns (2 + k)) (b := (large : Int)) (by lia)
   show V.int (Int.fmod (cellAt ns (2 + ((k : Int)).toNat)) (large : Int)) = V.int (((Int.fmod (cellAt ns (2 + k)) (large : Int)).toNat : Nat) : Int)
   rw [Int.toNat_natCast, q1, Int.toNat_natCast]
 obtain ⟨nn, hnl, hn60, en⟩ := en
 rw [en]
 have x2 := x1.push (.list ((nI nn).map V.int))
 have g2 : (τ1.push (.list ((nI nn).map V.int))).get τ1.length = some (.list ((nI nn).map V.int)) := get_push_eq
 clear key en g1
 generalize τ1.push (.list ((nI nn).map V.int)) = τ2 at *
 generalize τ1.length = na at *
 have hlen : ([V.str (strL p)] ++ (nI nn).map V.int).length ≤ lim := le_lim (by unfold nI; rw [List.length_append, List.length_map, List.length_map]; simp; lia)
 simp (disch := decide) only [zf,zg,zh,zi,zj,zk,zl,zm,zn,zo,zp,zq,zr,zt,zu,zv,zw,zx,zy,zz,zA,zB,zC,zD,zE,zF,zG,zH,zI,zJ,zK,zL,zM,zN,zO,zP,zQ,zR,zS,zT,zU,zV,zW,zX,zY,zZ,z0,z5,z6,z7,z8,z9,qa,qb,qc,qd,qe,qf,qg,qh,qi,qj,qk,ql,qm,qo,qp,qr,qt,qw,qx,qy,qz,qA,qB,qC,qD,qE,qF,qG,qH,qI,qJ,qK,qL,qM,qN,qO,qP,qQ,qR,qS,qT,qX,qY,qZ,q0,q5,qU,Nat.reduceBEq,qV,qW,if_true,if_false,q6,reduceCtorEq,Nat.reduceEqDiff,ne_eq,q7,q8,decide_true,decide_false,q9,ya]
 refine then_step rfl ?_
 simp (disch := decide) only [e134, ok_alloc (show okO (.list [V.str (strL p)]) = true from rfl), zf,zg,zh,zi,zj,zk,zl,zm,zn,zo,zp,zq,zr,zt,zu,zv,zw,zx,zy,zz,zA,zB,zC,zD,zE,zF,zG,zH,zI,zJ,zK,zL,zM,zN,zO,zP,zQ,zR,zS,zT,zU,zV,zW,zX,zY,zZ,z0,z5,z6,z7,z8,z9,qa,qb,qc,qd,qe,qf,qg,qh,qi,qj,qk,ql,qm,qo,qp,qr,qt,qw,qx,qy,qz,qA,qB,qC,qD,qE,qF,qG,qH,qI,qJ,qK,qL,qM,qN,qO,qP,qQ,qR,qS,qT,qX,qY,qZ,q0,q5,qU,Nat.reduceBEq,qV,qW,if_true,if_false,q6,reduceCtorEq,Nat.reduceEqDiff,ne_eq,q7,q8,decide_true,decide_false,q9,ya]
 have x3 := x2.push (.list [V.str (strL p)])
 have g3 : (τ2.push (.list [V.str (strL p)])).get τ2.length = some (.list [V.str (strL p)]) := get_push_eq
 have g2 := get_keep (x := .list [V.str (strL p)]) g2
 generalize τ2.push (.list [V.str (strL p)]) = τ3 at *
 generalize τ2.length = ha at *
 simp (disch := decide) only [ok_catL g3 g2 hlen, ok_tuple (get_push_eq (σ := τ3) (o := .list ([V.str (strL p)] ++ (nI nn).map V.int))) hlen, zf,zg,zh,zi,zj,zk,zl,zm,zn,zo,zp,zq,zr,zt,zu,zv,zw,zx,zy,zz,zA,zB,zC,zD,zE,zF,zG,zH,zI,zJ,zK,zL,zM,zN,zO,zP,zQ,zR,zS,zT,zU,zV,zW,zX,zY,zZ,z0,z5,z6,z7,z8,z9,qa,qb,qc,qd,qe,qf,qg,qh,qi,qj,qk,ql,qm,qo,qp,qr,qt,qw,qx,qy,qz,qA,qB,qC,qD,qE,qF,qG,qH,qI,qJ,qK,qL,qM,qN,qO,qP,qQ,qR,qS,qT,qX,qY,qZ,q0,q5,qU,Nat.reduceBEq,qV,qW,if_true,if_false,q6,reduceCtorEq,Nat.reduceEqDiff,ne_eq,q7,q8,decide_true,decide_false,q9,ya]
 have x4 := (x3.push (.list ([V.str (strL p)] ++ (nI nn).map V.int))).push (.tup (deedV p (nI nn)))
 have g2 := get_keep (x := .tup (deedV p (nI nn))) (get_keep (x := .list ([V.str (strL p)] ++ (nI nn).map V.int)) g2)
 have g4 : ((τ3.push (.list ([V.str (strL p)] ++ (nI nn).map V.int))).push (.tup (deedV p (nI nn)))).get (τ3.push (.list ([V.str (strL p)] ++ (nI nn).map V.int))).length = some (.tup (deedV p (nI nn))) := get_push_eq
 change andThen _ _ _ _ _ _ _ ((τ3.push (.list ([V.str (strL p)] ++ (nI nn).map V.int))).push (.tup (deedV p (nI nn))))
 generalize (τ3.push (.list ([V.str (strL p)] ++ (nI nn).map V.int))).push (.tup (deedV p (nI nn))) = τ4 at *
 generalize (τ3.push (.list ([V.str (strL p)] ++ (nI nn).map V.int))).length = da at *
 refine then_step rfl ?_
 simp (disch := decide) only [e134, s_blank, mx_str (.inr rfl), ok_alloc (show okO (.list [V.str (strL p)]) = true from rfl), zf,zg,zh,zi,zj,zk,zl,zm,zn,zo,zp,zq,zr,zt,zu,zv,zw,zx,zy,zz,zA,zB,zC,zD,zE,zF,zG,zH,zI,zJ,zK,zL,zM,zN,zO,zP,zQ,zR,zS,zT,zU,zV,zW,zX,zY,zZ,z0,z5,z6,z7,z8,z9,qa,qb,qc,qd,qe,qf,qg,qh,qi,qj,qk,ql,qm,qo,qp,qr,qt,qw,qx,qy,qz,qA,qB,qC,qD,qE,qF,qG,qH,qI,qJ,qK,qL,qM,qN,qO,qP,qQ,qR,qS,qT,qX,qY,qZ,q0,q5,qU,Nat.reduceBEq,qV,qW,if_true,if_false,q6,reduceCtorEq,Nat.reduceEqDiff,ne_eq,q7,q8,decide_true,decide_false,q9,ya]
 have x5 := x4.push (.list [V.str (strL p)])
 have g5 : (τ4.push (.list [V.str (strL p)])).get τ4.length = some (.list [V.str (strL p)]) := get_push_eq
 have g2 := get_keep (x := .list [V.str (strL p)]) g2
 have g4 := get_keep (x := .list [V.str (strL p)]) g4
 generalize τ4.push (.list [V.str (strL p)]) = τ5 at *
 generalize τ4.length = hb at *
 have key2 : ∀ y ∈ (nI nn).map V.int, ∀ l2 : Loc, ev prog (run prog 1000 20) (.bi .str (.cons (.loc 204) .nil)) (l2.upd 204 y) τ5 = some (.ok (shV y), τ5) := fun y hy l2 => by
  obtain ⟨i, hi, rfl⟩ := List.mem_map.mp hy
  obtain ⟨n, hn', rfl⟩ := List.mem_map.mp hi
  refine ok_eq ?_
  simp (disch := decide) only [ok_strI (few_ok (hn60 n hn')) (dg_okS (hn60 n hn')), za,zb,zc,zd,zf,zg,zh,zi,zj,zk,zl,zm,zn,zo,zp,zq,zr,zt,zu,zv,zw,zx,zy,zz,zA,zB,zC,zD,zE,zF,zG,zH,zI,zJ,zK,zL,zM,zN,zO,zP,zQ,zR,zS,zT,zU,zV,zW,zX,zY,zZ,z0,z5,z6,z7,z8,z9,qa,qb,qc,qd,qe,qf,qg,qh,qi,qj,qk,ql,qm,qo,qp,qr,qt,qw,qx,qy,qz,qA,qB,qC,qD,qE,qF,qG,qH,qI,qJ,qK,qL,qM,qN,qO,qP,qQ,qR,qS,qT,qX,qY,qZ,q0,q5,qU,Nat.reduceBEq,qV,qW,if_true,if_false,q6,reduceCtorEq,Nat.reduceEqDiff,ne_eq,q7,q8,decide_true,decide_false,q9,ya]
  exact ⟨rfl, trivial⟩
 rw [c_pure (fun _ => true) shV (it_list g2) (fun y _ => rfl) (fun y hy _ => key2 y hy _) (le_lim (by rw [List.length_map, List.filter_eq_self.mpr fun _ _ => rfl]; unfold nI; rw [List.length_map, List.length_map]; lia)), List.filter_eq_self.mpr fun _ _ => rfl, sh_nums]
 have x6 := x5.push (.list (((nn.map dg).map strL).map V.str))
 have g6 : (τ5.push (.list (((nn.map dg).map strL).map V.str))).get τ5.length = some (.list (((nn.map dg).map strL).map V.str)) := get_push_eq
 have g5 := get_keep (x := .list (((nn.map dg).map strL).map V.str)) g5
 have g4 := get_keep (x := .list (((nn.map dg).map strL).map V.str)) g4
 clear key2
 generalize τ5.push (.list (((nn.map dg).map strL).map V.str)) = τ6 at *
 generalize τ5.length = sa at *
 have hlen2 : ([V.str (strL p)] ++ ((nn.map dg).map strL).map V.str).length ≤ lim := le_lim (by rw [List.length_append, List.length_map, List.length_map, List.length_map]; simp; lia)
 simp (disch := decide) only [ok_catL g5 g6 hlen2, zf,zg,zh,zi,zj,zk,zl,zm,zn,zo,zp,zq,zr,zt,zu,zv,zw,zx,zy,zz,zA,zB,zC,zD,zE,zF,zG,zH,zI,zJ,zK,zL,zM,zN,zO,zP,zQ,zR,zS,zT,zU,zV,zW,zX,zY,zZ,z0,z5,z6,z7,z8,z9,qa,qb,qc,qd,qe,qf,qg,qh,qi,qj,qk,ql,qm,qo,qp,qr,qt,qw,qx,qy,qz,qA,qB,qC,qD,qE,qF,qG,qH,qI,qJ,qK,qL,qM,qN,qO,qP,qQ,qR,qS,qT,qX,qY,qZ,q0,q5,qU,Nat.reduceBEq,qV,qW,if_true,if_false,q6,reduceCtorEq,Nat.reduceEqDiff,ne_eq,q7,q8,decide_true,decide_false,q9,ya]
 have x7 := x6.push (.list (((p :: nn.map dg).map strL).map V.str))
 have g4 := get_keep (x := .list (((p :: nn.map dg).map strL).map V.str)) g4
 have g7 : (τ6.push (.list (((p :: nn.map dg).map strL).map V.str))).get τ6.length = some (.list (((p :: nn.map dg).map strL).map V.str)) := get_push_eq
 change Ok _ (τ6.push (.list (((p :: nn.map dg).map strL).map V.str))) _
 generalize τ6.push (.list (((p :: nn.map dg).map strL).map V.str)) = τ7 at *
 rw [join_ok hp lp (by lia) hn60 g7]
 obtain ⟨r1, r2⟩ := line_rd (p := p) (ns := nn) (by rw [hnl]; exact hlk) p32 hn60
 obtain ⟨a1, a2⟩ := line_asc (p := p) (ns := nn) hp lp (by lia) hn60
 have lpos := line_pos (p := p) (ns := nn) hp0
 simp (disch := decide) only [zf,zg,zh,zi,zj,zk,zl,zm,zn,zo,zp,zq,zr,zt,zu,zv,zw,zx,zy,zz,zA,zB,zC,zD,zE,zF,zG,zH,zI,zJ,zK,zL,zM,zN,zO,zP,zQ,zR,zS,zT,zU,zV,zW,zX,zY,zZ,z0,z5,z6,z7,z8,z9,qa,qb,qc,qd,qe,qf,qg,qh,qi,qj,qk,ql,qm,qo,qp,qr,qt,qw,qx,qy,qz,qA,qB,qC,qD,qE,qF,qG,qH,qI,qJ,qK,qL,qM,qN,qO,qP,qQ,qR,qS,qT,qX,qY,qZ,q0,q5,qU,Nat.reduceBEq,qV,qW,if_true,if_false,q6,reduceCtorEq,Nat.reduceEqDiff,ne_eq,q7,q8,decide_true,decide_false,q9,ya]
 refine then_step rfl ?_
 simp (disch := decide) only [zf,zg,zh,zi,zj,zk,zl,zm,zn,zo,zp,zq,zr,zt,zu,zv,zw,zx,zy,zz,zA,zB,zC,zD,zE,zF,zG,zH,zI,zJ,zK,zL,zM,zN,zO,zP,zQ,zR,zS,zT,zU,zV,zW,zX,zY,zZ,z0,z5,z6,z7,z8,z9,qa,qb,qc,qd,qe,qf,qg,qh,qi,qj,qk,ql,qm,qo,qp,qr,qt,qw,qx,qy,qz,qA,qB,qC,qD,qE,qF,qG,qH,qI,qJ,qK,qL,qM,qN,qO,qP,qQ,qR,qS,qT,qX,qY,qZ,q0,q5,qU,Nat.reduceBEq,qV,qW,if_true,if_false,q6,reduceCtorEq,Nat.reduceEqDiff,ne_eq,q7,q8,decide_true,decide_false,q9,ya]
 refine shown_ok hp lp (by lia) hn60 g4 fun τ8 x8 => ?_
 have y8 := x7.trans x8
 simp (disch := decide) only [zf,zg,zh,zi,zj,zk,zl,zm,zn,zo,zp,zq,zr,zt,zu,zv,zw,zx,zy,zz,zA,zB,zC,zD,zE,zF,zG,zH,zI,zJ,zK,zL,zM,zN,zO,zP,zQ,zR,zS,zT,zU,zV,zW,zX,zY,zZ,z0,z5,z6,z7,z8,z9,qa,qb,qc,qd,qe,qf,qg,qh,qi,qj,qk,ql,qm,qo,qp,qr,qt,qw,qx,qy,qz,qA,qB,qC,qD,qE,qF,qG,qH,qI,qJ,qK,qL,qM,qN,qO,qP,qQ,qR,qS,qT,qX,qY,qZ,q0,q5,qU,Nat.reduceBEq,qV,qW,if_true,if_false,q6,reduceCtorEq,Nat.reduceEqDiff,ne_eq,q7,q8,decide_true,decide_false,q9,ya]
 refine then_step rfl ?_
 simp (disch := decide) only [ok_isi isi_str, ok_neS, ok_truthb, zf,zg,zh,zi,zj,zk,zl,zm,zn,zo,zp,zq,zr,zt,zu,zv,zw,zx,zy,zz,zA,zB,zC,zD,zE,zF,zG,zH,zI,zJ,zK,zL,zM,zN,zO,zP,zQ,zR,zS,zT,zU,zV,zW,zX,zY,zZ,z0,z5,z6,z7,z8,z9,qa,qb,qc,qd,qe,qf,qg,qh,qi,qj,qk,ql,qm,qo,qp,qr,qt,qw,qx,qy,qz,qA,qB,qC,qD,qE,qF,qG,qH,qI,qJ,qK,qL,qM,qN,qO,qP,qQ,qR,qS,qT,qX,qY,qZ,q0,q5,qU,Nat.reduceBEq,qV,qW,if_true,if_false,q6,reduceCtorEq,Nat.reduceEqDiff,ne_eq,q7,q8,decide_true,decide_false,q9,ya]
 refine read_ok ⟨a1, by lia⟩ r1 (y8 _ _ h1) fun τ9 x9 => ?_
 rw [r2]
 simp (disch := decide) only [zf,zg,zh,zi,zj,zk,zl,zm,zn,zo,zp,zq,zr,zt,zu,zv,zw,zx,zy,zz,zA,zB,zC,zD,zE,zF,zG,zH,zI,zJ,zK,zL,zM,zN,zO,zP,zQ,zR,zS,zT,zU,zV,zW,zX,zY,zZ,z0,z5,z6,z7,z8,z9,qa,qb,qc,qd,qe,qf,qg,qh,qi,qj,qk,ql,qm,qo,qp,qr,qt,qw,qx,qy,qz,qA,qB,qC,qD,qE,qF,qG,qH,qI,qJ,qK,qL,qM,qN,qO,qP,qQ,qR,qS,qT,qX,qY,qZ,q0,q5,qU,Nat.reduceBEq,qV,qW,if_true,if_false,q6,reduceCtorEq,Nat.reduceEqDiff,ne_eq,q7,q8,decide_true,decide_false,q9,ya]
 refine alike_ok (ns := nI nn) get_push_eq (get_keep (x9 _ _ (x8 _ _ g4))) (by unfold nI; rw [List.length_map]; lia) fun τ10 x10 => ?_
 have y10 := ((y8.trans x9).push (.tup (deedV p (nI nn)))).trans x10
 simp (disch := decide) only [ok_truthb, zb, zf,zg,zh,zi,zj,zk,zl,zm,zn,zo,zp,zq,zr,zt,zu,zv,zw,zx,zy,zz,zA,zB,zC,zD,zE,zF,zG,zH,zI,zJ,zK,zL,zM,zN,zO,zP,zQ,zR,zS,zT,zU,zV,zW,zX,zY,zZ,z0,z5,z6,z7,z8,z9,qa,qb,qc,qd,qe,qf,qg,qh,qi,qj,qk,ql,qm,qo,qp,qr,qt,qw,qx,qy,qz,qA,qB,qC,qD,qE,qF,qG,qH,qI,qJ,qK,qL,qM,qN,qO,qP,qQ,qR,qS,qT,qX,qY,qZ,q0,q5,qU,Nat.reduceBEq,qV,qW,if_true,if_false,q6,reduceCtorEq,Nat.reduceEqDiff,ne_eq,q7,q8,decide_true,decide_false,q9,ya]
 refine then_step rfl ?_
 have hz10 := y10 _ _ hz
 simp (disch := decide) only [e70, zf,zg,zh,zi,zj,zk,zl,zm,zn,zo,zp,zq,zr,zt,zu,zv,zw,zx,zy,zz,zA,zB,zC,zD,zE,zF,zG,zH,zI,zJ,zK,zL,zM,zN,zO,zP,zQ,zR,zS,zT,zU,zV,zW,zX,zY,zZ,z0,z5,z6,z7,z8,z9,qa,qb,qc,qd,qe,qf,qg,qh,qi,qj,qk,ql,qm,qo,qp,qr,qt,qw,qx,qy,qz,qA,qB,qC,qD,qE,qF,qG,qH,qI,qJ,qK,qL,qM,qN,qO,qP,qQ,qR,qS,qT,qX,qY,qZ,q0,q5,qU,Nat.reduceBEq,qV,qW,if_true,if_false,q6,reduceCtorEq,Nat.reduceEqDiff,ne_eq,q7,q8,decide_true,decide_false,q9,ya]
 refine cell_ok (k := 1) hz10 ?_
 obtain ⟨way, hw1, hw2⟩ := fmod_nat (a := Int.fdiv (cellAt ns 1) 3) (b := 6) (by decide)
 simp (disch := decide) only [e70, ok_div (b := 3) (by decide) (by decide), ok_mod (b := 6) (by decide), hw1, zf,zg,zh,zi,zj,zk,zl,zm,zn,zo,zp,zq,zr,zt,zu,zv,zw,zx,zy,zz,zA,zB,zC,zD,zE,zF,zG,zH,zI,zJ,zK,zL,zM,zN,zO,zP,zQ,zR,zS,zT,zU,zV,zW,zX,zY,zZ,z0,z5,z6,z7,z8,z9,qa,qb,qc,qd,qe,qf,qg,qh,qi,qj,qk,ql,qm,qo,qp,qr,qt,qw,qx,qy,qz,qA,qB,qC,qD,qE,qF,qG,qH,qI,qJ,qK,qL,qM,qN,qO,qP,qQ,qR,qS,qT,qX,qY,qZ,q0,q5,qU,Nat.reduceBEq,qV,qW,if_true,if_false,q6,reduceCtorEq,Nat.reduceEqDiff,ne_eq,q7,q8,decide_true,decide_false,q9,ya]
 refine cell_ok (k := 5) hz10 ?_
 simp (disch := decide) only [zf,zg,zh,zi,zj,zk,zl,zm,zn,zo,zp,zq,zr,zt,zu,zv,zw,zx,zy,zz,zA,zB,zC,zD,zE,zF,zG,zH,zI,zJ,zK,zL,zM,zN,zO,zP,zQ,zR,zS,zT,zU,zV,zW,zX,zY,zZ,z0,z5,z6,z7,z8,z9,qa,qb,qc,qd,qe,qf,qg,qh,qi,qj,qk,ql,qm,qo,qp,qr,qt,qw,qx,qy,qz,qA,qB,qC,qD,qE,qF,qG,qH,qI,qJ,qK,qL,qM,qN,qO,qP,qQ,qR,qS,qT,qX,qY,qZ,q0,q5,qU,Nat.reduceBEq,qV,qW,if_true,if_false,q6,reduceCtorEq,Nat.reduceEqDiff,ne_eq,q7,q8,decide_true,decide_false,q9,ya]
 have hnf : 2 ≤ τ10.length := by have := get_lt (y10 _ _ h1); lia
 refine line_ok a1 (by lia) lpos (by lia) hnf fun l' τ11 hA' x11 => ?_
 have y11 := y10.trans x11
 simp (disch := decide) only [zc, zf,zg,zh,zi,zj,zk,zl,zm,zn,zo,zp,zq,zr,zt,zu,zv,zw,zx,zy,zz,zA,zB,zC,zD,zE,zF,zG,zH,zI,zJ,zK,zL,zM,zN,zO,zP,zQ,zR,zS,zT,zU,zV,zW,zX,zY,zZ,z0,z5,z6,z7,z8,z9,qa,qb,qc,qd,qe,qf,qg,qh,qi,qj,qk,ql,qm,qo,qp,qr,qt,qw,qx,qy,qz,qA,qB,qC,qD,qE,qF,qG,qH,qI,qJ,qK,qL,qM,qN,qO,qP,qQ,qR,qS,qT,qX,qY,qZ,q0,q5,qU,Nat.reduceBEq,qV,qW,if_true,if_false,q6,reduceCtorEq,Nat.reduceEqDiff,ne_eq,q7,q8,decide_true,decide_false,q9,ya]
 refine end_ok hA' (y11 _ _ h1) (by have := get_lt (y11 _ _ h1); lia) upd_at
end
theorem ok_true {x : X V} {σ : H} (h : Ok x σ (fun v _ => v = .bool true)) : ∃ σ', x σ = some (.ok (.bool true), σ') := by
 obtain ⟨v, σ', h, rfl⟩ := ok_iff.mp h
 exact ⟨σ', h⟩
theorem plainH (ns : List Int) (x : X V) (σ₀ : H) (hx : x = run prog 1000 21 false 74 [.ref 0]) (hz : σ₀.get 0 = some (.list (ns.map .int))) (h1 : σ₀.get 1 = some (.dict words)) : ∃ σ', x σ₀ = some (.ok (.bool true), σ') := by
 refine ok_true ?_
 rw [hx]
 clear hx
 rw [ok_run (fd := f_law) rfl rfl]
 unfold f_law
 refine oks_step rfl ?_
 simp (disch := decide) only [zf,zg,zh,zi,zj,zk,zl,zm,zn,zo,zp,zq,zr,zt,zu,zv,zw,zx,zy,zz,zA,zB,zC,zD,zE,zF,zG,zH,zI,zJ,zK,zL,zM,zN,zO,zP,zQ,zR,zS,zT,zU,zV,zW,zX,zY,zZ,z0,z5,z6,z7,z8,z9,qa,qb,qc,qd,qe,qf,qg,qh,qi,qj,qk,ql,qm,qo,qp,qr,qt,qw,qx,qy,qz,qA,qB,qC,qD,qE,qF,qG,qH,qI,qJ,qK,qL,qM,qN,qO,qP,qQ,qR,qS,qT,qX,qY,qZ,q0,q5,qU,Nat.reduceBEq,qV,qW,if_true,if_false,q6,reduceCtorEq,Nat.reduceEqDiff,ne_eq,q7,q8,decide_true,decide_false,q9,ya]
 change Ok (alloc (.list [V.str (Str.ofString "make"), V.str (Str.ofString "hold"), V.str (Str.ofString "drop"), V.str (Str.ofString "put"), V.str (Str.ofString "empty"), V.str (Str.ofString "take"), V.str (Str.ofString "tidy")])) σ₀ _
 rw [w7_eq, ok_alloc (show okO (.list (wl.map fun q => V.str (strL q.1))) = true from rfl)]
 have x1 : Ext σ₀ (σ₀.push (.list (wl.map fun q => V.str (strL q.1)))) := (Ext.refl _).push _
 have g1 : (σ₀.push (.list (wl.map fun q => V.str (strL q.1)))).get σ₀.length = some (.list (wl.map fun q => V.str (strL q.1))) := get_push_eq
 generalize σ₀.push (.list (wl.map fun q => V.str (strL q.1))) = τ at *
 have hz1 := x1 _ _ hz
 simp (disch := decide) only [zf,zg,zh,zi,zj,zk,zl,zm,zn,zo,zp,zq,zr,zt,zu,zv,zw,zx,zy,zz,zA,zB,zC,zD,zE,zF,zG,zH,zI,zJ,zK,zL,zM,zN,zO,zP,zQ,zR,zS,zT,zU,zV,zW,zX,zY,zZ,z0,z5,z6,z7,z8,z9,qa,qb,qc,qd,qe,qf,qg,qh,qi,qj,qk,ql,qm,qo,qp,qr,qt,qw,qx,qy,qz,qA,qB,qC,qD,qE,qF,qG,qH,qI,qJ,qK,qL,qM,qN,qO,qP,qQ,qR,qS,qT,qX,qY,qZ,q0,q5,qU,Nat.reduceBEq,qV,qW,if_true,if_false,q6,reduceCtorEq,Nat.reduceEqDiff,ne_eq,q7,q8,decide_true,decide_false,q9,ya]
 refine cell_ok (k := 0) hz1 ?_
 obtain ⟨k, hk1, hk2⟩ := fmod_nat (a := cellAt ns 0) (b := 7) (by decide)
 have hk : k < wl.length := by show k < 7; lia
 have ig : (wl.map fun q => V.str (strL q.1))[((k : Int)).toNat]? = some (.str (strL wl[k].1)) := by rw [Int.toNat_natCast, List.getElem?_map, List.getElem?_eq_getElem hk]; rfl
 simp (disch := decide) only [ok_mod (b := 7) (by decide), hk1, ok_getList g1 (Int.natCast_nonneg _) ig, zf,zg,zh,zi,zj,zk,zl,zm,zn,zo,zp,zq,zr,zt,zu,zv,zw,zx,zy,zz,zA,zB,zC,zD,zE,zF,zG,zH,zI,zJ,zK,zL,zM,zN,zO,zP,zQ,zR,zS,zT,zU,zV,zW,zX,zY,zZ,z0,z5,z6,z7,z8,z9,qa,qb,qc,qd,qe,qf,qg,qh,qi,qj,qk,ql,qm,qo,qp,qr,qt,qw,qx,qy,qz,qA,qB,qC,qD,qE,qF,qG,qH,qI,qJ,qK,qL,qM,qN,qO,qP,qQ,qR,qS,qT,qX,qY,qZ,q0,q5,qU,Nat.reduceBEq,qV,qW,if_true,if_false,q6,reduceCtorEq,Nat.reduceEqDiff,ne_eq,q7,q8,decide_true,decide_false,q9,ya]
 have hq := List.getElem_mem hk
 generalize wl[k] = q at *
 obtain ⟨p, m⟩ := q
 refine then_step rfl ?_
 simp (disch := decide) only [zf,zg,zh,zi,zj,zk,zl,zm,zn,zo,zp,zq,zr,zt,zu,zv,zw,zx,zy,zz,zA,zB,zC,zD,zE,zF,zG,zH,zI,zJ,zK,zL,zM,zN,zO,zP,zQ,zR,zS,zT,zU,zV,zW,zX,zY,zZ,z0,z5,z6,z7,z8,z9,qa,qb,qc,qd,qe,qf,qg,qh,qi,qj,qk,ql,qm,qo,qp,qr,qt,qw,qx,qy,qz,qA,qB,qC,qD,qE,qF,qG,qH,qI,qJ,qK,qL,qM,qN,qO,qP,qQ,qR,qS,qT,qX,qY,qZ,q0,q5,qU,Nat.reduceBEq,qV,qW,if_true,if_false,q6,reduceCtorEq,Nat.reduceEqDiff,ne_eq,q7,q8,decide_true,decide_false,q9,ya]
 refine then_step rfl ?_
 simp (disch := decide) only [zf,zg,zh,zi,zj,zk,zl,zm,zn,zo,zp,zq,zr,zt,zu,zv,zw,zx,zy,zz,zA,zB,zC,zD,zE,zF,zG,zH,zI,zJ,zK,zL,zM,zN,zO,zP,zQ,zR,zS,zT,zU,zV,zW,zX,zY,zZ,z0,z5,z6,z7,z8,z9,qa,qb,qc,qd,qe,qf,qg,qh,qi,qj,qk,ql,qm,qo,qp,qr,qt,qw,qx,qy,qz,qA,qB,qC,qD,qE,qF,qG,qH,qI,qJ,qK,qL,qM,qN,qO,qP,qQ,qR,qS,qT,qX,qY,qZ,q0,q5,qU,Nat.reduceBEq,qV,qW,if_true,if_false,q6,reduceCtorEq,Nat.reduceEqDiff,ne_eq,q7,q8,decide_true,decide_false,q9,ya]
 refine cell_ok (k := 1) hz1 ?_
 simp (disch := decide) only [ok_mod (b := 3) (by decide), ok_eqI, ok_truthb, zf,zg,zh,zi,zj,zk,zl,zm,zn,zo,zp,zq,zr,zt,zu,zv,zw,zx,zy,zz,zA,zB,zC,zD,zE,zF,zG,zH,zI,zJ,zK,zL,zM,zN,zO,zP,zQ,zR,zS,zT,zU,zV,zW,zX,zY,zZ,z0,z5,z6,z7,z8,z9,qa,qb,qc,qd,qe,qf,qg,qh,qi,qj,qk,ql,qm,qo,qp,qr,qt,qw,qx,qy,qz,qA,qB,qC,qD,qE,qF,qG,qH,qI,qJ,qK,qL,qM,qN,qO,qP,qQ,qR,qS,qT,qX,qY,qZ,q0,q5,qU,Nat.reduceBEq,qV,qW,if_true,if_false,q6,reduceCtorEq,Nat.reduceEqDiff,ne_eq,q7,q8,decide_true,decide_false,q9,ya]
 cases decide (Int.fmod (cellAt ns 1) 3 = 1) with
 | true =>
  simp (disch := decide) only [zf,zg,zh,zi,zj,zk,zl,zm,zn,zo,zp,zq,zr,zt,zu,zv,zw,zx,zy,zz,zA,zB,zC,zD,zE,zF,zG,zH,zI,zJ,zK,zL,zM,zN,zO,zP,zQ,zR,zS,zT,zU,zV,zW,zX,zY,zZ,z0,z5,z6,z7,z8,z9,qa,qb,qc,qd,qe,qf,qg,qh,qi,qj,qk,ql,qm,qo,qp,qr,qt,qw,qx,qy,qz,qA,qB,qC,qD,qE,qF,qG,qH,qI,qJ,qK,qL,qM,qN,qO,qP,qQ,qR,qS,qT,qX,qY,qZ,q0,q5,qU,Nat.reduceBEq,qV,qW,if_true,if_false,q6,reduceCtorEq,Nat.reduceEqDiff,ne_eq,q7,q8,decide_true,decide_false,q9,ya]
  refine oks_step rfl ?_
  simp (disch := decide) only [ok_pow, zb, zc, zf,zg,zh,zi,zj,zk,zl,zm,zn,zo,zp,zq,zr,zt,zu,zv,zw,zx,zy,zz,zA,zB,zC,zD,zE,zF,zG,zH,zI,zJ,zK,zL,zM,zN,zO,zP,zQ,zR,zS,zT,zU,zV,zW,zX,zY,zZ,z0,z5,z6,z7,z8,z9,qa,qb,qc,qd,qe,qf,qg,qh,qi,qj,qk,ql,qm,qo,qp,qr,qt,qw,qx,qy,qz,qA,qB,qC,qD,qE,qF,qG,qH,qI,qJ,qK,qL,qM,qN,qO,qP,qQ,qR,qS,qT,qX,qY,qZ,q0,q5,qU,Nat.reduceBEq,qV,qW,if_true,if_false,q6,reduceCtorEq,Nat.reduceEqDiff,ne_eq,q7,q8,decide_true,decide_false,q9,ya]
  exact mid_ok hq hz1 (x1 _ _ h1) (by decide) (Nat.le_refl _) rfl rfl rfl
 | false =>
  simp (disch := decide) only [zb, zc, zf,zg,zh,zi,zj,zk,zl,zm,zn,zo,zp,zq,zr,zt,zu,zv,zw,zx,zy,zz,zA,zB,zC,zD,zE,zF,zG,zH,zI,zJ,zK,zL,zM,zN,zO,zP,zQ,zR,zS,zT,zU,zV,zW,zX,zY,zZ,z0,z5,z6,z7,z8,z9,qa,qb,qc,qd,qe,qf,qg,qh,qi,qj,qk,ql,qm,qo,qp,qr,qt,qw,qx,qy,qz,qA,qB,qC,qD,qE,qF,qG,qH,qI,qJ,qK,qL,qM,qN,qO,qP,qQ,qR,qS,qT,qX,qY,qZ,q0,q5,qU,Nat.reduceBEq,qV,qW,if_true,if_false,q6,reduceCtorEq,Nat.reduceEqDiff,ne_eq,q7,q8,decide_true,decide_false,q9,ya]
  exact mid_ok (large := 10) hq hz1 (x1 _ _ h1) (by decide) (by decide) rfl rfl rfl
theorem plain (ns : List Int) (hns : ns.length ≤ 63) : ∃ σ', run prog 1000 21 false 74 [.ref 0] [.list (ns.map .int), .dict words] = some (.ok (.bool true), σ') := plainH ns _ _ rfl rfl rfl
end Mine.Internal.L05
set_option Elab.async false
set_option maxRecDepth 100000
set_option maxHeartbeats 8000000
open PySem PySem.W PyProof.Rows
theorem PySem.Challenge.cw_uf040002_05_holds : PySem.Challenge.rw_uf040002_05.Holds := by
 w_on
 refine holds_law Mine.Internal.K05.WS fun said => ?_
 refine holds_open (q := Mine.Internal.K05.q) (loose := [Str.ofString "WORDS"]) (Xt := fun s => xlAt Mine.Internal.K05.q [] s && recOk (RowW.records (PySem.Challenge.rw_uf040002_05.row.toRowW)) s) (XP := XL Mine.Internal.K05.q []) (Yf := Hook.obs Mine.Internal.K05.Hk) (Ya := Hook.val Mine.Internal.K05.Hk) (YP := Hook.says Mine.Internal.K05.Hk) (N := 6000) Mine.Internal.K05.HL (Hook.of Mine.Internal.K05.Hk) (Hook.keeps Mine.Internal.K05.Hk) (fun s e => xl_of s (Bool.and_eq_true_iff.mp e).1) XL.keeps (by rfl) (by rfl) (by rfl) (fun s e => recFacts_of (Bool.and_eq_true_iff.mp e).2) (by rfl) (by first | assumption | decide +kernel) (by decide +kernel) ⟨rfl, rfl, rfl, rfl, rfl, by decide +kernel⟩ ?hw ?hc
 case hw => w_witness2
 intro w s₀ s₁ mg mb G Y fa o pm cd doc dV kV ho hd hcd hD hmg hg args vals as hpre hlay hrd hwl hlo
 have KX := kIn_of Y
 refine Ground.open G ?_
 intro T B D TE TW
 try (refine guard_noD D (by decide +kernel) ?_; clear D)
 have hlo' := hlo
 wrow_args hpre hlay hrd hwl hlo
 refine enter_call ?_
 refine codeAny_mono ?_ (fun _ _ g => GoodW.toG g)
 rename_i ns hs1 hs2 hs3 hs4 hs5 as1 as2 A vs as3 hIL hra hwell hrd1 hI hrd2 hc1 hc2
 have hfa : Value.ref fa = .ref 197 := by
  have e : nsIn (Mine.Internal.K05.K w.params) mainGlobals (Str.ofString "law") = some (some (.ref 197)) := by kernel_rfl
  have := mg_of KX T.g e
  have h2 : mg (Str.ofString "law") = some (.ref fa) := hmg
  rw [this] at h2; exact (Option.some.inj h2).symm
 have hfa : fa = 197 := by cases hfa; rfl
 rw [hfa]
 have hlen : ns.length ≤ 63 := by lia
 obtain ⟨σ', hrun⟩ := Mine.Internal.L05.plain ns hlen
 have hL : s₁.heap.get? A = some (W.listOf vs.toArray 0) := by
  obtain ⟨o1, g1, g2, n, g3⟩ := hIL
  cases hwell with
  | list q1 q2 =>
   rw [g1] at q1
   cases q1
   cases g3
   exact g1
 have hA : (A == sysModules) = false := by
  refine hlo' A ?_
  cases hrd1 with
  | list => simp
 have hW : s₁.heap.get? 100 = some (dictOf (Mine.Internal.L05.ps.map (Mine.Internal.wEnt w.params)) 7) := KX 100 _ (by kernel_rfl)
 have KX2 : (Mine.Internal.K05.K2 w.params).In s₁.heap := fun a o e => by
  have e2 : (Mine.Internal.K05.K2 w.params).lookup 100 = none := by kernel_rfl
  have e3 : (a == 100) = false := beq_eq_false_iff_ne.mpr fun q => by rw [q, e2] at e; cases e
  refine KX a o ?_
  show List.lookup a ((100, Mine.Internal.K05.wO w.params) :: Mine.Internal.K05.K2 w.params) = some o
  rw [List.lookup_cons, e3]
  exact e
 refine Mine.Internal.law_main (K := Mine.Internal.K05.K2 w.params) (T := Mine.Internal.L05.T05) (P := Mine.Internal.L05.prog) (clsL := Mine.Internal.L05.clsL) (fnL := Mine.Internal.L05.fnL) (meL := Mine.Internal.L05.meL) (exL := Mine.Internal.L05.exL) (xP := 24) (W₀ := 100) (by kernel_rfl) (by kernel_rfl) (by kernel_rfl) (by kernel_rfl) rfl (lid := 74) rfl KX2 T.g T.b T.builtins T.nolimit hL hA hI (by show ns.length ≤ 1000000; lia) (ps := Mine.Internal.L05.ps) hW (by decide) (by decide) (by decide) (d := 20) (by decide) hrun fun h' tk keep => ?_
 refine ⟨.inl ⟨_, .bool true, [], rfl, fun _ => rfl, .bool true, by kernel_rfl, fun _ => ⟨List.nodup_nil, fun _ h => nomatch h⟩⟩, keep, rfl, hg⟩
