import PyProof.Rows.All
import Wide.All
import OpenK.AllK
import Wide.FinOn
import Lean
import PySem.Challenge.RW_nt0486_01
set_option maxRecDepth 100000
set_option maxHeartbeats 8000000
set_option Elab.async false
set_option linter.all false
set_option compiler.extract_closed false
namespace Mine
section
open PySem PySem.W PySem.Spec PySem.Calls PyProof.Rows
set_option maxRecDepth 1000000
set_option maxHeartbeats 0
noncomputable def stAt (i : Nat) : Stmt := match PySem.Challenge.pw_nt0486_01.main.body[i]? with
  | some s => s
  | none => .Pass ⟨0, 0, 0, 0⟩
noncomputable def inCls : Stmt → Stmt
  | .ClassDef _ _ _ (s :: _) _ _ _ _ _ _ _ => s
  | s => s
noncomputable def fnO (s : Stmt) (qual : String) (df : Value) (m : String) (mt cd : Nat) : Obj := match s with
  | .FunctionDef name args body _ _ _ scope _ _ _ =>
    { cls := .type "function", data := .func { name := name, qualname := Str.ofString qual, params := args, body := .stmts body, scope := scope, globals := 3, closure := [], defaults := df, kwdefaults := .none, pyModule := .str (Str.ofString m) mt, code := .ref cd } }
  | _ => { cls := .none }
noncomputable def hd.heap_39 : Params → Frag := fun P =>
  (nat_lit 2, { cls := .none, data := .dict #[{ hash := PyData.keyHash P (Str.ofString "type.__subclasses__.Exception.0"), key := .str (Str.ofString "type.__subclasses__.Exception.0") 216, val := .int 32 0 }, { hash := PyData.keyHash P (Str.ofString "type.__subclasses__.Exception.n"), key := .str (Str.ofString "type.__subclasses__.Exception.n") 217, val := .int 1 0 }] 2 }) ::
  (nat_lit 3, { cls := .type "dict", data := .dict #[{ hash := PyData.keyHash P (Str.ofString "__name__"), key := .str (Str.ofString "__name__") 165, val := .str (Str.ofString "law_nt0486_01") 455 }, { hash := PyData.keyHash P (Str.ofString "__doc__"), key := .str (Str.ofString "__doc__") 166, val := .none }, { hash := PyData.keyHash P (Str.ofString "__package__"), key := .str (Str.ofString "__package__") 167, val := .none }, { hash := PyData.keyHash P (Str.ofString "__loader__"), key := .str (Str.ofString "__loader__") 168, val := .builtin "__main__.__loader__#opaque" }, { hash := PyData.keyHash P (Str.ofString "__spec__"), key := .str (Str.ofString "__spec__") 169, val := .none }, { hash := PyData.keyHash P (Str.ofString "__annotations__"), key := .str (Str.ofString "__annotations__") 170, val := .ref 6 }, { hash := PyData.keyHash P (Str.ofString "__builtins__"), key := .str (Str.ofString "__builtins__") 171, val := .ref 4 }, { hash := PyData.keyHash P (Str.ofString "__file__"), key := .str (Str.ofString "__file__") 173, val := .str (Str.ofString "/claim/cut.py") 172 }, { hash := PyData.keyHash P (Str.ofString "__cached__"), key := .str (Str.ofString "__cached__") 174, val := .none }, { hash := PyData.keyHash P (Str.ofString "GRAIN"), key := .str (Str.ofString "GRAIN") 190, val := .int 1000000 189 }, { hash := PyData.keyHash P (Str.ofString "PostError"), key := .str (Str.ofString "PostError") 219, val := .ref 32 }, { hash := PyData.keyHash P (Str.ofString "PsError"), key := .str (Str.ofString "PsError") 235, val := .ref 45 }, { hash := PyData.keyHash P (Str.ofString "FINE"), key := .str (Str.ofString "FINE") 241, val := .int 1000000000000000000000000000000000000 240 }, { hash := PyData.keyHash P (Str.ofString "PI_FINE"), key := .str (Str.ofString "PI_FINE") 243, val := .int 3141592653589793238462643383279502884 242 }, { hash := PyData.keyHash P (Str.ofString "QUARTER"), key := .str (Str.ofString "QUARTER") 246, val := .int 90000000 245 }, { hash := PyData.keyHash P (Str.ofString "HALF_TURN"), key := .str (Str.ofString "HALF_TURN") 249, val := .int 180000000 248 }, { hash := PyData.keyHash P (Str.ofString "WHOLE_TURN"), key := .str (Str.ofString "WHOLE_TURN") 252, val := .int 360000000 251 }, { hash := PyData.keyHash P (Str.ofString "divided"), key := .str (Str.ofString "divided") 263, val := .ref 54 }, { hash := PyData.keyHash P (Str.ofString "fine_product"), key := .str (Str.ofString "fine_product") 271, val := .ref 61 }, { hash := PyData.keyHash P (Str.ofString "fine_sine_near"), key := .str (Str.ofString "fine_sine_near") 282, val := .ref 68 }, { hash := PyData.keyHash P (Str.ofString "fine_cosine_near"), key := .str (Str.ofString "fine_cosine_near") 294, val := .ref 75 }, { hash := PyData.keyHash P (Str.ofString "sine"), key := .str (Str.ofString "sine") 304, val := .ref 82 }, { hash := PyData.keyHash P (Str.ofString "cosine"), key := .str (Str.ofString "cosine") 311, val := .ref 89 }, { hash := PyData.keyHash P (Str.ofString "matrix_quotient"), key := .str (Str.ofString "matrix_quotient") 321, val := .ref 96 }, { hash := PyData.keyHash P (Str.ofString "identity"), key := .str (Str.ofString "identity") 327, val := .ref 103 }, { hash := PyData.keyHash P (Str.ofString "translation"), key := .str (Str.ofString "translation") 335, val := .ref 110 }, { hash := PyData.keyHash P (Str.ofString "scaling"), key := .str (Str.ofString "scaling") 343, val := .ref 117 }, { hash := PyData.keyHash P (Str.ofString "rotation"), key := .str (Str.ofString "rotation") 352, val := .ref 124 }, { hash := PyData.keyHash P (Str.ofString "concat"), key := .str (Str.ofString "concat") 360, val := .ref 131 }, { hash := PyData.keyHash P (Str.ofString "translated"), key := .str (Str.ofString "translated") 369, val := .ref 138 }, { hash := PyData.keyHash P (Str.ofString "scaled"), key := .str (Str.ofString "scaled") 378, val := .ref 145 }, { hash := PyData.keyHash P (Str.ofString "turned"), key := .str (Str.ofString "turned") 386, val := .ref 152 }, { hash := PyData.keyHash P (Str.ofString "determinant"), key := .str (Str.ofString "determinant") 393, val := .ref 159 }, { hash := PyData.keyHash P (Str.ofString "is_singular"), key := .str (Str.ofString "is_singular") 400, val := .ref 166 }, { hash := PyData.keyHash P (Str.ofString "need_regular"), key := .str (Str.ofString "need_regular") 408, val := .ref 173 }, { hash := PyData.keyHash P (Str.ofString "inverted"), key := .str (Str.ofString "inverted") 417, val := .ref 180 }, { hash := PyData.keyHash P (Str.ofString "transform"), key := .str (Str.ofString "transform") 426, val := .ref 187 }, { hash := PyData.keyHash P (Str.ofString "delta_transform"), key := .str (Str.ofString "delta_transform") 435, val := .ref 194 }, { hash := PyData.keyHash P (Str.ofString "inverse_delta"), key := .str (Str.ofString "inverse_delta") 445, val := .ref 201 }, { hash := PyData.keyHash P (Str.ofString "inverse_transform"), key := .str (Str.ofString "inverse_transform") 454, val := .ref 208 }, { hash := PyData.keyHash P (Str.ofString "_law_deck"), key := .str (Str.ofString "_law_deck") 462, val := .ref 213 }, { hash := PyData.keyHash P (Str.ofString "_law_draw"), key := .str (Str.ofString "_law_draw") 472, val := .ref 220 }, { hash := PyData.keyHash P (Str.ofString "_law_pick"), key := .str (Str.ofString "_law_pick") 480, val := .ref 227 }, { hash := PyData.keyHash P (Str.ofString "_law_grain"), key := .str (Str.ofString "_law_grain") 482, val := .int 1000000 481 }, { hash := PyData.keyHash P (Str.ofString "_law_near"), key := .str (Str.ofString "_law_near") 491, val := .ref 234 }, { hash := PyData.keyHash P (Str.ofString "_law_matrix"), key := .str (Str.ofString "_law_matrix") 497, val := .ref 239 }, { hash := PyData.keyHash P (Str.ofString "_law_put"), key := .str (Str.ofString "_law_put") 503, val := .ref 244 }, { hash := PyData.keyHash P (Str.ofString "_law_told"), key := .str (Str.ofString "_law_told") 512, val := .ref 251 }, { hash := PyData.keyHash P (Str.ofString "_law_points_right"), key := .str (Str.ofString "_law_points_right") 518, val := .ref 256 }, { hash := PyData.keyHash P (Str.ofString "law"), key := .str (Str.ofString "law") 536, val := .ref 263 }] 50 }) ::
  (nat_lit 15, { cls := .type "tuple", data := .seq #[.type "Exception"] }) ::
  (nat_lit 22, { cls := .type "tuple", data := .seq #[.none] }) ::
  (nat_lit 23, { cls := .type "tuple", data := .seq #[] }) ::
  (nat_lit 25, { cls := .type "tuple", data := .seq #[.str (Str.ofString "self") 206, .str (Str.ofString "told") 207] }) ::
  (nat_lit 26, { cls := .type "tuple", data := .seq #[] }) ::
  (nat_lit 28, { cls := .type "code", data := .fields #[.str (Str.ofString "__init__") 203, .str (Str.ofString "PostError.__init__") 204, .str (Str.ofString "/claim/cut.py") 205, .int 5 0, .int 2 0, .int 0 0, .int 0 0, .int 3 0, .ref 23, .bool true, .int 181 0, .ref 24, .none, .ref 25, .ref 26, .ref 27, .int 208 0, .int 5 0, .str (Str.ofString "/claim/cut.py") 209] }) ::
  (nat_lit 29, fnO (inCls (stAt 2)) "PostError.__init__" (Value.ref 22) "postcore.base" 187 28) ::
  (nat_lit 30, { cls := .type "tuple", data := .seq #[.str (Str.ofString "told") 211] }) ::
  (nat_lit 31, { cls := .type "dict", data := .dict #[{ hash := PyData.keyHash P (Str.ofString "__module__"), key := .str (Str.ofString "__module__") 198, val := .str (Str.ofString "postcore.base") 187 }, { hash := PyData.keyHash P (Str.ofString "__firstlineno__"), key := .str (Str.ofString "__firstlineno__") 202, val := .int 3 201 }, { hash := PyData.keyHash P (Str.ofString "__init__"), key := .str (Str.ofString "__init__") 210, val := .ref 29 }, { hash := PyData.keyHash P (Str.ofString "__static_attributes__"), key := .str (Str.ofString "__static_attributes__") 212, val := .ref 30 }, { hash := PyData.keyHash P (Str.ofString "__weakref__"), key := .str (Str.ofString "__weakref__") 214, val := .ref 33 }, { hash := PyData.keyHash P (Str.ofString "__doc__"), key := .str (Str.ofString "__doc__") 215, val := .none }] 3 }) ::
  (nat_lit 32, { cls := .type "type", data := .cls { name := Str.ofString "PostError", bases := [.type "Exception"], mro := [.ref 32, .type "Exception", .type "BaseException", .type "object"], ns := 31, qualname := Str.ofString "PostError", subclasses := [.ref 45] }, slots := #[some (.ref 15), none, some (.str (Str.ofString "PostError") 191), some (.str (Str.ofString "PostError") 199), some (.builtin "Exception.__new__"), some (.bool true)] }) ::
  (nat_lit 33, { cls := .type "getset_descriptor", data := .fields #[.str (Str.ofString "__weakref__") 213, .ref 32, .builtin "ExceptionGroup.__weakref__", .none] }) ::
  (nat_lit 36, { cls := .type "tuple", data := .seq #[.ref 32] }) ::
  (nat_lit 43, { cls := .type "tuple", data := .seq #[] }) ::
  (nat_lit 44, { cls := .type "dict", data := .dict #[{ hash := PyData.keyHash P (Str.ofString "__module__"), key := .str (Str.ofString "__module__") 227, val := .str (Str.ofString "postcore.base") 187 }, { hash := PyData.keyHash P (Str.ofString "__firstlineno__"), key := .str (Str.ofString "__firstlineno__") 231, val := .int 7 230 }, { hash := PyData.keyHash P (Str.ofString "__static_attributes__"), key := .str (Str.ofString "__static_attributes__") 232, val := .ref 43 }, { hash := PyData.keyHash P (Str.ofString "__doc__"), key := .str (Str.ofString "__doc__") 233, val := .none }] 2 }) ::
  (nat_lit 45, { cls := .type "type", data := .cls { name := Str.ofString "PsError", bases := [.ref 32], mro := [.ref 45, .ref 32, .type "Exception", .type "BaseException", .type "object"], ns := 44, qualname := Str.ofString "PsError" }, slots := #[some (.ref 36), none, some (.str (Str.ofString "PsError") 220), some (.str (Str.ofString "PsError") 228), some (.builtin "Exception.__new__"), some (.bool true)] }) ::
  (nat_lit 48, { cls := .type "tuple", data := .seq #[] }) ::
  (nat_lit 50, { cls := .type "tuple", data := .seq #[.str (Str.ofString "number") 256, .str (Str.ofString "by") 257, .str (Str.ofString "size") 258, .str (Str.ofString "parts") 259, .str (Str.ofString "found") 260] }) ::
  (nat_lit 51, { cls := .type "tuple", data := .seq #[] }) ::
  (nat_lit 53, { cls := .type "code", data := .fields #[.str (Str.ofString "divided") 253, .str (Str.ofString "divided") 254, .str (Str.ofString "/claim/cut.py") 255, .int 15 0, .int 2 0, .int 0 0, .int 0 0, .int 3 0, .ref 48, .bool true, .int 181 0, .ref 49, .none, .ref 50, .ref 51, .ref 52, .int 261 0, .int 15 0, .str (Str.ofString "/claim/cut.py") 262] }) ::
  (nat_lit 54, fnO (stAt 10) "divided" (Value.none) "postcore.numbers" 236 53) ::
  (nat_lit 55, { cls := .type "tuple", data := .seq #[] }) ::
  (nat_lit 57, { cls := .type "tuple", data := .seq #[.str (Str.ofString "one") 267, .str (Str.ofString "other") 268] }) ::
  (nat_lit 58, { cls := .type "tuple", data := .seq #[] }) ::
  (nat_lit 60, { cls := .type "code", data := .fields #[.str (Str.ofString "fine_product") 264, .str (Str.ofString "fine_product") 265, .str (Str.ofString "/claim/cut.py") 266, .int 19 0, .int 2 0, .int 0 0, .int 0 0, .int 3 0, .ref 55, .bool true, .int 181 0, .ref 56, .none, .ref 57, .ref 58, .ref 59, .int 269 0, .int 19 0, .str (Str.ofString "/claim/cut.py") 270] }) ::
  (nat_lit 61, fnO (stAt 11) "fine_product" (Value.none) "postcore.numbers" 236 60) ::
  (nat_lit 62, { cls := .type "tuple", data := .seq #[] }) ::
  (nat_lit 64, { cls := .type "tuple", data := .seq #[.str (Str.ofString "angle") 275, .str (Str.ofString "part") 276, .str (Str.ofString "square") 277, .str (Str.ofString "found") 278, .str (Str.ofString "count") 279] }) ::
  (nat_lit 65, { cls := .type "tuple", data := .seq #[] }) ::
  (nat_lit 67, { cls := .type "code", data := .fields #[.str (Str.ofString "fine_sine_near") 272, .str (Str.ofString "fine_sine_near") 273, .str (Str.ofString "/claim/cut.py") 274, .int 21 0, .int 1 0, .int 0 0, .int 0 0, .int 3 0, .ref 62, .bool true, .int 181 0, .ref 63, .none, .ref 64, .ref 65, .ref 66, .int 280 0, .int 21 0, .str (Str.ofString "/claim/cut.py") 281] }) ::
  (nat_lit 68, fnO (stAt 12) "fine_sine_near" (Value.none) "postcore.numbers" 236 67) ::
  (nat_lit 69, { cls := .type "tuple", data := .seq #[] }) ::
  (nat_lit 71, { cls := .type "tuple", data := .seq #[.str (Str.ofString "angle") 286, .str (Str.ofString "turned") 287, .str (Str.ofString "square") 288, .str (Str.ofString "found") 289, .str (Str.ofString "part") 290, .str (Str.ofString "count") 291] }) ::
  (nat_lit 72, { cls := .type "tuple", data := .seq #[] }) ::
  (nat_lit 74, { cls := .type "code", data := .fields #[.str (Str.ofString "fine_cosine_near") 283, .str (Str.ofString "fine_cosine_near") 284, .str (Str.ofString "/claim/cut.py") 285, .int 30 0, .int 1 0, .int 0 0, .int 0 0, .int 3 0, .ref 69, .bool true, .int 181 0, .ref 70, .none, .ref 71, .ref 72, .ref 73, .int 292 0, .int 30 0, .str (Str.ofString "/claim/cut.py") 293] }) ::
  (nat_lit 75, fnO (stAt 13) "fine_cosine_near" (Value.none) "postcore.numbers" 236 74) ::
  (nat_lit 76, { cls := .type "tuple", data := .seq #[] }) ::
  (nat_lit 78, { cls := .type "tuple", data := .seq #[.str (Str.ofString "angle") 298, .str (Str.ofString "left") 299, .str (Str.ofString "is_below") 300, .str (Str.ofString "found") 301] }) ::
  (nat_lit 79, { cls := .type "tuple", data := .seq #[] }) ::
  (nat_lit 81, { cls := .type "code", data := .fields #[.str (Str.ofString "sine") 295, .str (Str.ofString "sine") 296, .str (Str.ofString "/claim/cut.py") 297, .int 39 0, .int 1 0, .int 0 0, .int 0 0, .int 3 0, .ref 76, .bool true, .int 181 0, .ref 77, .none, .ref 78, .ref 79, .ref 80, .int 302 0, .int 39 0, .str (Str.ofString "/claim/cut.py") 303] }) ::
  (nat_lit 82, fnO (stAt 14) "sine" (Value.none) "postcore.numbers" 236 81) ::
  (nat_lit 83, { cls := .type "tuple", data := .seq #[] }) ::
  (nat_lit 85, { cls := .type "tuple", data := .seq #[.str (Str.ofString "angle") 308] }) ::
  (nat_lit 86, { cls := .type "tuple", data := .seq #[] }) ::
  (nat_lit 88, { cls := .type "code", data := .fields #[.str (Str.ofString "cosine") 305, .str (Str.ofString "cosine") 306, .str (Str.ofString "/claim/cut.py") 307, .int 48 0, .int 1 0, .int 0 0, .int 0 0, .int 3 0, .ref 83, .bool true, .int 181 0, .ref 84, .none, .ref 85, .ref 86, .ref 87, .int 309 0, .int 48 0, .str (Str.ofString "/claim/cut.py") 310] }) ::
  (nat_lit 89, fnO (stAt 15) "cosine" (Value.none) "postcore.numbers" 236 88) ::
  (nat_lit 90, { cls := .type "tuple", data := .seq #[] }) ::
  (nat_lit 92, { cls := .type "tuple", data := .seq #[.str (Str.ofString "number") 317, .str (Str.ofString "by") 318] }) ::
  (nat_lit 93, { cls := .type "tuple", data := .seq #[] }) ::
  (nat_lit 95, { cls := .type "code", data := .fields #[.str (Str.ofString "matrix_quotient") 314, .str (Str.ofString "matrix_quotient") 315, .str (Str.ofString "/claim/cut.py") 316, .int 51 0, .int 2 0, .int 0 0, .int 0 0, .int 3 0, .ref 90, .bool true, .int 181 0, .ref 91, .none, .ref 92, .ref 93, .ref 94, .int 319 0, .int 51 0, .str (Str.ofString "/claim/cut.py") 320] }) ::
  (nat_lit 96, fnO (stAt 17) "matrix_quotient" (Value.none) "postcore.matrices" 312 95) ::
  (nat_lit 97, { cls := .type "tuple", data := .seq #[] }) ::
  (nat_lit 99, { cls := .type "tuple", data := .seq #[] }) ::
  (nat_lit 100, { cls := .type "tuple", data := .seq #[] }) ::
  (nat_lit 102, { cls := .type "code", data := .fields #[.str (Str.ofString "identity") 322, .str (Str.ofString "identity") 323, .str (Str.ofString "/claim/cut.py") 324, .int 53 0, .int 0 0, .int 0 0, .int 0 0, .int 3 0, .ref 97, .bool true, .int 181 0, .ref 98, .none, .ref 99, .ref 100, .ref 101, .int 325 0, .int 53 0, .str (Str.ofString "/claim/cut.py") 326] }) ::
  (nat_lit 103, fnO (stAt 18) "identity" (Value.none) "postcore.matrices" 312 102) ::
  (nat_lit 104, { cls := .type "tuple", data := .seq #[] }) ::
  (nat_lit 106, { cls := .type "tuple", data := .seq #[.str (Str.ofString "x") 331, .str (Str.ofString "y") 332] }) ::
  (nat_lit 107, { cls := .type "tuple", data := .seq #[] }) ::
  (nat_lit 109, { cls := .type "code", data := .fields #[.str (Str.ofString "translation") 328, .str (Str.ofString "translation") 329, .str (Str.ofString "/claim/cut.py") 330, .int 55 0, .int 2 0, .int 0 0, .int 0 0, .int 3 0, .ref 104, .bool true, .int 181 0, .ref 105, .none, .ref 106, .ref 107, .ref 108, .int 333 0, .int 55 0, .str (Str.ofString "/claim/cut.py") 334] }) ::
  (nat_lit 110, fnO (stAt 19) "translation" (Value.none) "postcore.matrices" 312 109) ::
  (nat_lit 111, { cls := .type "tuple", data := .seq #[] }) ::
  (nat_lit 113, { cls := .type "tuple", data := .seq #[.str (Str.ofString "x") 339, .str (Str.ofString "y") 340] }) ::
  (nat_lit 114, { cls := .type "tuple", data := .seq #[] }) ::
  (nat_lit 116, { cls := .type "code", data := .fields #[.str (Str.ofString "scaling") 336, .str (Str.ofString "scaling") 337, .str (Str.ofString "/claim/cut.py") 338, .int 57 0, .int 2 0, .int 0 0, .int 0 0, .int 3 0, .ref 111, .bool true, .int 181 0, .ref 112, .none, .ref 113, .ref 114, .ref 115, .int 341 0, .int 57 0, .str (Str.ofString "/claim/cut.py") 342] }) ::
  (nat_lit 117, fnO (stAt 20) "scaling" (Value.none) "postcore.matrices" 312 116) ::
  (nat_lit 118, { cls := .type "tuple", data := .seq #[] }) ::
  (nat_lit 120, { cls := .type "tuple", data := .seq #[.str (Str.ofString "degrees") 347, .str (Str.ofString "near") 348, .str (Str.ofString "far") 349] }) ::
  (nat_lit 121, { cls := .type "tuple", data := .seq #[] }) ::
  (nat_lit 123, { cls := .type "code", data := .fields #[.str (Str.ofString "rotation") 344, .str (Str.ofString "rotation") 345, .str (Str.ofString "/claim/cut.py") 346, .int 59 0, .int 1 0, .int 0 0, .int 0 0, .int 3 0, .ref 118, .bool true, .int 181 0, .ref 119, .none, .ref 120, .ref 121, .ref 122, .int 350 0, .int 59 0, .str (Str.ofString "/claim/cut.py") 351] }) ::
  (nat_lit 124, fnO (stAt 21) "rotation" (Value.none) "postcore.matrices" 312 123) ::
  (nat_lit 125, { cls := .type "tuple", data := .seq #[] }) ::
  (nat_lit 127, { cls := .type "tuple", data := .seq #[.str (Str.ofString "m") 356, .str (Str.ofString "n") 357] }) ::
  (nat_lit 128, { cls := .type "tuple", data := .seq #[] }) ::
  (nat_lit 130, { cls := .type "code", data := .fields #[.str (Str.ofString "concat") 353, .str (Str.ofString "concat") 354, .str (Str.ofString "/claim/cut.py") 355, .int 62 0, .int 2 0, .int 0 0, .int 0 0, .int 3 0, .ref 125, .bool true, .int 181 0, .ref 126, .none, .ref 127, .ref 128, .ref 129, .int 358 0, .int 62 0, .str (Str.ofString "/claim/cut.py") 359] }) ::
  (nat_lit 131, fnO (stAt 22) "concat" (Value.none) "postcore.matrices" 312 130) ::
  (nat_lit 132, { cls := .type "tuple", data := .seq #[] }) ::
  (nat_lit 134, { cls := .type "tuple", data := .seq #[.str (Str.ofString "m") 364, .str (Str.ofString "x") 365, .str (Str.ofString "y") 366] }) ::
  (nat_lit 135, { cls := .type "tuple", data := .seq #[] }) ::
  (nat_lit 137, { cls := .type "code", data := .fields #[.str (Str.ofString "translated") 361, .str (Str.ofString "translated") 362, .str (Str.ofString "/claim/cut.py") 363, .int 64 0, .int 3 0, .int 0 0, .int 0 0, .int 3 0, .ref 132, .bool true, .int 181 0, .ref 133, .none, .ref 134, .ref 135, .ref 136, .int 367 0, .int 64 0, .str (Str.ofString "/claim/cut.py") 368] }) ::
  (nat_lit 138, fnO (stAt 23) "translated" (Value.none) "postcore.matrices" 312 137) ::
  (nat_lit 139, { cls := .type "tuple", data := .seq #[] }) ::
  (nat_lit 141, { cls := .type "tuple", data := .seq #[.str (Str.ofString "m") 373, .str (Str.ofString "x") 374, .str (Str.ofString "y") 375] }) ::
  (nat_lit 142, { cls := .type "tuple", data := .seq #[] }) ::
  (nat_lit 144, { cls := .type "code", data := .fields #[.str (Str.ofString "scaled") 370, .str (Str.ofString "scaled") 371, .str (Str.ofString "/claim/cut.py") 372, .int 66 0, .int 3 0, .int 0 0, .int 0 0, .int 3 0, .ref 139, .bool true, .int 181 0, .ref 140, .none, .ref 141, .ref 142, .ref 143, .int 376 0, .int 66 0, .str (Str.ofString "/claim/cut.py") 377] }) ::
  (nat_lit 145, fnO (stAt 24) "scaled" (Value.none) "postcore.matrices" 312 144) ::
  (nat_lit 146, { cls := .type "tuple", data := .seq #[] }) ::
  (nat_lit 148, { cls := .type "tuple", data := .seq #[.str (Str.ofString "m") 382, .str (Str.ofString "degrees") 383] }) ::
  (nat_lit 149, { cls := .type "tuple", data := .seq #[] }) ::
  (nat_lit 151, { cls := .type "code", data := .fields #[.str (Str.ofString "turned") 379, .str (Str.ofString "turned") 380, .str (Str.ofString "/claim/cut.py") 381, .int 68 0, .int 2 0, .int 0 0, .int 0 0, .int 3 0, .ref 146, .bool true, .int 181 0, .ref 147, .none, .ref 148, .ref 149, .ref 150, .int 384 0, .int 68 0, .str (Str.ofString "/claim/cut.py") 385] }) ::
  (nat_lit 152, fnO (stAt 25) "turned" (Value.none) "postcore.matrices" 312 151) ::
  (nat_lit 153, { cls := .type "tuple", data := .seq #[] }) ::
  (nat_lit 155, { cls := .type "tuple", data := .seq #[.str (Str.ofString "m") 390] }) ::
  (nat_lit 156, { cls := .type "tuple", data := .seq #[] }) ::
  (nat_lit 158, { cls := .type "code", data := .fields #[.str (Str.ofString "determinant") 387, .str (Str.ofString "determinant") 388, .str (Str.ofString "/claim/cut.py") 389, .int 70 0, .int 1 0, .int 0 0, .int 0 0, .int 3 0, .ref 153, .bool true, .int 181 0, .ref 154, .none, .ref 155, .ref 156, .ref 157, .int 391 0, .int 70 0, .str (Str.ofString "/claim/cut.py") 392] }) ::
  (nat_lit 159, fnO (stAt 26) "determinant" (Value.none) "postcore.matrices" 312 158) ::
  (nat_lit 160, { cls := .type "tuple", data := .seq #[] }) ::
  (nat_lit 162, { cls := .type "tuple", data := .seq #[.str (Str.ofString "m") 397] }) ::
  (nat_lit 163, { cls := .type "tuple", data := .seq #[] }) ::
  (nat_lit 165, { cls := .type "code", data := .fields #[.str (Str.ofString "is_singular") 394, .str (Str.ofString "is_singular") 395, .str (Str.ofString "/claim/cut.py") 396, .int 72 0, .int 1 0, .int 0 0, .int 0 0, .int 3 0, .ref 160, .bool true, .int 181 0, .ref 161, .none, .ref 162, .ref 163, .ref 164, .int 398 0, .int 72 0, .str (Str.ofString "/claim/cut.py") 399] }) ::
  (nat_lit 166, fnO (stAt 27) "is_singular" (Value.none) "postcore.matrices" 312 165) ::
  (nat_lit 167, { cls := .type "tuple", data := .seq #[] }) ::
  (nat_lit 169, { cls := .type "tuple", data := .seq #[.str (Str.ofString "m") 404, .str (Str.ofString "found") 405] }) ::
  (nat_lit 170, { cls := .type "tuple", data := .seq #[] }) ::
  (nat_lit 172, { cls := .type "code", data := .fields #[.str (Str.ofString "need_regular") 401, .str (Str.ofString "need_regular") 402, .str (Str.ofString "/claim/cut.py") 403, .int 74 0, .int 1 0, .int 0 0, .int 0 0, .int 3 0, .ref 167, .bool true, .int 181 0, .ref 168, .none, .ref 169, .ref 170, .ref 171, .int 406 0, .int 74 0, .str (Str.ofString "/claim/cut.py") 407] }) ::
  (nat_lit 173, fnO (stAt 28) "need_regular" (Value.none) "postcore.matrices" 312 172) ::
  (nat_lit 174, { cls := .type "tuple", data := .seq #[] }) ::
  (nat_lit 176, { cls := .type "tuple", data := .seq #[.str (Str.ofString "m") 412, .str (Str.ofString "by") 413, .str (Str.ofString "grain") 414] }) ::
  (nat_lit 177, { cls := .type "tuple", data := .seq #[] }) ::
  (nat_lit 179, { cls := .type "code", data := .fields #[.str (Str.ofString "inverted") 409, .str (Str.ofString "inverted") 410, .str (Str.ofString "/claim/cut.py") 411, .int 79 0, .int 1 0, .int 0 0, .int 0 0, .int 3 0, .ref 174, .bool true, .int 181 0, .ref 175, .none, .ref 176, .ref 177, .ref 178, .int 415 0, .int 79 0, .str (Str.ofString "/claim/cut.py") 416] }) ::
  (nat_lit 180, fnO (stAt 29) "inverted" (Value.none) "postcore.matrices" 312 179) ::
  (nat_lit 181, { cls := .type "tuple", data := .seq #[] }) ::
  (nat_lit 183, { cls := .type "tuple", data := .seq #[.str (Str.ofString "m") 421, .str (Str.ofString "x") 422, .str (Str.ofString "y") 423] }) ::
  (nat_lit 184, { cls := .type "tuple", data := .seq #[] }) ::
  (nat_lit 186, { cls := .type "code", data := .fields #[.str (Str.ofString "transform") 418, .str (Str.ofString "transform") 419, .str (Str.ofString "/claim/cut.py") 420, .int 83 0, .int 3 0, .int 0 0, .int 0 0, .int 3 0, .ref 181, .bool true, .int 181 0, .ref 182, .none, .ref 183, .ref 184, .ref 185, .int 424 0, .int 83 0, .str (Str.ofString "/claim/cut.py") 425] }) ::
  (nat_lit 187, fnO (stAt 30) "transform" (Value.none) "postcore.matrices" 312 186) ::
  (nat_lit 188, { cls := .type "tuple", data := .seq #[] }) ::
  (nat_lit 190, { cls := .type "tuple", data := .seq #[.str (Str.ofString "m") 430, .str (Str.ofString "x") 431, .str (Str.ofString "y") 432] }) ::
  (nat_lit 191, { cls := .type "tuple", data := .seq #[] }) ::
  (nat_lit 193, { cls := .type "code", data := .fields #[.str (Str.ofString "delta_transform") 427, .str (Str.ofString "delta_transform") 428, .str (Str.ofString "/claim/cut.py") 429, .int 85 0, .int 3 0, .int 0 0, .int 0 0, .int 3 0, .ref 188, .bool true, .int 181 0, .ref 189, .none, .ref 190, .ref 191, .ref 192, .int 433 0, .int 85 0, .str (Str.ofString "/claim/cut.py") 434] }) ::
  (nat_lit 194, fnO (stAt 31) "delta_transform" (Value.none) "postcore.matrices" 312 193) ::
  (nat_lit 195, { cls := .type "tuple", data := .seq #[] }) ::
  (nat_lit 197, { cls := .type "tuple", data := .seq #[.str (Str.ofString "m") 439, .str (Str.ofString "x") 440, .str (Str.ofString "y") 441, .str (Str.ofString "by") 442] }) ::
  (nat_lit 198, { cls := .type "tuple", data := .seq #[] }) ::
  (nat_lit 200, { cls := .type "code", data := .fields #[.str (Str.ofString "inverse_delta") 436, .str (Str.ofString "inverse_delta") 437, .str (Str.ofString "/claim/cut.py") 438, .int 87 0, .int 3 0, .int 0 0, .int 0 0, .int 3 0, .ref 195, .bool true, .int 181 0, .ref 196, .none, .ref 197, .ref 198, .ref 199, .int 443 0, .int 87 0, .str (Str.ofString "/claim/cut.py") 444] }) ::
  (nat_lit 201, fnO (stAt 32) "inverse_delta" (Value.none) "postcore.matrices" 312 200) ::
  (nat_lit 202, { cls := .type "tuple", data := .seq #[] }) ::
  (nat_lit 204, { cls := .type "tuple", data := .seq #[.str (Str.ofString "m") 449, .str (Str.ofString "x") 450, .str (Str.ofString "y") 451] }) ::
  (nat_lit 205, { cls := .type "tuple", data := .seq #[] }) ::
  (nat_lit 207, { cls := .type "code", data := .fields #[.str (Str.ofString "inverse_transform") 446, .str (Str.ofString "inverse_transform") 447, .str (Str.ofString "/claim/cut.py") 448, .int 90 0, .int 3 0, .int 0 0, .int 0 0, .int 3 0, .ref 202, .bool true, .int 181 0, .ref 203, .none, .ref 204, .ref 205, .ref 206, .int 452 0, .int 90 0, .str (Str.ofString "/claim/cut.py") 453] }) ::
  (nat_lit 208, fnO (stAt 33) "inverse_transform" (Value.none) "postcore.matrices" 312 207) ::
  (nat_lit 209, { cls := .type "tuple", data := .seq #[] }) ::
  (nat_lit 212, { cls := .type "code", data := .fields #[.str (Str.ofString "_law_deck") 457, .str (Str.ofString "_law_deck") 458, .str (Str.ofString "/claim/cut.py") 459, .int 93 0, .int 1 0, .int 0 0, .int 0 0, .int 3 0, .ref 209, .bool true, .int 181 0, .ref 210, .none, .none, .none, .ref 211, .int 460 0, .int 93 0, .str (Str.ofString "/claim/cut.py") 461] }) ::
  (nat_lit 213, fnO (stAt 35) "_law_deck" (Value.none) "law_nt0486_01" 455 212) ::
  (nat_lit 214, { cls := .type "tuple", data := .seq #[] }) ::
  (nat_lit 216, { cls := .type "tuple", data := .seq #[.str (Str.ofString "deck") 466, .str (Str.ofString "below") 467, .str (Str.ofString "figure") 468, .str (Str.ofString "cell") 469] }) ::
  (nat_lit 217, { cls := .type "tuple", data := .seq #[] }) ::
  (nat_lit 219, { cls := .type "code", data := .fields #[.str (Str.ofString "_law_draw") 463, .str (Str.ofString "_law_draw") 464, .str (Str.ofString "/claim/cut.py") 465, .int 98 0, .int 2 0, .int 0 0, .int 0 0, .int 3 0, .ref 214, .bool true, .int 181 0, .ref 215, .none, .ref 216, .ref 217, .ref 218, .int 470 0, .int 98 0, .str (Str.ofString "/claim/cut.py") 471] }) ::
  (nat_lit 220, fnO (stAt 36) "_law_draw" (Value.none) "law_nt0486_01" 455 219) ::
  (nat_lit 221, { cls := .type "tuple", data := .seq #[] }) ::
  (nat_lit 223, { cls := .type "tuple", data := .seq #[.str (Str.ofString "deck") 476, .str (Str.ofString "some") 477] }) ::
  (nat_lit 224, { cls := .type "tuple", data := .seq #[] }) ::
  (nat_lit 226, { cls := .type "code", data := .fields #[.str (Str.ofString "_law_pick") 473, .str (Str.ofString "_law_pick") 474, .str (Str.ofString "/claim/cut.py") 475, .int 110 0, .int 2 0, .int 0 0, .int 0 0, .int 3 0, .ref 221, .bool true, .int 181 0, .ref 222, .none, .ref 223, .ref 224, .ref 225, .int 478 0, .int 110 0, .str (Str.ofString "/claim/cut.py") 479] }) ::
  (nat_lit 227, fnO (stAt 37) "_law_pick" (Value.none) "law_nt0486_01" 455 226) ::
  (nat_lit 228, { cls := .type "tuple", data := .seq #[] }) ::
  (nat_lit 230, { cls := .type "tuple", data := .seq #[.str (Str.ofString "number") 486, .str (Str.ofString "by") 487, .str (Str.ofString "found") 488] }) ::
  (nat_lit 231, { cls := .type "tuple", data := .seq #[] }) ::
  (nat_lit 233, { cls := .type "code", data := .fields #[.str (Str.ofString "_law_near") 483, .str (Str.ofString "_law_near") 484, .str (Str.ofString "/claim/cut.py") 485, .int 113 0, .int 2 0, .int 0 0, .int 0 0, .int 3 0, .ref 228, .bool true, .int 181 0, .ref 229, .none, .ref 230, .ref 231, .ref 232, .int 489 0, .int 113 0, .str (Str.ofString "/claim/cut.py") 490] }) ::
  (nat_lit 234, fnO (stAt 39) "_law_near" (Value.none) "law_nt0486_01" 455 233) ::
  (nat_lit 235, { cls := .type "tuple", data := .seq #[] }) ::
  (nat_lit 238, { cls := .type "code", data := .fields #[.str (Str.ofString "_law_matrix") 492, .str (Str.ofString "_law_matrix") 493, .str (Str.ofString "/claim/cut.py") 494, .int 117 0, .int 1 0, .int 0 0, .int 0 0, .int 3 0, .ref 235, .bool true, .int 181 0, .ref 236, .none, .none, .none, .ref 237, .int 495 0, .int 117 0, .str (Str.ofString "/claim/cut.py") 496] }) ::
  (nat_lit 239, fnO (stAt 40) "_law_matrix" (Value.none) "law_nt0486_01" 455 238) ::
  (nat_lit 240, { cls := .type "tuple", data := .seq #[] }) ::
  (nat_lit 243, { cls := .type "code", data := .fields #[.str (Str.ofString "_law_put") 498, .str (Str.ofString "_law_put") 499, .str (Str.ofString "/claim/cut.py") 500, .int 123 0, .int 2 0, .int 0 0, .int 0 0, .int 3 0, .ref 240, .bool true, .int 181 0, .ref 241, .none, .none, .none, .ref 242, .int 501 0, .int 123 0, .str (Str.ofString "/claim/cut.py") 502] }) ::
  (nat_lit 244, fnO (stAt 41) "_law_put" (Value.none) "law_nt0486_01" 455 243) ::
  (nat_lit 245, { cls := .type "tuple", data := .seq #[] }) ::
  (nat_lit 247, { cls := .type "tuple", data := .seq #[.str (Str.ofString "call") 507, .str (Str.ofString "found") 508, .str (Str.ofString "e") 509] }) ::
  (nat_lit 248, { cls := .type "tuple", data := .seq #[] }) ::
  (nat_lit 250, { cls := .type "code", data := .fields #[.str (Str.ofString "_law_told") 504, .str (Str.ofString "_law_told") 505, .str (Str.ofString "/claim/cut.py") 506, .int 129 0, .int 1 0, .int 0 0, .int 0 0, .int 3 0, .ref 245, .bool true, .int 181 0, .ref 246, .none, .ref 247, .ref 248, .ref 249, .int 510 0, .int 129 0, .str (Str.ofString "/claim/cut.py") 511] }) ::
  (nat_lit 251, fnO (stAt 42) "_law_told" (Value.none) "law_nt0486_01" 455 250) ::
  (nat_lit 252, { cls := .type "tuple", data := .seq #[] }) ::
  (nat_lit 255, { cls := .type "code", data := .fields #[.str (Str.ofString "_law_points_right") 513, .str (Str.ofString "_law_points_right") 514, .str (Str.ofString "/claim/cut.py") 515, .int 136 0, .int 3 0, .int 0 0, .int 0 0, .int 3 0, .ref 252, .bool true, .int 181 0, .ref 253, .none, .none, .none, .ref 254, .int 516 0, .int 136 0, .str (Str.ofString "/claim/cut.py") 517] }) ::
  (nat_lit 256, fnO (stAt 43) "_law_points_right" (Value.none) "law_nt0486_01" 455 255) ::
  (nat_lit 257, { cls := .type "tuple", data := .seq #[] }) ::
  (nat_lit 259, { cls := .type "tuple", data := .seq #[.str (Str.ofString "script") 522, .str (Str.ofString "deck") 523, .str (Str.ofString "m") 524, .str (Str.ofString "n") 525, .str (Str.ofString "x") 526, .str (Str.ofString "y") 527, .str (Str.ofString "was") 528, .str (Str.ofString "quarter") 529, .str (Str.ofString "cos") 530, .str (Str.ofString "sin") 531, .str (Str.ofString "turn") 532, .str (Str.ofString "half") 533] }) ::
  (nat_lit 260, { cls := .type "tuple", data := .seq #[] }) ::
  (nat_lit 262, { cls := .type "code", data := .fields #[.str (Str.ofString "law") 519, .str (Str.ofString "law") 520, .str (Str.ofString "/claim/cut.py") 521, .int 157 0, .int 1 0, .int 0 0, .int 0 0, .int 3 0, .ref 257, .bool true, .int 181 0, .ref 258, .none, .ref 259, .ref 260, .ref 261, .int 534 0, .int 157 0, .str (Str.ofString "/claim/cut.py") 535] }) ::
  (nat_lit 263, fnO (stAt 44) "law" (Value.none) "law_nt0486_01" 455 262) :: []
noncomputable def hd.as_39 : List Addr := [nat_lit 2, nat_lit 3, nat_lit 15, nat_lit 22, nat_lit 23, nat_lit 25, nat_lit 26, nat_lit 28, nat_lit 29, nat_lit 30, nat_lit 31, nat_lit 32, nat_lit 33, nat_lit 36, nat_lit 43, nat_lit 44, nat_lit 45, nat_lit 48, nat_lit 50, nat_lit 51, nat_lit 53, nat_lit 54, nat_lit 55, nat_lit 57, nat_lit 58, nat_lit 60, nat_lit 61, nat_lit 62, nat_lit 64, nat_lit 65, nat_lit 67, nat_lit 68, nat_lit 69, nat_lit 71, nat_lit 72, nat_lit 74, nat_lit 75, nat_lit 76, nat_lit 78, nat_lit 79, nat_lit 81, nat_lit 82, nat_lit 83, nat_lit 85, nat_lit 86, nat_lit 88, nat_lit 89, nat_lit 90, nat_lit 92, nat_lit 93, nat_lit 95, nat_lit 96, nat_lit 97, nat_lit 99, nat_lit 100, nat_lit 102, nat_lit 103, nat_lit 104, nat_lit 106, nat_lit 107, nat_lit 109, nat_lit 110, nat_lit 111, nat_lit 113, nat_lit 114, nat_lit 116, nat_lit 117, nat_lit 118, nat_lit 120, nat_lit 121, nat_lit 123, nat_lit 124, nat_lit 125, nat_lit 127, nat_lit 128, nat_lit 130, nat_lit 131, nat_lit 132, nat_lit 134, nat_lit 135, nat_lit 137, nat_lit 138, nat_lit 139, nat_lit 141, nat_lit 142, nat_lit 144, nat_lit 145, nat_lit 146, nat_lit 148, nat_lit 149, nat_lit 151, nat_lit 152, nat_lit 153, nat_lit 155, nat_lit 156, nat_lit 158, nat_lit 159, nat_lit 160, nat_lit 162, nat_lit 163, nat_lit 165, nat_lit 166, nat_lit 167, nat_lit 169, nat_lit 170, nat_lit 172, nat_lit 173, nat_lit 174, nat_lit 176, nat_lit 177, nat_lit 179, nat_lit 180, nat_lit 181, nat_lit 183, nat_lit 184, nat_lit 186, nat_lit 187, nat_lit 188, nat_lit 190, nat_lit 191, nat_lit 193, nat_lit 194, nat_lit 195, nat_lit 197, nat_lit 198, nat_lit 200, nat_lit 201, nat_lit 202, nat_lit 204, nat_lit 205, nat_lit 207, nat_lit 208, nat_lit 209, nat_lit 212, nat_lit 213, nat_lit 214, nat_lit 216, nat_lit 217, nat_lit 219, nat_lit 220, nat_lit 221, nat_lit 223, nat_lit 224, nat_lit 226, nat_lit 227, nat_lit 228, nat_lit 230, nat_lit 231, nat_lit 233, nat_lit 234, nat_lit 235, nat_lit 238, nat_lit 239, nat_lit 240, nat_lit 243, nat_lit 244, nat_lit 245, nat_lit 247, nat_lit 248, nat_lit 250, nat_lit 251, nat_lit 252, nat_lit 255, nat_lit 256, nat_lit 257, nat_lit 259, nat_lit 260, nat_lit 262, nat_lit 263]
noncomputable def hd.view_39 : Program := PySem.W.view PySem.Challenge.pw_nt0486_01 [0, 1, 2, 3, 4, 6, 10, 11, 12, 13, 14, 15, 16, 17, 18, 19, 20, 21, 22, 23, 24, 25, 26, 27, 28, 29, 30, 31, 32, 33, 34, 35, 36, 37, 38, 39, 40, 41, 42, 43, 44]
theorem as9 : ∀ P, hd.as_39 = (hd.heap_39 P).map (·.1) := fun _ => by kernel_rfl
noncomputable def Xt9 (s : Shared) : Bool := xlAt hd.view_39 [(Str.ofString "FINE", .int 1000000000000000000000000000000000000), (Str.ofString "QUARTER", .int 90000000), (Str.ofString "HALF_TURN", .int 180000000), (Str.ofString "WHOLE_TURN", .int 360000000)] s && recOk (RowW.records (OpenRow.toRowW PySem.Challenge.rw_nt0486_01.row)) s
noncomputable def fcO (s : Stmt) (qual : String) : Obj := match s with
  | .FunctionDef name args body _ _ _ scope _ _ _ =>
    { cls := .none, data := .func { name := name, qualname := Str.ofString qual, params := args, body := .stmts body, scope := scope, globals := 0, closure := [], defaults := .none, kwdefaults := .none } }
  | _ => { cls := .none }
noncomputable def ob9_43 (P : Params) : Obj := { cls := .type "tuple", data := .seq #[] }
noncomputable def ob9_44 (P : Params) : Obj := { cls := .none, data := .fields #[] }
noncomputable def ob9_45 (P : Params) : Obj := { cls := .type "code", data := .fields #[.str (Str.ofString "<module>") 182, .str (Str.ofString "<module>") 183, .str (Str.ofString "/claim/cut.py") 184, .int 1 0, .int 0 0, .int 0 0, .int 0 0, .int 0 0, .ref 11, .bool .false, .int 181 0, .ref 12, .none, .none, .none, .none, .int 185 0, .int 1 0, .str (Str.ofString "/claim/cut.py") 186] }
noncomputable def ob9_46 (P : Params) : Obj := { cls := .type "frame", slots := #[.some (.ref 13), .some (.ref 3), .some (.ref 3), .none, .some (.str (Str.ofString "__main__") 164), .none, .some (.ref 0)] }
noncomputable def ob9_49 (P : Params) : Obj := { cls := .none, data := .dict #[{ hash := PyData.keyHash P (Str.ofString "type.__subclasses__.Exception.0"), key := .str (Str.ofString "type.__subclasses__.Exception.0") 216, val := .int 32 0 }, { hash := PyData.keyHash P (Str.ofString "type.__subclasses__.Exception.n"), key := .str (Str.ofString "type.__subclasses__.Exception.n") 217, val := .int 1 0 }] 2 }
noncomputable def ob9_50 (P : Params) : Obj := { cls := .type "dict", data := .dict #[{ hash := PyData.keyHash P (Str.ofString "__name__"), key := .str (Str.ofString "__name__") 165, val := .str (Str.ofString "postcore.base") 187 }, { hash := PyData.keyHash P (Str.ofString "__doc__"), key := .str (Str.ofString "__doc__") 166, val := .none }, { hash := PyData.keyHash P (Str.ofString "__package__"), key := .str (Str.ofString "__package__") 167, val := .none }, { hash := PyData.keyHash P (Str.ofString "__loader__"), key := .str (Str.ofString "__loader__") 168, val := .builtin "__main__.__loader__#opaque" }, { hash := PyData.keyHash P (Str.ofString "__spec__"), key := .str (Str.ofString "__spec__") 169, val := .none }, { hash := PyData.keyHash P (Str.ofString "__annotations__"), key := .str (Str.ofString "__annotations__") 170, val := .ref 6 }, { hash := PyData.keyHash P (Str.ofString "__builtins__"), key := .str (Str.ofString "__builtins__") 171, val := .ref 4 }, { hash := PyData.keyHash P (Str.ofString "__file__"), key := .str (Str.ofString "__file__") 173, val := .str (Str.ofString "/claim/cut.py") 172 }, { hash := PyData.keyHash P (Str.ofString "__cached__"), key := .str (Str.ofString "__cached__") 174, val := .none }, { hash := PyData.keyHash P (Str.ofString "GRAIN"), key := .str (Str.ofString "GRAIN") 190, val := .int 1000000 189 }, { hash := PyData.keyHash P (Str.ofString "PostError"), key := .str (Str.ofString "PostError") 219, val := .ref 32 }] 11 }
noncomputable def ob9_51 (P : Params) : Obj := { cls := .none, data := .fields #[.int 3 0, .int 0 0, .ref 20] }
noncomputable def ob9_52 (P : Params) : Obj := { cls := .type "tuple", data := .seq #[.type "Exception"] }
noncomputable def ob9_53 (P : Params) : Obj := { cls := .type "builtin_function_or_method", data := .fields #[.builtin "type.__prepare__", .type "type"] }
noncomputable def ob9_54 (P : Params) : Obj := { cls := .type "dict", data := .dict #[{ hash := PyData.keyHash P (Str.ofString "__module__"), key := .str (Str.ofString "__module__") 198, val := .str (Str.ofString "postcore.base") 187 }, { hash := PyData.keyHash P (Str.ofString "__qualname__"), key := .str (Str.ofString "__qualname__") 200, val := .str (Str.ofString "PostError") 199 }, { hash := PyData.keyHash P (Str.ofString "__firstlineno__"), key := .str (Str.ofString "__firstlineno__") 202, val := .int 3 201 }, { hash := PyData.keyHash P (Str.ofString "__init__"), key := .str (Str.ofString "__init__") 210, val := .ref 29 }, { hash := PyData.keyHash P (Str.ofString "__static_attributes__"), key := .str (Str.ofString "__static_attributes__") 212, val := .ref 30 }] 5 }
noncomputable def ob9_55 (P : Params) : Obj := { cls := .type "tuple", data := .seq #[] }
noncomputable def ob9_56 (P : Params) : Obj := { cls := .none, data := .fields #[.int 5 0, .int 4 0, .ref 28] }
noncomputable def ob9_57 (P : Params) : Obj := { cls := .type "code", data := .fields #[.str (Str.ofString "PostError") 193, .str (Str.ofString "PostError") 194, .str (Str.ofString "/claim/cut.py") 195, .int 3 0, .int 0 0, .int 0 0, .int 0 0, .int 0 0, .ref 18, .bool .false, .int 181 0, .ref 19, .none, .none, .none, .none, .int 196 0, .int 3 0, .str (Str.ofString "/claim/cut.py") 197] }
noncomputable def ob9_58 (P : Params) : Obj := { cls := .type "frame", slots := #[.some (.ref 20), .some (.ref 3), .some (.ref 17), .none, .some (.str (Str.ofString "postcore.base") 187), .none, .some (.ref 0)] }
noncomputable def ob9_59 (P : Params) : Obj := { cls := .type "tuple", data := .seq #[.none] }
noncomputable def ob9_60 (P : Params) : Obj := { cls := .type "tuple", data := .seq #[] }
noncomputable def ob9_61 (P : Params) : Obj := { cls := .none, data := .fields #[] }
noncomputable def ob9_62 (P : Params) : Obj := { cls := .type "tuple", data := .seq #[.str (Str.ofString "self") 206, .str (Str.ofString "told") 207] }
noncomputable def ob9_63 (P : Params) : Obj := { cls := .type "tuple", data := .seq #[] }
noncomputable def ob9_64 (P : Params) : Obj := fcO (inCls (stAt 2)) "PostError.__init__"
noncomputable def ob9_65 (P : Params) : Obj := { cls := .type "code", data := .fields #[.str (Str.ofString "__init__") 203, .str (Str.ofString "PostError.__init__") 204, .str (Str.ofString "/claim/cut.py") 205, .int 5 0, .int 2 0, .int 0 0, .int 0 0, .int 3 0, .ref 23, .bool .true, .int 181 0, .ref 24, .none, .ref 25, .ref 26, .ref 27, .int 208 0, .int 5 0, .str (Str.ofString "/claim/cut.py") 209] }
noncomputable def ob9_66 (P : Params) : Obj := fnO (inCls (stAt 2)) "PostError.__init__" (Value.ref 22) "postcore.base" 187 28
noncomputable def ob9_67 (P : Params) : Obj := { cls := .type "tuple", data := .seq #[.str (Str.ofString "told") 211] }
noncomputable def ob9_68 (P : Params) : Obj := { cls := .type "dict", data := .dict #[{ hash := PyData.keyHash P (Str.ofString "__module__"), key := .str (Str.ofString "__module__") 198, val := .str (Str.ofString "postcore.base") 187 }, { hash := PyData.keyHash P (Str.ofString "__firstlineno__"), key := .str (Str.ofString "__firstlineno__") 202, val := .int 3 201 }, { hash := PyData.keyHash P (Str.ofString "__init__"), key := .str (Str.ofString "__init__") 210, val := .ref 29 }, { hash := PyData.keyHash P (Str.ofString "__static_attributes__"), key := .str (Str.ofString "__static_attributes__") 212, val := .ref 30 }, { hash := PyData.keyHash P (Str.ofString "__weakref__"), key := .str (Str.ofString "__weakref__") 214, val := .ref 33 }, { hash := PyData.keyHash P (Str.ofString "__doc__"), key := .str (Str.ofString "__doc__") 215, val := .none }] 3 }
noncomputable def ob9_69 (P : Params) : Obj := { cls := .type "type", data := .cls { name := Str.ofString "PostError", bases := [.type "Exception"], mro := [.ref 32, .type "Exception", .type "BaseException", .type "object"], ns := 31, qualname := Str.ofString "PostError" }, slots := #[.some (.ref 15), .none, .some (.str (Str.ofString "PostError") 191), .some (.str (Str.ofString "PostError") 199), .some (.builtin "Exception.__new__"), .some (.bool .true)] }
noncomputable def ob9_70 (P : Params) : Obj := { cls := .type "getset_descriptor", data := .fields #[.str (Str.ofString "__weakref__") 213, .ref 32, .builtin "ExceptionGroup.__weakref__", .none] }
noncomputable def ob9_71 (P : Params) : Obj := { cls := .type "super", data := .fields #[.ref 32, .ref 32, .ref 32] }
noncomputable def ob9_72 (P : Params) : Obj := { cls := .type "builtin_function_or_method", data := .fields #[.builtin "object.__init_subclass__", .ref 32] }
noncomputable def ob9_73 (P : Params) : Obj := { cls := .type "dict", data := .dict #[{ hash := PyData.keyHash P (Str.ofString "__name__"), key := .str (Str.ofString "__name__") 165, val := .str (Str.ofString "postcore.numbers") 236 }, { hash := PyData.keyHash P (Str.ofString "__doc__"), key := .str (Str.ofString "__doc__") 166, val := .none }, { hash := PyData.keyHash P (Str.ofString "__package__"), key := .str (Str.ofString "__package__") 167, val := .none }, { hash := PyData.keyHash P (Str.ofString "__loader__"), key := .str (Str.ofString "__loader__") 168, val := .builtin "__main__.__loader__#opaque" }, { hash := PyData.keyHash P (Str.ofString "__spec__"), key := .str (Str.ofString "__spec__") 169, val := .none }, { hash := PyData.keyHash P (Str.ofString "__annotations__"), key := .str (Str.ofString "__annotations__") 170, val := .ref 6 }, { hash := PyData.keyHash P (Str.ofString "__builtins__"), key := .str (Str.ofString "__builtins__") 171, val := .ref 4 }, { hash := PyData.keyHash P (Str.ofString "__file__"), key := .str (Str.ofString "__file__") 173, val := .str (Str.ofString "/claim/cut.py") 172 }, { hash := PyData.keyHash P (Str.ofString "__cached__"), key := .str (Str.ofString "__cached__") 174, val := .none }, { hash := PyData.keyHash P (Str.ofString "GRAIN"), key := .str (Str.ofString "GRAIN") 190, val := .int 1000000 189 }, { hash := PyData.keyHash P (Str.ofString "PostError"), key := .str (Str.ofString "PostError") 219, val := .ref 32 }, { hash := PyData.keyHash P (Str.ofString "PsError"), key := .str (Str.ofString "PsError") 235, val := .ref 45 }, { hash := PyData.keyHash P (Str.ofString "FINE"), key := .str (Str.ofString "FINE") 241, val := .int 1000000000000000000000000000000000000 240 }, { hash := PyData.keyHash P (Str.ofString "PI_FINE"), key := .str (Str.ofString "PI_FINE") 243, val := .int 3141592653589793238462643383279502884 242 }, { hash := PyData.keyHash P (Str.ofString "QUARTER"), key := .str (Str.ofString "QUARTER") 246, val := .int 90000000 245 }, { hash := PyData.keyHash P (Str.ofString "HALF_TURN"), key := .str (Str.ofString "HALF_TURN") 249, val := .int 180000000 248 }, { hash := PyData.keyHash P (Str.ofString "WHOLE_TURN"), key := .str (Str.ofString "WHOLE_TURN") 252, val := .int 360000000 251 }, { hash := PyData.keyHash P (Str.ofString "divided"), key := .str (Str.ofString "divided") 263, val := .ref 54 }, { hash := PyData.keyHash P (Str.ofString "fine_product"), key := .str (Str.ofString "fine_product") 271, val := .ref 61 }, { hash := PyData.keyHash P (Str.ofString "fine_sine_near"), key := .str (Str.ofString "fine_sine_near") 282, val := .ref 68 }] 20 }
noncomputable def ob9_74 (P : Params) : Obj := { cls := .none, data := .fields #[.int 3 0, .int 0 0, .ref 20, .int 7 0, .int 0 0, .ref 41, .int 15 0, .int 0 0, .ref 53, .int 19 0, .int 0 0, .ref 60, .int 21 0, .int 0 0, .ref 67] }
noncomputable def ob9_75 (P : Params) : Obj := { cls := .type "type", data := .cls { name := Str.ofString "PostError", bases := [.type "Exception"], mro := [.ref 32, .type "Exception", .type "BaseException", .type "object"], ns := 31, qualname := Str.ofString "PostError", subclasses := [.ref 45] }, slots := #[.some (.ref 15), .none, .some (.str (Str.ofString "PostError") 191), .some (.str (Str.ofString "PostError") 199), .some (.builtin "Exception.__new__"), .some (.bool .true)] }
noncomputable def ob9_76 (P : Params) : Obj := { cls := .type "tuple", data := .seq #[.ref 32] }
noncomputable def ob9_77 (P : Params) : Obj := { cls := .type "builtin_function_or_method", data := .fields #[.builtin "type.__prepare__", .type "type"] }
noncomputable def ob9_78 (P : Params) : Obj := { cls := .type "dict", data := .dict #[{ hash := PyData.keyHash P (Str.ofString "__module__"), key := .str (Str.ofString "__module__") 227, val := .str (Str.ofString "postcore.base") 187 }, { hash := PyData.keyHash P (Str.ofString "__qualname__"), key := .str (Str.ofString "__qualname__") 229, val := .str (Str.ofString "PsError") 228 }, { hash := PyData.keyHash P (Str.ofString "__firstlineno__"), key := .str (Str.ofString "__firstlineno__") 231, val := .int 7 230 }, { hash := PyData.keyHash P (Str.ofString "__static_attributes__"), key := .str (Str.ofString "__static_attributes__") 232, val := .ref 43 }] 4 }
noncomputable def ob9_79 (P : Params) : Obj := { cls := .type "tuple", data := .seq #[] }
noncomputable def ob9_80 (P : Params) : Obj := { cls := .none, data := .fields #[] }
noncomputable def ob9_81 (P : Params) : Obj := { cls := .type "code", data := .fields #[.str (Str.ofString "PsError") 222, .str (Str.ofString "PsError") 223, .str (Str.ofString "/claim/cut.py") 224, .int 7 0, .int 0 0, .int 0 0, .int 0 0, .int 0 0, .ref 39, .bool .false, .int 181 0, .ref 40, .none, .none, .none, .none, .int 225 0, .int 7 0, .str (Str.ofString "/claim/cut.py") 226] }
noncomputable def ob9_82 (P : Params) : Obj := { cls := .type "frame", slots := #[.some (.ref 41), .some (.ref 3), .some (.ref 38), .none, .some (.str (Str.ofString "postcore.base") 187), .none, .some (.ref 0)] }
noncomputable def ob9_83 (P : Params) : Obj := { cls := .type "tuple", data := .seq #[] }
noncomputable def ob9_84 (P : Params) : Obj := { cls := .type "dict", data := .dict #[{ hash := PyData.keyHash P (Str.ofString "__module__"), key := .str (Str.ofString "__module__") 227, val := .str (Str.ofString "postcore.base") 187 }, { hash := PyData.keyHash P (Str.ofString "__firstlineno__"), key := .str (Str.ofString "__firstlineno__") 231, val := .int 7 230 }, { hash := PyData.keyHash P (Str.ofString "__static_attributes__"), key := .str (Str.ofString "__static_attributes__") 232, val := .ref 43 }, { hash := PyData.keyHash P (Str.ofString "__doc__"), key := .str (Str.ofString "__doc__") 233, val := .none }] 2 }
noncomputable def ob9_85 (P : Params) : Obj := { cls := .type "type", data := .cls { name := Str.ofString "PsError", bases := [.ref 32], mro := [.ref 45, .ref 32, .type "Exception", .type "BaseException", .type "object"], ns := 44, qualname := Str.ofString "PsError" }, slots := #[.some (.ref 36), .none, .some (.str (Str.ofString "PsError") 220), .some (.str (Str.ofString "PsError") 228), .some (.builtin "Exception.__new__"), .some (.bool .true)] }
noncomputable def ob9_86 (P : Params) : Obj := { cls := .type "super", data := .fields #[.ref 45, .ref 45, .ref 45] }
noncomputable def ob9_87 (P : Params) : Obj := { cls := .type "builtin_function_or_method", data := .fields #[.builtin "object.__init_subclass__", .ref 45] }
noncomputable def ob9_88 (P : Params) : Obj := { cls := .type "tuple", data := .seq #[] }
noncomputable def ob9_89 (P : Params) : Obj := { cls := .none, data := .fields #[] }
noncomputable def ob9_90 (P : Params) : Obj := { cls := .type "tuple", data := .seq #[.str (Str.ofString "number") 256, .str (Str.ofString "by") 257, .str (Str.ofString "size") 258, .str (Str.ofString "parts") 259, .str (Str.ofString "found") 260] }
noncomputable def ob9_91 (P : Params) : Obj := { cls := .type "tuple", data := .seq #[] }
noncomputable def ob9_92 (P : Params) : Obj := fcO (stAt 10) "divided"
noncomputable def ob9_93 (P : Params) : Obj := { cls := .type "code", data := .fields #[.str (Str.ofString "divided") 253, .str (Str.ofString "divided") 254, .str (Str.ofString "/claim/cut.py") 255, .int 15 0, .int 2 0, .int 0 0, .int 0 0, .int 3 0, .ref 48, .bool .true, .int 181 0, .ref 49, .none, .ref 50, .ref 51, .ref 52, .int 261 0, .int 15 0, .str (Str.ofString "/claim/cut.py") 262] }
noncomputable def ob9_94 (P : Params) : Obj := fnO (stAt 10) "divided" (Value.none) "postcore.numbers" 236 53
noncomputable def ob9_95 (P : Params) : Obj := { cls := .type "tuple", data := .seq #[] }
noncomputable def ob9_96 (P : Params) : Obj := { cls := .none, data := .fields #[] }
noncomputable def ob9_97 (P : Params) : Obj := { cls := .type "tuple", data := .seq #[.str (Str.ofString "one") 267, .str (Str.ofString "other") 268] }
noncomputable def ob9_98 (P : Params) : Obj := { cls := .type "tuple", data := .seq #[] }
noncomputable def ob9_99 (P : Params) : Obj := fcO (stAt 11) "fine_product"
noncomputable def ob9_100 (P : Params) : Obj := { cls := .type "code", data := .fields #[.str (Str.ofString "fine_product") 264, .str (Str.ofString "fine_product") 265, .str (Str.ofString "/claim/cut.py") 266, .int 19 0, .int 2 0, .int 0 0, .int 0 0, .int 3 0, .ref 55, .bool .true, .int 181 0, .ref 56, .none, .ref 57, .ref 58, .ref 59, .int 269 0, .int 19 0, .str (Str.ofString "/claim/cut.py") 270] }
noncomputable def ob9_101 (P : Params) : Obj := fnO (stAt 11) "fine_product" (Value.none) "postcore.numbers" 236 60
noncomputable def ob9_102 (P : Params) : Obj := { cls := .type "tuple", data := .seq #[] }
noncomputable def ob9_103 (P : Params) : Obj := { cls := .none, data := .fields #[] }
noncomputable def ob9_104 (P : Params) : Obj := { cls := .type "tuple", data := .seq #[.str (Str.ofString "angle") 275, .str (Str.ofString "part") 276, .str (Str.ofString "square") 277, .str (Str.ofString "found") 278, .str (Str.ofString "count") 279] }
noncomputable def ob9_105 (P : Params) : Obj := { cls := .type "tuple", data := .seq #[] }
noncomputable def ob9_106 (P : Params) : Obj := fcO (stAt 12) "fine_sine_near"
noncomputable def ob9_107 (P : Params) : Obj := { cls := .type "code", data := .fields #[.str (Str.ofString "fine_sine_near") 272, .str (Str.ofString "fine_sine_near") 273, .str (Str.ofString "/claim/cut.py") 274, .int 21 0, .int 1 0, .int 0 0, .int 0 0, .int 3 0, .ref 62, .bool .true, .int 181 0, .ref 63, .none, .ref 64, .ref 65, .ref 66, .int 280 0, .int 21 0, .str (Str.ofString "/claim/cut.py") 281] }
noncomputable def ob9_108 (P : Params) : Obj := fnO (stAt 12) "fine_sine_near" (Value.none) "postcore.numbers" 236 67
noncomputable def ob9_109 (P : Params) : Obj := { cls := .type "dict", data := .dict #[{ hash := PyData.keyHash P (Str.ofString "__name__"), key := .str (Str.ofString "__name__") 165, val := .str (Str.ofString "postcore.matrices") 312 }, { hash := PyData.keyHash P (Str.ofString "__doc__"), key := .str (Str.ofString "__doc__") 166, val := .none }, { hash := PyData.keyHash P (Str.ofString "__package__"), key := .str (Str.ofString "__package__") 167, val := .none }, { hash := PyData.keyHash P (Str.ofString "__loader__"), key := .str (Str.ofString "__loader__") 168, val := .builtin "__main__.__loader__#opaque" }, { hash := PyData.keyHash P (Str.ofString "__spec__"), key := .str (Str.ofString "__spec__") 169, val := .none }, { hash := PyData.keyHash P (Str.ofString "__annotations__"), key := .str (Str.ofString "__annotations__") 170, val := .ref 6 }, { hash := PyData.keyHash P (Str.ofString "__builtins__"), key := .str (Str.ofString "__builtins__") 171, val := .ref 4 }, { hash := PyData.keyHash P (Str.ofString "__file__"), key := .str (Str.ofString "__file__") 173, val := .str (Str.ofString "/claim/cut.py") 172 }, { hash := PyData.keyHash P (Str.ofString "__cached__"), key := .str (Str.ofString "__cached__") 174, val := .none }, { hash := PyData.keyHash P (Str.ofString "GRAIN"), key := .str (Str.ofString "GRAIN") 190, val := .int 1000000 189 }, { hash := PyData.keyHash P (Str.ofString "PostError"), key := .str (Str.ofString "PostError") 219, val := .ref 32 }, { hash := PyData.keyHash P (Str.ofString "PsError"), key := .str (Str.ofString "PsError") 235, val := .ref 45 }, { hash := PyData.keyHash P (Str.ofString "FINE"), key := .str (Str.ofString "FINE") 241, val := .int 1000000000000000000000000000000000000 240 }, { hash := PyData.keyHash P (Str.ofString "PI_FINE"), key := .str (Str.ofString "PI_FINE") 243, val := .int 3141592653589793238462643383279502884 242 }, { hash := PyData.keyHash P (Str.ofString "QUARTER"), key := .str (Str.ofString "QUARTER") 246, val := .int 90000000 245 }, { hash := PyData.keyHash P (Str.ofString "HALF_TURN"), key := .str (Str.ofString "HALF_TURN") 249, val := .int 180000000 248 }, { hash := PyData.keyHash P (Str.ofString "WHOLE_TURN"), key := .str (Str.ofString "WHOLE_TURN") 252, val := .int 360000000 251 }, { hash := PyData.keyHash P (Str.ofString "divided"), key := .str (Str.ofString "divided") 263, val := .ref 54 }, { hash := PyData.keyHash P (Str.ofString "fine_product"), key := .str (Str.ofString "fine_product") 271, val := .ref 61 }, { hash := PyData.keyHash P (Str.ofString "fine_sine_near"), key := .str (Str.ofString "fine_sine_near") 282, val := .ref 68 }, { hash := PyData.keyHash P (Str.ofString "fine_cosine_near"), key := .str (Str.ofString "fine_cosine_near") 294, val := .ref 75 }, { hash := PyData.keyHash P (Str.ofString "sine"), key := .str (Str.ofString "sine") 304, val := .ref 82 }, { hash := PyData.keyHash P (Str.ofString "cosine"), key := .str (Str.ofString "cosine") 311, val := .ref 89 }, { hash := PyData.keyHash P (Str.ofString "matrix_quotient"), key := .str (Str.ofString "matrix_quotient") 321, val := .ref 96 }, { hash := PyData.keyHash P (Str.ofString "identity"), key := .str (Str.ofString "identity") 327, val := .ref 103 }, { hash := PyData.keyHash P (Str.ofString "translation"), key := .str (Str.ofString "translation") 335, val := .ref 110 }, { hash := PyData.keyHash P (Str.ofString "scaling"), key := .str (Str.ofString "scaling") 343, val := .ref 117 }, { hash := PyData.keyHash P (Str.ofString "rotation"), key := .str (Str.ofString "rotation") 352, val := .ref 124 }, { hash := PyData.keyHash P (Str.ofString "concat"), key := .str (Str.ofString "concat") 360, val := .ref 131 }, { hash := PyData.keyHash P (Str.ofString "translated"), key := .str (Str.ofString "translated") 369, val := .ref 138 }, { hash := PyData.keyHash P (Str.ofString "scaled"), key := .str (Str.ofString "scaled") 378, val := .ref 145 }, { hash := PyData.keyHash P (Str.ofString "turned"), key := .str (Str.ofString "turned") 386, val := .ref 152 }] 32 }
noncomputable def ob9_110 (P : Params) : Obj := { cls := .none, data := .fields #[.int 3 0, .int 0 0, .ref 20, .int 7 0, .int 0 0, .ref 41, .int 15 0, .int 0 0, .ref 53, .int 19 0, .int 0 0, .ref 60, .int 21 0, .int 0 0, .ref 67, .int 30 0, .int 0 0, .ref 74, .int 39 0, .int 0 0, .ref 81, .int 48 0, .int 0 0, .ref 88, .int 51 0, .int 0 0, .ref 95, .int 53 0, .int 0 0, .ref 102, .int 55 0, .int 0 0, .ref 109, .int 57 0, .int 0 0, .ref 116, .int 59 0, .int 0 0, .ref 123, .int 62 0, .int 0 0, .ref 130, .int 64 0, .int 0 0, .ref 137, .int 66 0, .int 0 0, .ref 144, .int 68 0, .int 0 0, .ref 151] }
noncomputable def ob9_111 (P : Params) : Obj := { cls := .type "tuple", data := .seq #[] }
noncomputable def ob9_112 (P : Params) : Obj := { cls := .none, data := .fields #[] }
noncomputable def ob9_113 (P : Params) : Obj := { cls := .type "tuple", data := .seq #[.str (Str.ofString "angle") 286, .str (Str.ofString "turned") 287, .str (Str.ofString "square") 288, .str (Str.ofString "found") 289, .str (Str.ofString "part") 290, .str (Str.ofString "count") 291] }
noncomputable def ob9_114 (P : Params) : Obj := { cls := .type "tuple", data := .seq #[] }
noncomputable def ob9_115 (P : Params) : Obj := fcO (stAt 13) "fine_cosine_near"
noncomputable def ob9_116 (P : Params) : Obj := { cls := .type "code", data := .fields #[.str (Str.ofString "fine_cosine_near") 283, .str (Str.ofString "fine_cosine_near") 284, .str (Str.ofString "/claim/cut.py") 285, .int 30 0, .int 1 0, .int 0 0, .int 0 0, .int 3 0, .ref 69, .bool .true, .int 181 0, .ref 70, .none, .ref 71, .ref 72, .ref 73, .int 292 0, .int 30 0, .str (Str.ofString "/claim/cut.py") 293] }
noncomputable def ob9_117 (P : Params) : Obj := fnO (stAt 13) "fine_cosine_near" (Value.none) "postcore.numbers" 236 74
noncomputable def ob9_118 (P : Params) : Obj := { cls := .type "tuple", data := .seq #[] }
noncomputable def ob9_119 (P : Params) : Obj := { cls := .none, data := .fields #[] }
noncomputable def ob9_120 (P : Params) : Obj := { cls := .type "tuple", data := .seq #[.str (Str.ofString "angle") 298, .str (Str.ofString "left") 299, .str (Str.ofString "is_below") 300, .str (Str.ofString "found") 301] }
noncomputable def ob9_121 (P : Params) : Obj := { cls := .type "tuple", data := .seq #[] }
noncomputable def ob9_122 (P : Params) : Obj := fcO (stAt 14) "sine"
noncomputable def ob9_123 (P : Params) : Obj := { cls := .type "code", data := .fields #[.str (Str.ofString "sine") 295, .str (Str.ofString "sine") 296, .str (Str.ofString "/claim/cut.py") 297, .int 39 0, .int 1 0, .int 0 0, .int 0 0, .int 3 0, .ref 76, .bool .true, .int 181 0, .ref 77, .none, .ref 78, .ref 79, .ref 80, .int 302 0, .int 39 0, .str (Str.ofString "/claim/cut.py") 303] }
noncomputable def ob9_124 (P : Params) : Obj := fnO (stAt 14) "sine" (Value.none) "postcore.numbers" 236 81
noncomputable def ob9_125 (P : Params) : Obj := { cls := .type "tuple", data := .seq #[] }
noncomputable def ob9_126 (P : Params) : Obj := { cls := .none, data := .fields #[] }
noncomputable def ob9_127 (P : Params) : Obj := { cls := .type "tuple", data := .seq #[.str (Str.ofString "angle") 308] }
noncomputable def ob9_128 (P : Params) : Obj := { cls := .type "tuple", data := .seq #[] }
noncomputable def ob9_129 (P : Params) : Obj := fcO (stAt 15) "cosine"
noncomputable def ob9_130 (P : Params) : Obj := { cls := .type "code", data := .fields #[.str (Str.ofString "cosine") 305, .str (Str.ofString "cosine") 306, .str (Str.ofString "/claim/cut.py") 307, .int 48 0, .int 1 0, .int 0 0, .int 0 0, .int 3 0, .ref 83, .bool .true, .int 181 0, .ref 84, .none, .ref 85, .ref 86, .ref 87, .int 309 0, .int 48 0, .str (Str.ofString "/claim/cut.py") 310] }
noncomputable def ob9_131 (P : Params) : Obj := fnO (stAt 15) "cosine" (Value.none) "postcore.numbers" 236 88
noncomputable def ob9_132 (P : Params) : Obj := { cls := .type "tuple", data := .seq #[] }
noncomputable def ob9_133 (P : Params) : Obj := { cls := .none, data := .fields #[] }
noncomputable def ob9_134 (P : Params) : Obj := { cls := .type "tuple", data := .seq #[.str (Str.ofString "number") 317, .str (Str.ofString "by") 318] }
noncomputable def ob9_135 (P : Params) : Obj := { cls := .type "tuple", data := .seq #[] }
noncomputable def ob9_136 (P : Params) : Obj := fcO (stAt 17) "matrix_quotient"
noncomputable def ob9_137 (P : Params) : Obj := { cls := .type "code", data := .fields #[.str (Str.ofString "matrix_quotient") 314, .str (Str.ofString "matrix_quotient") 315, .str (Str.ofString "/claim/cut.py") 316, .int 51 0, .int 2 0, .int 0 0, .int 0 0, .int 3 0, .ref 90, .bool .true, .int 181 0, .ref 91, .none, .ref 92, .ref 93, .ref 94, .int 319 0, .int 51 0, .str (Str.ofString "/claim/cut.py") 320] }
noncomputable def ob9_138 (P : Params) : Obj := fnO (stAt 17) "matrix_quotient" (Value.none) "postcore.matrices" 312 95
noncomputable def ob9_139 (P : Params) : Obj := { cls := .type "tuple", data := .seq #[] }
noncomputable def ob9_140 (P : Params) : Obj := { cls := .none, data := .fields #[] }
noncomputable def ob9_141 (P : Params) : Obj := { cls := .type "tuple", data := .seq #[] }
noncomputable def ob9_142 (P : Params) : Obj := { cls := .type "tuple", data := .seq #[] }
noncomputable def ob9_143 (P : Params) : Obj := fcO (stAt 18) "identity"
noncomputable def ob9_144 (P : Params) : Obj := { cls := .type "code", data := .fields #[.str (Str.ofString "identity") 322, .str (Str.ofString "identity") 323, .str (Str.ofString "/claim/cut.py") 324, .int 53 0, .int 0 0, .int 0 0, .int 0 0, .int 3 0, .ref 97, .bool .true, .int 181 0, .ref 98, .none, .ref 99, .ref 100, .ref 101, .int 325 0, .int 53 0, .str (Str.ofString "/claim/cut.py") 326] }
noncomputable def ob9_145 (P : Params) : Obj := fnO (stAt 18) "identity" (Value.none) "postcore.matrices" 312 102
noncomputable def ob9_146 (P : Params) : Obj := { cls := .type "tuple", data := .seq #[] }
noncomputable def ob9_147 (P : Params) : Obj := { cls := .none, data := .fields #[] }
noncomputable def ob9_148 (P : Params) : Obj := { cls := .type "tuple", data := .seq #[.str (Str.ofString "x") 331, .str (Str.ofString "y") 332] }
noncomputable def ob9_149 (P : Params) : Obj := { cls := .type "tuple", data := .seq #[] }
noncomputable def ob9_150 (P : Params) : Obj := fcO (stAt 19) "translation"
noncomputable def ob9_151 (P : Params) : Obj := { cls := .type "code", data := .fields #[.str (Str.ofString "translation") 328, .str (Str.ofString "translation") 329, .str (Str.ofString "/claim/cut.py") 330, .int 55 0, .int 2 0, .int 0 0, .int 0 0, .int 3 0, .ref 104, .bool .true, .int 181 0, .ref 105, .none, .ref 106, .ref 107, .ref 108, .int 333 0, .int 55 0, .str (Str.ofString "/claim/cut.py") 334] }
noncomputable def ob9_152 (P : Params) : Obj := fnO (stAt 19) "translation" (Value.none) "postcore.matrices" 312 109
noncomputable def ob9_153 (P : Params) : Obj := { cls := .type "tuple", data := .seq #[] }
noncomputable def ob9_154 (P : Params) : Obj := { cls := .none, data := .fields #[] }
noncomputable def ob9_155 (P : Params) : Obj := { cls := .type "tuple", data := .seq #[.str (Str.ofString "x") 339, .str (Str.ofString "y") 340] }
noncomputable def ob9_156 (P : Params) : Obj := { cls := .type "tuple", data := .seq #[] }
noncomputable def ob9_157 (P : Params) : Obj := fcO (stAt 20) "scaling"
noncomputable def ob9_158 (P : Params) : Obj := { cls := .type "code", data := .fields #[.str (Str.ofString "scaling") 336, .str (Str.ofString "scaling") 337, .str (Str.ofString "/claim/cut.py") 338, .int 57 0, .int 2 0, .int 0 0, .int 0 0, .int 3 0, .ref 111, .bool .true, .int 181 0, .ref 112, .none, .ref 113, .ref 114, .ref 115, .int 341 0, .int 57 0, .str (Str.ofString "/claim/cut.py") 342] }
noncomputable def ob9_159 (P : Params) : Obj := fnO (stAt 20) "scaling" (Value.none) "postcore.matrices" 312 116
noncomputable def ob9_160 (P : Params) : Obj := { cls := .type "tuple", data := .seq #[] }
noncomputable def ob9_161 (P : Params) : Obj := { cls := .none, data := .fields #[] }
noncomputable def ob9_162 (P : Params) : Obj := { cls := .type "tuple", data := .seq #[.str (Str.ofString "degrees") 347, .str (Str.ofString "near") 348, .str (Str.ofString "far") 349] }
noncomputable def ob9_163 (P : Params) : Obj := { cls := .type "tuple", data := .seq #[] }
noncomputable def ob9_164 (P : Params) : Obj := fcO (stAt 21) "rotation"
noncomputable def ob9_165 (P : Params) : Obj := { cls := .type "code", data := .fields #[.str (Str.ofString "rotation") 344, .str (Str.ofString "rotation") 345, .str (Str.ofString "/claim/cut.py") 346, .int 59 0, .int 1 0, .int 0 0, .int 0 0, .int 3 0, .ref 118, .bool .true, .int 181 0, .ref 119, .none, .ref 120, .ref 121, .ref 122, .int 350 0, .int 59 0, .str (Str.ofString "/claim/cut.py") 351] }
noncomputable def ob9_166 (P : Params) : Obj := fnO (stAt 21) "rotation" (Value.none) "postcore.matrices" 312 123
noncomputable def ob9_167 (P : Params) : Obj := { cls := .type "tuple", data := .seq #[] }
noncomputable def ob9_168 (P : Params) : Obj := { cls := .none, data := .fields #[] }
noncomputable def ob9_169 (P : Params) : Obj := { cls := .type "tuple", data := .seq #[.str (Str.ofString "m") 356, .str (Str.ofString "n") 357] }
noncomputable def ob9_170 (P : Params) : Obj := { cls := .type "tuple", data := .seq #[] }
noncomputable def ob9_171 (P : Params) : Obj := fcO (stAt 22) "concat"
noncomputable def ob9_172 (P : Params) : Obj := { cls := .type "code", data := .fields #[.str (Str.ofString "concat") 353, .str (Str.ofString "concat") 354, .str (Str.ofString "/claim/cut.py") 355, .int 62 0, .int 2 0, .int 0 0, .int 0 0, .int 3 0, .ref 125, .bool .true, .int 181 0, .ref 126, .none, .ref 127, .ref 128, .ref 129, .int 358 0, .int 62 0, .str (Str.ofString "/claim/cut.py") 359] }
noncomputable def ob9_173 (P : Params) : Obj := fnO (stAt 22) "concat" (Value.none) "postcore.matrices" 312 130
noncomputable def ob9_174 (P : Params) : Obj := { cls := .type "tuple", data := .seq #[] }
noncomputable def ob9_175 (P : Params) : Obj := { cls := .none, data := .fields #[] }
noncomputable def ob9_176 (P : Params) : Obj := { cls := .type "tuple", data := .seq #[.str (Str.ofString "m") 364, .str (Str.ofString "x") 365, .str (Str.ofString "y") 366] }
noncomputable def ob9_177 (P : Params) : Obj := { cls := .type "tuple", data := .seq #[] }
noncomputable def ob9_178 (P : Params) : Obj := fcO (stAt 23) "translated"
noncomputable def ob9_179 (P : Params) : Obj := { cls := .type "code", data := .fields #[.str (Str.ofString "translated") 361, .str (Str.ofString "translated") 362, .str (Str.ofString "/claim/cut.py") 363, .int 64 0, .int 3 0, .int 0 0, .int 0 0, .int 3 0, .ref 132, .bool .true, .int 181 0, .ref 133, .none, .ref 134, .ref 135, .ref 136, .int 367 0, .int 64 0, .str (Str.ofString "/claim/cut.py") 368] }
noncomputable def ob9_180 (P : Params) : Obj := fnO (stAt 23) "translated" (Value.none) "postcore.matrices" 312 137
noncomputable def ob9_181 (P : Params) : Obj := { cls := .type "tuple", data := .seq #[] }
noncomputable def ob9_182 (P : Params) : Obj := { cls := .none, data := .fields #[] }
noncomputable def ob9_183 (P : Params) : Obj := { cls := .type "tuple", data := .seq #[.str (Str.ofString "m") 373, .str (Str.ofString "x") 374, .str (Str.ofString "y") 375] }
noncomputable def ob9_184 (P : Params) : Obj := { cls := .type "tuple", data := .seq #[] }
noncomputable def ob9_185 (P : Params) : Obj := fcO (stAt 24) "scaled"
noncomputable def ob9_186 (P : Params) : Obj := { cls := .type "code", data := .fields #[.str (Str.ofString "scaled") 370, .str (Str.ofString "scaled") 371, .str (Str.ofString "/claim/cut.py") 372, .int 66 0, .int 3 0, .int 0 0, .int 0 0, .int 3 0, .ref 139, .bool .true, .int 181 0, .ref 140, .none, .ref 141, .ref 142, .ref 143, .int 376 0, .int 66 0, .str (Str.ofString "/claim/cut.py") 377] }
noncomputable def ob9_187 (P : Params) : Obj := fnO (stAt 24) "scaled" (Value.none) "postcore.matrices" 312 144
noncomputable def ob9_188 (P : Params) : Obj := { cls := .type "tuple", data := .seq #[] }
noncomputable def ob9_189 (P : Params) : Obj := { cls := .none, data := .fields #[] }
noncomputable def ob9_190 (P : Params) : Obj := { cls := .type "tuple", data := .seq #[.str (Str.ofString "m") 382, .str (Str.ofString "degrees") 383] }
noncomputable def ob9_191 (P : Params) : Obj := { cls := .type "tuple", data := .seq #[] }
noncomputable def ob9_192 (P : Params) : Obj := fcO (stAt 25) "turned"
noncomputable def ob9_193 (P : Params) : Obj := { cls := .type "code", data := .fields #[.str (Str.ofString "turned") 379, .str (Str.ofString "turned") 380, .str (Str.ofString "/claim/cut.py") 381, .int 68 0, .int 2 0, .int 0 0, .int 0 0, .int 3 0, .ref 146, .bool .true, .int 181 0, .ref 147, .none, .ref 148, .ref 149, .ref 150, .int 384 0, .int 68 0, .str (Str.ofString "/claim/cut.py") 385] }
noncomputable def ob9_194 (P : Params) : Obj := fnO (stAt 25) "turned" (Value.none) "postcore.matrices" 312 151
noncomputable def ob9_195 (P : Params) : Obj := { cls := .type "dict", data := .dict #[{ hash := PyData.keyHash P (Str.ofString "__name__"), key := .str (Str.ofString "__name__") 165, val := .str (Str.ofString "law_nt0486_01") 455 }, { hash := PyData.keyHash P (Str.ofString "__doc__"), key := .str (Str.ofString "__doc__") 166, val := .none }, { hash := PyData.keyHash P (Str.ofString "__package__"), key := .str (Str.ofString "__package__") 167, val := .none }, { hash := PyData.keyHash P (Str.ofString "__loader__"), key := .str (Str.ofString "__loader__") 168, val := .builtin "__main__.__loader__#opaque" }, { hash := PyData.keyHash P (Str.ofString "__spec__"), key := .str (Str.ofString "__spec__") 169, val := .none }, { hash := PyData.keyHash P (Str.ofString "__annotations__"), key := .str (Str.ofString "__annotations__") 170, val := .ref 6 }, { hash := PyData.keyHash P (Str.ofString "__builtins__"), key := .str (Str.ofString "__builtins__") 171, val := .ref 4 }, { hash := PyData.keyHash P (Str.ofString "__file__"), key := .str (Str.ofString "__file__") 173, val := .str (Str.ofString "/claim/cut.py") 172 }, { hash := PyData.keyHash P (Str.ofString "__cached__"), key := .str (Str.ofString "__cached__") 174, val := .none }, { hash := PyData.keyHash P (Str.ofString "GRAIN"), key := .str (Str.ofString "GRAIN") 190, val := .int 1000000 189 }, { hash := PyData.keyHash P (Str.ofString "PostError"), key := .str (Str.ofString "PostError") 219, val := .ref 32 }, { hash := PyData.keyHash P (Str.ofString "PsError"), key := .str (Str.ofString "PsError") 235, val := .ref 45 }, { hash := PyData.keyHash P (Str.ofString "FINE"), key := .str (Str.ofString "FINE") 241, val := .int 1000000000000000000000000000000000000 240 }, { hash := PyData.keyHash P (Str.ofString "PI_FINE"), key := .str (Str.ofString "PI_FINE") 243, val := .int 3141592653589793238462643383279502884 242 }, { hash := PyData.keyHash P (Str.ofString "QUARTER"), key := .str (Str.ofString "QUARTER") 246, val := .int 90000000 245 }, { hash := PyData.keyHash P (Str.ofString "HALF_TURN"), key := .str (Str.ofString "HALF_TURN") 249, val := .int 180000000 248 }, { hash := PyData.keyHash P (Str.ofString "WHOLE_TURN"), key := .str (Str.ofString "WHOLE_TURN") 252, val := .int 360000000 251 }, { hash := PyData.keyHash P (Str.ofString "divided"), key := .str (Str.ofString "divided") 263, val := .ref 54 }, { hash := PyData.keyHash P (Str.ofString "fine_product"), key := .str (Str.ofString "fine_product") 271, val := .ref 61 }, { hash := PyData.keyHash P (Str.ofString "fine_sine_near"), key := .str (Str.ofString "fine_sine_near") 282, val := .ref 68 }, { hash := PyData.keyHash P (Str.ofString "fine_cosine_near"), key := .str (Str.ofString "fine_cosine_near") 294, val := .ref 75 }, { hash := PyData.keyHash P (Str.ofString "sine"), key := .str (Str.ofString "sine") 304, val := .ref 82 }, { hash := PyData.keyHash P (Str.ofString "cosine"), key := .str (Str.ofString "cosine") 311, val := .ref 89 }, { hash := PyData.keyHash P (Str.ofString "matrix_quotient"), key := .str (Str.ofString "matrix_quotient") 321, val := .ref 96 }, { hash := PyData.keyHash P (Str.ofString "identity"), key := .str (Str.ofString "identity") 327, val := .ref 103 }, { hash := PyData.keyHash P (Str.ofString "translation"), key := .str (Str.ofString "translation") 335, val := .ref 110 }, { hash := PyData.keyHash P (Str.ofString "scaling"), key := .str (Str.ofString "scaling") 343, val := .ref 117 }, { hash := PyData.keyHash P (Str.ofString "rotation"), key := .str (Str.ofString "rotation") 352, val := .ref 124 }, { hash := PyData.keyHash P (Str.ofString "concat"), key := .str (Str.ofString "concat") 360, val := .ref 131 }, { hash := PyData.keyHash P (Str.ofString "translated"), key := .str (Str.ofString "translated") 369, val := .ref 138 }, { hash := PyData.keyHash P (Str.ofString "scaled"), key := .str (Str.ofString "scaled") 378, val := .ref 145 }, { hash := PyData.keyHash P (Str.ofString "turned"), key := .str (Str.ofString "turned") 386, val := .ref 152 }, { hash := PyData.keyHash P (Str.ofString "determinant"), key := .str (Str.ofString "determinant") 393, val := .ref 159 }, { hash := PyData.keyHash P (Str.ofString "is_singular"), key := .str (Str.ofString "is_singular") 400, val := .ref 166 }, { hash := PyData.keyHash P (Str.ofString "need_regular"), key := .str (Str.ofString "need_regular") 408, val := .ref 173 }, { hash := PyData.keyHash P (Str.ofString "inverted"), key := .str (Str.ofString "inverted") 417, val := .ref 180 }, { hash := PyData.keyHash P (Str.ofString "transform"), key := .str (Str.ofString "transform") 426, val := .ref 187 }, { hash := PyData.keyHash P (Str.ofString "delta_transform"), key := .str (Str.ofString "delta_transform") 435, val := .ref 194 }, { hash := PyData.keyHash P (Str.ofString "inverse_delta"), key := .str (Str.ofString "inverse_delta") 445, val := .ref 201 }, { hash := PyData.keyHash P (Str.ofString "inverse_transform"), key := .str (Str.ofString "inverse_transform") 454, val := .ref 208 }, { hash := PyData.keyHash P (Str.ofString "_law_deck"), key := .str (Str.ofString "_law_deck") 462, val := .ref 213 }, { hash := PyData.keyHash P (Str.ofString "_law_draw"), key := .str (Str.ofString "_law_draw") 472, val := .ref 220 }, { hash := PyData.keyHash P (Str.ofString "_law_pick"), key := .str (Str.ofString "_law_pick") 480, val := .ref 227 }, { hash := PyData.keyHash P (Str.ofString "_law_grain"), key := .str (Str.ofString "_law_grain") 482, val := .int 1000000 481 }, { hash := PyData.keyHash P (Str.ofString "_law_near"), key := .str (Str.ofString "_law_near") 491, val := .ref 234 }] 45 }
noncomputable def ob9_196 (P : Params) : Obj := { cls := .none, data := .fields #[.int 3 0, .int 0 0, .ref 20, .int 7 0, .int 0 0, .ref 41, .int 15 0, .int 0 0, .ref 53, .int 19 0, .int 0 0, .ref 60, .int 21 0, .int 0 0, .ref 67, .int 30 0, .int 0 0, .ref 74, .int 39 0, .int 0 0, .ref 81, .int 48 0, .int 0 0, .ref 88, .int 51 0, .int 0 0, .ref 95, .int 53 0, .int 0 0, .ref 102, .int 55 0, .int 0 0, .ref 109, .int 57 0, .int 0 0, .ref 116, .int 59 0, .int 0 0, .ref 123, .int 62 0, .int 0 0, .ref 130, .int 64 0, .int 0 0, .ref 137, .int 66 0, .int 0 0, .ref 144, .int 68 0, .int 0 0, .ref 151, .int 70 0, .int 0 0, .ref 158, .int 72 0, .int 0 0, .ref 165, .int 74 0, .int 0 0, .ref 172, .int 79 0, .int 0 0, .ref 179, .int 83 0, .int 0 0, .ref 186, .int 85 0, .int 0 0, .ref 193, .int 87 0, .int 0 0, .ref 200, .int 90 0, .int 0 0, .ref 207, .int 93 0, .int 0 0, .ref 212, .int 98 0, .int 0 0, .ref 219, .int 110 0, .int 0 0, .ref 226, .int 113 0, .int 0 0, .ref 233] }
noncomputable def ob9_197 (P : Params) : Obj := { cls := .type "tuple", data := .seq #[] }
noncomputable def ob9_198 (P : Params) : Obj := { cls := .none, data := .fields #[] }
noncomputable def ob9_199 (P : Params) : Obj := { cls := .type "tuple", data := .seq #[.str (Str.ofString "m") 390] }
noncomputable def ob9_200 (P : Params) : Obj := { cls := .type "tuple", data := .seq #[] }
noncomputable def ob9_201 (P : Params) : Obj := fcO (stAt 26) "determinant"
noncomputable def ob9_202 (P : Params) : Obj := { cls := .type "code", data := .fields #[.str (Str.ofString "determinant") 387, .str (Str.ofString "determinant") 388, .str (Str.ofString "/claim/cut.py") 389, .int 70 0, .int 1 0, .int 0 0, .int 0 0, .int 3 0, .ref 153, .bool .true, .int 181 0, .ref 154, .none, .ref 155, .ref 156, .ref 157, .int 391 0, .int 70 0, .str (Str.ofString "/claim/cut.py") 392] }
noncomputable def ob9_203 (P : Params) : Obj := fnO (stAt 26) "determinant" (Value.none) "postcore.matrices" 312 158
noncomputable def ob9_204 (P : Params) : Obj := { cls := .type "tuple", data := .seq #[] }
noncomputable def ob9_205 (P : Params) : Obj := { cls := .none, data := .fields #[] }
noncomputable def ob9_206 (P : Params) : Obj := { cls := .type "tuple", data := .seq #[.str (Str.ofString "m") 397] }
noncomputable def ob9_207 (P : Params) : Obj := { cls := .type "tuple", data := .seq #[] }
noncomputable def ob9_208 (P : Params) : Obj := fcO (stAt 27) "is_singular"
noncomputable def ob9_209 (P : Params) : Obj := { cls := .type "code", data := .fields #[.str (Str.ofString "is_singular") 394, .str (Str.ofString "is_singular") 395, .str (Str.ofString "/claim/cut.py") 396, .int 72 0, .int 1 0, .int 0 0, .int 0 0, .int 3 0, .ref 160, .bool .true, .int 181 0, .ref 161, .none, .ref 162, .ref 163, .ref 164, .int 398 0, .int 72 0, .str (Str.ofString "/claim/cut.py") 399] }
noncomputable def ob9_210 (P : Params) : Obj := fnO (stAt 27) "is_singular" (Value.none) "postcore.matrices" 312 165
noncomputable def ob9_211 (P : Params) : Obj := { cls := .type "tuple", data := .seq #[] }
noncomputable def ob9_212 (P : Params) : Obj := { cls := .none, data := .fields #[] }
noncomputable def ob9_213 (P : Params) : Obj := { cls := .type "tuple", data := .seq #[.str (Str.ofString "m") 404, .str (Str.ofString "found") 405] }
noncomputable def ob9_214 (P : Params) : Obj := { cls := .type "tuple", data := .seq #[] }
noncomputable def ob9_215 (P : Params) : Obj := fcO (stAt 28) "need_regular"
noncomputable def ob9_216 (P : Params) : Obj := { cls := .type "code", data := .fields #[.str (Str.ofString "need_regular") 401, .str (Str.ofString "need_regular") 402, .str (Str.ofString "/claim/cut.py") 403, .int 74 0, .int 1 0, .int 0 0, .int 0 0, .int 3 0, .ref 167, .bool .true, .int 181 0, .ref 168, .none, .ref 169, .ref 170, .ref 171, .int 406 0, .int 74 0, .str (Str.ofString "/claim/cut.py") 407] }
noncomputable def ob9_217 (P : Params) : Obj := fnO (stAt 28) "need_regular" (Value.none) "postcore.matrices" 312 172
noncomputable def ob9_218 (P : Params) : Obj := { cls := .type "tuple", data := .seq #[] }
noncomputable def ob9_219 (P : Params) : Obj := { cls := .none, data := .fields #[] }
noncomputable def ob9_220 (P : Params) : Obj := { cls := .type "tuple", data := .seq #[.str (Str.ofString "m") 412, .str (Str.ofString "by") 413, .str (Str.ofString "grain") 414] }
noncomputable def ob9_221 (P : Params) : Obj := { cls := .type "tuple", data := .seq #[] }
noncomputable def ob9_222 (P : Params) : Obj := fcO (stAt 29) "inverted"
noncomputable def ob9_223 (P : Params) : Obj := { cls := .type "code", data := .fields #[.str (Str.ofString "inverted") 409, .str (Str.ofString "inverted") 410, .str (Str.ofString "/claim/cut.py") 411, .int 79 0, .int 1 0, .int 0 0, .int 0 0, .int 3 0, .ref 174, .bool .true, .int 181 0, .ref 175, .none, .ref 176, .ref 177, .ref 178, .int 415 0, .int 79 0, .str (Str.ofString "/claim/cut.py") 416] }
noncomputable def ob9_224 (P : Params) : Obj := fnO (stAt 29) "inverted" (Value.none) "postcore.matrices" 312 179
noncomputable def ob9_225 (P : Params) : Obj := { cls := .type "tuple", data := .seq #[] }
noncomputable def ob9_226 (P : Params) : Obj := { cls := .none, data := .fields #[] }
noncomputable def ob9_227 (P : Params) : Obj := { cls := .type "tuple", data := .seq #[.str (Str.ofString "m") 421, .str (Str.ofString "x") 422, .str (Str.ofString "y") 423] }
noncomputable def ob9_228 (P : Params) : Obj := { cls := .type "tuple", data := .seq #[] }
noncomputable def ob9_229 (P : Params) : Obj := fcO (stAt 30) "transform"
noncomputable def ob9_230 (P : Params) : Obj := { cls := .type "code", data := .fields #[.str (Str.ofString "transform") 418, .str (Str.ofString "transform") 419, .str (Str.ofString "/claim/cut.py") 420, .int 83 0, .int 3 0, .int 0 0, .int 0 0, .int 3 0, .ref 181, .bool .true, .int 181 0, .ref 182, .none, .ref 183, .ref 184, .ref 185, .int 424 0, .int 83 0, .str (Str.ofString "/claim/cut.py") 425] }
noncomputable def ob9_231 (P : Params) : Obj := fnO (stAt 30) "transform" (Value.none) "postcore.matrices" 312 186
noncomputable def ob9_232 (P : Params) : Obj := { cls := .type "tuple", data := .seq #[] }
noncomputable def ob9_233 (P : Params) : Obj := { cls := .none, data := .fields #[] }
noncomputable def ob9_234 (P : Params) : Obj := { cls := .type "tuple", data := .seq #[.str (Str.ofString "m") 430, .str (Str.ofString "x") 431, .str (Str.ofString "y") 432] }
noncomputable def ob9_235 (P : Params) : Obj := { cls := .type "tuple", data := .seq #[] }
noncomputable def ob9_236 (P : Params) : Obj := fcO (stAt 31) "delta_transform"
noncomputable def ob9_237 (P : Params) : Obj := { cls := .type "code", data := .fields #[.str (Str.ofString "delta_transform") 427, .str (Str.ofString "delta_transform") 428, .str (Str.ofString "/claim/cut.py") 429, .int 85 0, .int 3 0, .int 0 0, .int 0 0, .int 3 0, .ref 188, .bool .true, .int 181 0, .ref 189, .none, .ref 190, .ref 191, .ref 192, .int 433 0, .int 85 0, .str (Str.ofString "/claim/cut.py") 434] }
noncomputable def ob9_238 (P : Params) : Obj := fnO (stAt 31) "delta_transform" (Value.none) "postcore.matrices" 312 193
noncomputable def ob9_239 (P : Params) : Obj := { cls := .type "tuple", data := .seq #[] }
noncomputable def ob9_240 (P : Params) : Obj := { cls := .none, data := .fields #[] }
noncomputable def ob9_241 (P : Params) : Obj := { cls := .type "tuple", data := .seq #[.str (Str.ofString "m") 439, .str (Str.ofString "x") 440, .str (Str.ofString "y") 441, .str (Str.ofString "by") 442] }
noncomputable def ob9_242 (P : Params) : Obj := { cls := .type "tuple", data := .seq #[] }
noncomputable def ob9_243 (P : Params) : Obj := fcO (stAt 32) "inverse_delta"
noncomputable def ob9_244 (P : Params) : Obj := { cls := .type "code", data := .fields #[.str (Str.ofString "inverse_delta") 436, .str (Str.ofString "inverse_delta") 437, .str (Str.ofString "/claim/cut.py") 438, .int 87 0, .int 3 0, .int 0 0, .int 0 0, .int 3 0, .ref 195, .bool .true, .int 181 0, .ref 196, .none, .ref 197, .ref 198, .ref 199, .int 443 0, .int 87 0, .str (Str.ofString "/claim/cut.py") 444] }
noncomputable def ob9_245 (P : Params) : Obj := fnO (stAt 32) "inverse_delta" (Value.none) "postcore.matrices" 312 200
noncomputable def ob9_246 (P : Params) : Obj := { cls := .type "tuple", data := .seq #[] }
noncomputable def ob9_247 (P : Params) : Obj := { cls := .none, data := .fields #[] }
noncomputable def ob9_248 (P : Params) : Obj := { cls := .type "tuple", data := .seq #[.str (Str.ofString "m") 449, .str (Str.ofString "x") 450, .str (Str.ofString "y") 451] }
noncomputable def ob9_249 (P : Params) : Obj := { cls := .type "tuple", data := .seq #[] }
noncomputable def ob9_250 (P : Params) : Obj := fcO (stAt 33) "inverse_transform"
noncomputable def ob9_251 (P : Params) : Obj := { cls := .type "code", data := .fields #[.str (Str.ofString "inverse_transform") 446, .str (Str.ofString "inverse_transform") 447, .str (Str.ofString "/claim/cut.py") 448, .int 90 0, .int 3 0, .int 0 0, .int 0 0, .int 3 0, .ref 202, .bool .true, .int 181 0, .ref 203, .none, .ref 204, .ref 205, .ref 206, .int 452 0, .int 90 0, .str (Str.ofString "/claim/cut.py") 453] }
noncomputable def ob9_252 (P : Params) : Obj := fnO (stAt 33) "inverse_transform" (Value.none) "postcore.matrices" 312 207
noncomputable def ob9_253 (P : Params) : Obj := { cls := .type "tuple", data := .seq #[] }
noncomputable def ob9_254 (P : Params) : Obj := { cls := .none, data := .fields #[] }
noncomputable def ob9_255 (P : Params) : Obj := fcO (stAt 35) "_law_deck"
noncomputable def ob9_256 (P : Params) : Obj := { cls := .type "code", data := .fields #[.str (Str.ofString "_law_deck") 457, .str (Str.ofString "_law_deck") 458, .str (Str.ofString "/claim/cut.py") 459, .int 93 0, .int 1 0, .int 0 0, .int 0 0, .int 3 0, .ref 209, .bool .true, .int 181 0, .ref 210, .none, .none, .none, .ref 211, .int 460 0, .int 93 0, .str (Str.ofString "/claim/cut.py") 461] }
noncomputable def ob9_257 (P : Params) : Obj := fnO (stAt 35) "_law_deck" (Value.none) "law_nt0486_01" 455 212
noncomputable def ob9_258 (P : Params) : Obj := { cls := .type "tuple", data := .seq #[] }
noncomputable def ob9_259 (P : Params) : Obj := { cls := .none, data := .fields #[] }
noncomputable def ob9_260 (P : Params) : Obj := { cls := .type "tuple", data := .seq #[.str (Str.ofString "deck") 466, .str (Str.ofString "below") 467, .str (Str.ofString "figure") 468, .str (Str.ofString "cell") 469] }
noncomputable def ob9_261 (P : Params) : Obj := { cls := .type "tuple", data := .seq #[] }
noncomputable def ob9_262 (P : Params) : Obj := fcO (stAt 36) "_law_draw"
noncomputable def ob9_263 (P : Params) : Obj := { cls := .type "code", data := .fields #[.str (Str.ofString "_law_draw") 463, .str (Str.ofString "_law_draw") 464, .str (Str.ofString "/claim/cut.py") 465, .int 98 0, .int 2 0, .int 0 0, .int 0 0, .int 3 0, .ref 214, .bool .true, .int 181 0, .ref 215, .none, .ref 216, .ref 217, .ref 218, .int 470 0, .int 98 0, .str (Str.ofString "/claim/cut.py") 471] }
noncomputable def ob9_264 (P : Params) : Obj := fnO (stAt 36) "_law_draw" (Value.none) "law_nt0486_01" 455 219
noncomputable def ob9_265 (P : Params) : Obj := { cls := .type "tuple", data := .seq #[] }
noncomputable def ob9_266 (P : Params) : Obj := { cls := .none, data := .fields #[] }
noncomputable def ob9_267 (P : Params) : Obj := { cls := .type "tuple", data := .seq #[.str (Str.ofString "deck") 476, .str (Str.ofString "some") 477] }
noncomputable def ob9_268 (P : Params) : Obj := { cls := .type "tuple", data := .seq #[] }
noncomputable def ob9_269 (P : Params) : Obj := fcO (stAt 37) "_law_pick"
noncomputable def ob9_270 (P : Params) : Obj := { cls := .type "code", data := .fields #[.str (Str.ofString "_law_pick") 473, .str (Str.ofString "_law_pick") 474, .str (Str.ofString "/claim/cut.py") 475, .int 110 0, .int 2 0, .int 0 0, .int 0 0, .int 3 0, .ref 221, .bool .true, .int 181 0, .ref 222, .none, .ref 223, .ref 224, .ref 225, .int 478 0, .int 110 0, .str (Str.ofString "/claim/cut.py") 479] }
noncomputable def ob9_271 (P : Params) : Obj := fnO (stAt 37) "_law_pick" (Value.none) "law_nt0486_01" 455 226
noncomputable def ob9_272 (P : Params) : Obj := { cls := .type "tuple", data := .seq #[] }
noncomputable def ob9_273 (P : Params) : Obj := { cls := .none, data := .fields #[] }
noncomputable def ob9_274 (P : Params) : Obj := { cls := .type "tuple", data := .seq #[.str (Str.ofString "number") 486, .str (Str.ofString "by") 487, .str (Str.ofString "found") 488] }
noncomputable def ob9_275 (P : Params) : Obj := { cls := .type "tuple", data := .seq #[] }
noncomputable def ob9_276 (P : Params) : Obj := fcO (stAt 39) "_law_near"
noncomputable def ob9_277 (P : Params) : Obj := { cls := .type "code", data := .fields #[.str (Str.ofString "_law_near") 483, .str (Str.ofString "_law_near") 484, .str (Str.ofString "/claim/cut.py") 485, .int 113 0, .int 2 0, .int 0 0, .int 0 0, .int 3 0, .ref 228, .bool .true, .int 181 0, .ref 229, .none, .ref 230, .ref 231, .ref 232, .int 489 0, .int 113 0, .str (Str.ofString "/claim/cut.py") 490] }
noncomputable def ob9_278 (P : Params) : Obj := fnO (stAt 39) "_law_near" (Value.none) "law_nt0486_01" 455 233
noncomputable def ob9_279 (P : Params) : Obj := { cls := .type "dict", data := .dict #[{ hash := PyData.keyHash P (Str.ofString "__name__"), key := .str (Str.ofString "__name__") 165, val := .str (Str.ofString "law_nt0486_01") 455 }, { hash := PyData.keyHash P (Str.ofString "__doc__"), key := .str (Str.ofString "__doc__") 166, val := .none }, { hash := PyData.keyHash P (Str.ofString "__package__"), key := .str (Str.ofString "__package__") 167, val := .none }, { hash := PyData.keyHash P (Str.ofString "__loader__"), key := .str (Str.ofString "__loader__") 168, val := .builtin "__main__.__loader__#opaque" }, { hash := PyData.keyHash P (Str.ofString "__spec__"), key := .str (Str.ofString "__spec__") 169, val := .none }, { hash := PyData.keyHash P (Str.ofString "__annotations__"), key := .str (Str.ofString "__annotations__") 170, val := .ref 6 }, { hash := PyData.keyHash P (Str.ofString "__builtins__"), key := .str (Str.ofString "__builtins__") 171, val := .ref 4 }, { hash := PyData.keyHash P (Str.ofString "__file__"), key := .str (Str.ofString "__file__") 173, val := .str (Str.ofString "/claim/cut.py") 172 }, { hash := PyData.keyHash P (Str.ofString "__cached__"), key := .str (Str.ofString "__cached__") 174, val := .none }, { hash := PyData.keyHash P (Str.ofString "GRAIN"), key := .str (Str.ofString "GRAIN") 190, val := .int 1000000 189 }, { hash := PyData.keyHash P (Str.ofString "PostError"), key := .str (Str.ofString "PostError") 219, val := .ref 32 }, { hash := PyData.keyHash P (Str.ofString "PsError"), key := .str (Str.ofString "PsError") 235, val := .ref 45 }, { hash := PyData.keyHash P (Str.ofString "FINE"), key := .str (Str.ofString "FINE") 241, val := .int 1000000000000000000000000000000000000 240 }, { hash := PyData.keyHash P (Str.ofString "PI_FINE"), key := .str (Str.ofString "PI_FINE") 243, val := .int 3141592653589793238462643383279502884 242 }, { hash := PyData.keyHash P (Str.ofString "QUARTER"), key := .str (Str.ofString "QUARTER") 246, val := .int 90000000 245 }, { hash := PyData.keyHash P (Str.ofString "HALF_TURN"), key := .str (Str.ofString "HALF_TURN") 249, val := .int 180000000 248 }, { hash := PyData.keyHash P (Str.ofString "WHOLE_TURN"), key := .str (Str.ofString "WHOLE_TURN") 252, val := .int 360000000 251 }, { hash := PyData.keyHash P (Str.ofString "divided"), key := .str (Str.ofString "divided") 263, val := .ref 54 }, { hash := PyData.keyHash P (Str.ofString "fine_product"), key := .str (Str.ofString "fine_product") 271, val := .ref 61 }, { hash := PyData.keyHash P (Str.ofString "fine_sine_near"), key := .str (Str.ofString "fine_sine_near") 282, val := .ref 68 }, { hash := PyData.keyHash P (Str.ofString "fine_cosine_near"), key := .str (Str.ofString "fine_cosine_near") 294, val := .ref 75 }, { hash := PyData.keyHash P (Str.ofString "sine"), key := .str (Str.ofString "sine") 304, val := .ref 82 }, { hash := PyData.keyHash P (Str.ofString "cosine"), key := .str (Str.ofString "cosine") 311, val := .ref 89 }, { hash := PyData.keyHash P (Str.ofString "matrix_quotient"), key := .str (Str.ofString "matrix_quotient") 321, val := .ref 96 }, { hash := PyData.keyHash P (Str.ofString "identity"), key := .str (Str.ofString "identity") 327, val := .ref 103 }, { hash := PyData.keyHash P (Str.ofString "translation"), key := .str (Str.ofString "translation") 335, val := .ref 110 }, { hash := PyData.keyHash P (Str.ofString "scaling"), key := .str (Str.ofString "scaling") 343, val := .ref 117 }, { hash := PyData.keyHash P (Str.ofString "rotation"), key := .str (Str.ofString "rotation") 352, val := .ref 124 }, { hash := PyData.keyHash P (Str.ofString "concat"), key := .str (Str.ofString "concat") 360, val := .ref 131 }, { hash := PyData.keyHash P (Str.ofString "translated"), key := .str (Str.ofString "translated") 369, val := .ref 138 }, { hash := PyData.keyHash P (Str.ofString "scaled"), key := .str (Str.ofString "scaled") 378, val := .ref 145 }, { hash := PyData.keyHash P (Str.ofString "turned"), key := .str (Str.ofString "turned") 386, val := .ref 152 }, { hash := PyData.keyHash P (Str.ofString "determinant"), key := .str (Str.ofString "determinant") 393, val := .ref 159 }, { hash := PyData.keyHash P (Str.ofString "is_singular"), key := .str (Str.ofString "is_singular") 400, val := .ref 166 }, { hash := PyData.keyHash P (Str.ofString "need_regular"), key := .str (Str.ofString "need_regular") 408, val := .ref 173 }, { hash := PyData.keyHash P (Str.ofString "inverted"), key := .str (Str.ofString "inverted") 417, val := .ref 180 }, { hash := PyData.keyHash P (Str.ofString "transform"), key := .str (Str.ofString "transform") 426, val := .ref 187 }, { hash := PyData.keyHash P (Str.ofString "delta_transform"), key := .str (Str.ofString "delta_transform") 435, val := .ref 194 }, { hash := PyData.keyHash P (Str.ofString "inverse_delta"), key := .str (Str.ofString "inverse_delta") 445, val := .ref 201 }, { hash := PyData.keyHash P (Str.ofString "inverse_transform"), key := .str (Str.ofString "inverse_transform") 454, val := .ref 208 }, { hash := PyData.keyHash P (Str.ofString "_law_deck"), key := .str (Str.ofString "_law_deck") 462, val := .ref 213 }, { hash := PyData.keyHash P (Str.ofString "_law_draw"), key := .str (Str.ofString "_law_draw") 472, val := .ref 220 }, { hash := PyData.keyHash P (Str.ofString "_law_pick"), key := .str (Str.ofString "_law_pick") 480, val := .ref 227 }, { hash := PyData.keyHash P (Str.ofString "_law_grain"), key := .str (Str.ofString "_law_grain") 482, val := .int 1000000 481 }, { hash := PyData.keyHash P (Str.ofString "_law_near"), key := .str (Str.ofString "_law_near") 491, val := .ref 234 }, { hash := PyData.keyHash P (Str.ofString "_law_matrix"), key := .str (Str.ofString "_law_matrix") 497, val := .ref 239 }, { hash := PyData.keyHash P (Str.ofString "_law_put"), key := .str (Str.ofString "_law_put") 503, val := .ref 244 }, { hash := PyData.keyHash P (Str.ofString "_law_told"), key := .str (Str.ofString "_law_told") 512, val := .ref 251 }, { hash := PyData.keyHash P (Str.ofString "_law_points_right"), key := .str (Str.ofString "_law_points_right") 518, val := .ref 256 }, { hash := PyData.keyHash P (Str.ofString "law"), key := .str (Str.ofString "law") 536, val := .ref 263 }] 50 }
noncomputable def ob9_280 (P : Params) : Obj := { cls := .none, data := .fields #[.int 3 0, .int 0 0, .ref 20, .int 7 0, .int 0 0, .ref 41, .int 15 0, .int 0 0, .ref 53, .int 19 0, .int 0 0, .ref 60, .int 21 0, .int 0 0, .ref 67, .int 30 0, .int 0 0, .ref 74, .int 39 0, .int 0 0, .ref 81, .int 48 0, .int 0 0, .ref 88, .int 51 0, .int 0 0, .ref 95, .int 53 0, .int 0 0, .ref 102, .int 55 0, .int 0 0, .ref 109, .int 57 0, .int 0 0, .ref 116, .int 59 0, .int 0 0, .ref 123, .int 62 0, .int 0 0, .ref 130, .int 64 0, .int 0 0, .ref 137, .int 66 0, .int 0 0, .ref 144, .int 68 0, .int 0 0, .ref 151, .int 70 0, .int 0 0, .ref 158, .int 72 0, .int 0 0, .ref 165, .int 74 0, .int 0 0, .ref 172, .int 79 0, .int 0 0, .ref 179, .int 83 0, .int 0 0, .ref 186, .int 85 0, .int 0 0, .ref 193, .int 87 0, .int 0 0, .ref 200, .int 90 0, .int 0 0, .ref 207, .int 93 0, .int 0 0, .ref 212, .int 98 0, .int 0 0, .ref 219, .int 110 0, .int 0 0, .ref 226, .int 113 0, .int 0 0, .ref 233, .int 117 0, .int 0 0, .ref 238, .int 123 0, .int 0 0, .ref 243, .int 129 0, .int 0 0, .ref 250, .int 136 0, .int 0 0, .ref 255, .int 157 0, .int 0 0, .ref 262] }
noncomputable def ob9_281 (P : Params) : Obj := { cls := .type "tuple", data := .seq #[] }
noncomputable def ob9_282 (P : Params) : Obj := { cls := .none, data := .fields #[] }
noncomputable def ob9_283 (P : Params) : Obj := fcO (stAt 40) "_law_matrix"
noncomputable def ob9_284 (P : Params) : Obj := { cls := .type "code", data := .fields #[.str (Str.ofString "_law_matrix") 492, .str (Str.ofString "_law_matrix") 493, .str (Str.ofString "/claim/cut.py") 494, .int 117 0, .int 1 0, .int 0 0, .int 0 0, .int 3 0, .ref 235, .bool .true, .int 181 0, .ref 236, .none, .none, .none, .ref 237, .int 495 0, .int 117 0, .str (Str.ofString "/claim/cut.py") 496] }
noncomputable def ob9_285 (P : Params) : Obj := fnO (stAt 40) "_law_matrix" (Value.none) "law_nt0486_01" 455 238
noncomputable def ob9_286 (P : Params) : Obj := { cls := .type "tuple", data := .seq #[] }
noncomputable def ob9_287 (P : Params) : Obj := { cls := .none, data := .fields #[] }
noncomputable def ob9_288 (P : Params) : Obj := fcO (stAt 41) "_law_put"
noncomputable def ob9_289 (P : Params) : Obj := { cls := .type "code", data := .fields #[.str (Str.ofString "_law_put") 498, .str (Str.ofString "_law_put") 499, .str (Str.ofString "/claim/cut.py") 500, .int 123 0, .int 2 0, .int 0 0, .int 0 0, .int 3 0, .ref 240, .bool .true, .int 181 0, .ref 241, .none, .none, .none, .ref 242, .int 501 0, .int 123 0, .str (Str.ofString "/claim/cut.py") 502] }
noncomputable def ob9_290 (P : Params) : Obj := fnO (stAt 41) "_law_put" (Value.none) "law_nt0486_01" 455 243
noncomputable def ob9_291 (P : Params) : Obj := { cls := .type "tuple", data := .seq #[] }
noncomputable def ob9_292 (P : Params) : Obj := { cls := .none, data := .fields #[] }
noncomputable def ob9_293 (P : Params) : Obj := { cls := .type "tuple", data := .seq #[.str (Str.ofString "call") 507, .str (Str.ofString "found") 508, .str (Str.ofString "e") 509] }
noncomputable def ob9_294 (P : Params) : Obj := { cls := .type "tuple", data := .seq #[] }
noncomputable def ob9_295 (P : Params) : Obj := fcO (stAt 42) "_law_told"
noncomputable def ob9_296 (P : Params) : Obj := { cls := .type "code", data := .fields #[.str (Str.ofString "_law_told") 504, .str (Str.ofString "_law_told") 505, .str (Str.ofString "/claim/cut.py") 506, .int 129 0, .int 1 0, .int 0 0, .int 0 0, .int 3 0, .ref 245, .bool .true, .int 181 0, .ref 246, .none, .ref 247, .ref 248, .ref 249, .int 510 0, .int 129 0, .str (Str.ofString "/claim/cut.py") 511] }
noncomputable def ob9_297 (P : Params) : Obj := fnO (stAt 42) "_law_told" (Value.none) "law_nt0486_01" 455 250
noncomputable def ob9_298 (P : Params) : Obj := { cls := .type "tuple", data := .seq #[] }
noncomputable def ob9_299 (P : Params) : Obj := { cls := .none, data := .fields #[] }
noncomputable def ob9_300 (P : Params) : Obj := fcO (stAt 43) "_law_points_right"
noncomputable def ob9_301 (P : Params) : Obj := { cls := .type "code", data := .fields #[.str (Str.ofString "_law_points_right") 513, .str (Str.ofString "_law_points_right") 514, .str (Str.ofString "/claim/cut.py") 515, .int 136 0, .int 3 0, .int 0 0, .int 0 0, .int 3 0, .ref 252, .bool .true, .int 181 0, .ref 253, .none, .none, .none, .ref 254, .int 516 0, .int 136 0, .str (Str.ofString "/claim/cut.py") 517] }
noncomputable def ob9_302 (P : Params) : Obj := fnO (stAt 43) "_law_points_right" (Value.none) "law_nt0486_01" 455 255
noncomputable def ob9_303 (P : Params) : Obj := { cls := .type "tuple", data := .seq #[] }
noncomputable def ob9_304 (P : Params) : Obj := { cls := .none, data := .fields #[] }
noncomputable def ob9_305 (P : Params) : Obj := { cls := .type "tuple", data := .seq #[.str (Str.ofString "script") 522, .str (Str.ofString "deck") 523, .str (Str.ofString "m") 524, .str (Str.ofString "n") 525, .str (Str.ofString "x") 526, .str (Str.ofString "y") 527, .str (Str.ofString "was") 528, .str (Str.ofString "quarter") 529, .str (Str.ofString "cos") 530, .str (Str.ofString "sin") 531, .str (Str.ofString "turn") 532, .str (Str.ofString "half") 533] }
noncomputable def ob9_306 (P : Params) : Obj := { cls := .type "tuple", data := .seq #[] }
noncomputable def ob9_307 (P : Params) : Obj := fcO (stAt 44) "law"
noncomputable def ob9_308 (P : Params) : Obj := { cls := .type "code", data := .fields #[.str (Str.ofString "law") 519, .str (Str.ofString "law") 520, .str (Str.ofString "/claim/cut.py") 521, .int 157 0, .int 1 0, .int 0 0, .int 0 0, .int 3 0, .ref 257, .bool .true, .int 181 0, .ref 258, .none, .ref 259, .ref 260, .ref 261, .int 534 0, .int 157 0, .str (Str.ofString "/claim/cut.py") 535] }
noncomputable def ob9_309 (P : Params) : Obj := fnO (stAt 44) "law" (Value.none) "law_nt0486_01" 455 262
noncomputable def heap9 : Params → Heap := fun P => { objs := { toList := [
  boot_o_0 P,
  boot_o_1 P,
  ob9_49 P,
  ob9_279 P,
  boot_o_4 P,
  boot_o_5 P,
  boot_o_6 P,
  boot_o_7 P,
  boot_o_8 P,
  boot_o_9 P,
  boot_o_10 P,
  ob9_43 P,
  ob9_280 P,
  ob9_45 P,
  ob9_46 P,
  ob9_52 P,
  ob9_53 P,
  ob9_54 P,
  ob9_55 P,
  ob9_56 P,
  ob9_57 P,
  ob9_58 P,
  ob9_59 P,
  ob9_60 P,
  ob9_61 P,
  ob9_62 P,
  ob9_63 P,
  ob9_64 P,
  ob9_65 P,
  ob9_66 P,
  ob9_67 P,
  ob9_68 P,
  ob9_75 P,
  ob9_70 P,
  ob9_71 P,
  ob9_72 P,
  ob9_76 P,
  ob9_77 P,
  ob9_78 P,
  ob9_79 P,
  ob9_80 P,
  ob9_81 P,
  ob9_82 P,
  ob9_83 P,
  ob9_84 P,
  ob9_85 P,
  ob9_86 P,
  ob9_87 P,
  ob9_88 P,
  ob9_89 P,
  ob9_90 P,
  ob9_91 P,
  ob9_92 P,
  ob9_93 P,
  ob9_94 P,
  ob9_95 P,
  ob9_96 P,
  ob9_97 P,
  ob9_98 P,
  ob9_99 P,
  ob9_100 P,
  ob9_101 P,
  ob9_102 P,
  ob9_103 P,
  ob9_104 P,
  ob9_105 P,
  ob9_106 P,
  ob9_107 P,
  ob9_108 P,
  ob9_111 P,
  ob9_112 P,
  ob9_113 P,
  ob9_114 P,
  ob9_115 P,
  ob9_116 P,
  ob9_117 P,
  ob9_118 P,
  ob9_119 P,
  ob9_120 P,
  ob9_121 P,
  ob9_122 P,
  ob9_123 P,
  ob9_124 P,
  ob9_125 P,
  ob9_126 P,
  ob9_127 P,
  ob9_128 P,
  ob9_129 P,
  ob9_130 P,
  ob9_131 P,
  ob9_132 P,
  ob9_133 P,
  ob9_134 P,
  ob9_135 P,
  ob9_136 P,
  ob9_137 P,
  ob9_138 P,
  ob9_139 P,
  ob9_140 P,
  ob9_141 P,
  ob9_142 P,
  ob9_143 P,
  ob9_144 P,
  ob9_145 P,
  ob9_146 P,
  ob9_147 P,
  ob9_148 P,
  ob9_149 P,
  ob9_150 P,
  ob9_151 P,
  ob9_152 P,
  ob9_153 P,
  ob9_154 P,
  ob9_155 P,
  ob9_156 P,
  ob9_157 P,
  ob9_158 P,
  ob9_159 P,
  ob9_160 P,
  ob9_161 P,
  ob9_162 P,
  ob9_163 P,
  ob9_164 P,
  ob9_165 P,
  ob9_166 P,
  ob9_167 P,
  ob9_168 P,
  ob9_169 P,
  ob9_170 P,
  ob9_171 P,
  ob9_172 P,
  ob9_173 P,
  ob9_174 P,
  ob9_175 P,
  ob9_176 P,
  ob9_177 P,
  ob9_178 P,
  ob9_179 P,
  ob9_180 P,
  ob9_181 P,
  ob9_182 P,
  ob9_183 P,
  ob9_184 P,
  ob9_185 P,
  ob9_186 P,
  ob9_187 P,
  ob9_188 P,
  ob9_189 P,
  ob9_190 P,
  ob9_191 P,
  ob9_192 P,
  ob9_193 P,
  ob9_194 P,
  ob9_197 P,
  ob9_198 P,
  ob9_199 P,
  ob9_200 P,
  ob9_201 P,
  ob9_202 P,
  ob9_203 P,
  ob9_204 P,
  ob9_205 P,
  ob9_206 P,
  ob9_207 P,
  ob9_208 P,
  ob9_209 P,
  ob9_210 P,
  ob9_211 P,
  ob9_212 P,
  ob9_213 P,
  ob9_214 P,
  ob9_215 P,
  ob9_216 P,
  ob9_217 P,
  ob9_218 P,
  ob9_219 P,
  ob9_220 P,
  ob9_221 P,
  ob9_222 P,
  ob9_223 P,
  ob9_224 P,
  ob9_225 P,
  ob9_226 P,
  ob9_227 P,
  ob9_228 P,
  ob9_229 P,
  ob9_230 P,
  ob9_231 P,
  ob9_232 P,
  ob9_233 P,
  ob9_234 P,
  ob9_235 P,
  ob9_236 P,
  ob9_237 P,
  ob9_238 P,
  ob9_239 P,
  ob9_240 P,
  ob9_241 P,
  ob9_242 P,
  ob9_243 P,
  ob9_244 P,
  ob9_245 P,
  ob9_246 P,
  ob9_247 P,
  ob9_248 P,
  ob9_249 P,
  ob9_250 P,
  ob9_251 P,
  ob9_252 P,
  ob9_253 P,
  ob9_254 P,
  ob9_255 P,
  ob9_256 P,
  ob9_257 P,
  ob9_258 P,
  ob9_259 P,
  ob9_260 P,
  ob9_261 P,
  ob9_262 P,
  ob9_263 P,
  ob9_264 P,
  ob9_265 P,
  ob9_266 P,
  ob9_267 P,
  ob9_268 P,
  ob9_269 P,
  ob9_270 P,
  ob9_271 P,
  ob9_272 P,
  ob9_273 P,
  ob9_274 P,
  ob9_275 P,
  ob9_276 P,
  ob9_277 P,
  ob9_278 P,
  ob9_281 P,
  ob9_282 P,
  ob9_283 P,
  ob9_284 P,
  ob9_285 P,
  ob9_286 P,
  ob9_287 P,
  ob9_288 P,
  ob9_289 P,
  ob9_290 P,
  ob9_291 P,
  ob9_292 P,
  ob9_293 P,
  ob9_294 P,
  ob9_295 P,
  ob9_296 P,
  ob9_297 P,
  ob9_298 P,
  ob9_299 P,
  ob9_300 P,
  ob9_301 P,
  ob9_302 P,
  ob9_303 P,
  ob9_304 P,
  ob9_305 P,
  ob9_306 P,
  ob9_307 P,
  ob9_308 P,
  ob9_309 P] } }
noncomputable def tr47 : Params → BT := fun P =>
  BT.node (boot_o_0 P) (BT.node (boot_o_1 P) (BT.node (boot_o_3 P) (BT.node (boot_o_7 P) BT.nil BT.nil) (BT.node (ob9_43 P) BT.nil BT.nil)) (BT.node (boot_o_5 P) (BT.node (boot_o_9 P) BT.nil BT.nil) (BT.node (ob9_45 P) BT.nil BT.nil))) (BT.node (boot_o_2 P) (BT.node (boot_o_4 P) (BT.node (boot_o_8 P) BT.nil BT.nil) (BT.node (ob9_44 P) BT.nil BT.nil)) (BT.node (boot_o_6 P) (BT.node (boot_o_10 P) BT.nil BT.nil) (BT.node (ob9_46 P) BT.nil BT.nil)))
noncomputable def tr72 : Params → BT := fun P =>
  BT.node (boot_o_0 P) (BT.node (boot_o_1 P) (BT.node (ob9_50 P) (BT.node (boot_o_7 P) (BT.node (ob9_52 P) (BT.node (ob9_68 P) BT.nil BT.nil) BT.nil) (BT.node (ob9_60 P) BT.nil BT.nil)) (BT.node (ob9_43 P) (BT.node (ob9_56 P) (BT.node (ob9_72 P) BT.nil BT.nil) BT.nil) (BT.node (ob9_64 P) BT.nil BT.nil))) (BT.node (boot_o_5 P) (BT.node (boot_o_9 P) (BT.node (ob9_54 P) (BT.node (ob9_70 P) BT.nil BT.nil) BT.nil) (BT.node (ob9_62 P) BT.nil BT.nil)) (BT.node (ob9_45 P) (BT.node (ob9_58 P) BT.nil BT.nil) (BT.node (ob9_66 P) BT.nil BT.nil)))) (BT.node (ob9_49 P) (BT.node (boot_o_4 P) (BT.node (boot_o_8 P) (BT.node (ob9_53 P) (BT.node (ob9_69 P) BT.nil BT.nil) BT.nil) (BT.node (ob9_61 P) BT.nil BT.nil)) (BT.node (ob9_51 P) (BT.node (ob9_57 P) BT.nil BT.nil) (BT.node (ob9_65 P) BT.nil BT.nil))) (BT.node (boot_o_6 P) (BT.node (boot_o_10 P) (BT.node (ob9_55 P) (BT.node (ob9_71 P) BT.nil BT.nil) BT.nil) (BT.node (ob9_63 P) BT.nil BT.nil)) (BT.node (ob9_46 P) (BT.node (ob9_59 P) BT.nil BT.nil) (BT.node (ob9_67 P) BT.nil BT.nil))))
noncomputable def tr108 : Params → BT := fun P =>
  BT.node (boot_o_0 P) (BT.node (boot_o_1 P) (BT.node (ob9_73 P) (BT.node (boot_o_7 P) (BT.node (ob9_52 P) (BT.node (ob9_68 P) (BT.node (ob9_103 P) BT.nil BT.nil) BT.nil) (BT.node (ob9_87 P) BT.nil BT.nil)) (BT.node (ob9_60 P) (BT.node (ob9_79 P) BT.nil BT.nil) (BT.node (ob9_95 P) BT.nil BT.nil))) (BT.node (ob9_43 P) (BT.node (ob9_56 P) (BT.node (ob9_72 P) (BT.node (ob9_107 P) BT.nil BT.nil) BT.nil) (BT.node (ob9_91 P) BT.nil BT.nil)) (BT.node (ob9_64 P) (BT.node (ob9_83 P) BT.nil BT.nil) (BT.node (ob9_99 P) BT.nil BT.nil)))) (BT.node (boot_o_5 P) (BT.node (boot_o_9 P) (BT.node (ob9_54 P) (BT.node (ob9_70 P) (BT.node (ob9_105 P) BT.nil BT.nil) BT.nil) (BT.node (ob9_89 P) BT.nil BT.nil)) (BT.node (ob9_62 P) (BT.node (ob9_81 P) BT.nil BT.nil) (BT.node (ob9_97 P) BT.nil BT.nil))) (BT.node (ob9_45 P) (BT.node (ob9_58 P) (BT.node (ob9_77 P) BT.nil BT.nil) (BT.node (ob9_93 P) BT.nil BT.nil)) (BT.node (ob9_66 P) (BT.node (ob9_85 P) BT.nil BT.nil) (BT.node (ob9_101 P) BT.nil BT.nil))))) (BT.node (ob9_49 P) (BT.node (boot_o_4 P) (BT.node (boot_o_8 P) (BT.node (ob9_53 P) (BT.node (ob9_75 P) (BT.node (ob9_104 P) BT.nil BT.nil) BT.nil) (BT.node (ob9_88 P) BT.nil BT.nil)) (BT.node (ob9_61 P) (BT.node (ob9_80 P) BT.nil BT.nil) (BT.node (ob9_96 P) BT.nil BT.nil))) (BT.node (ob9_74 P) (BT.node (ob9_57 P) (BT.node (ob9_76 P) (BT.node (ob9_108 P) BT.nil BT.nil) BT.nil) (BT.node (ob9_92 P) BT.nil BT.nil)) (BT.node (ob9_65 P) (BT.node (ob9_84 P) BT.nil BT.nil) (BT.node (ob9_100 P) BT.nil BT.nil)))) (BT.node (boot_o_6 P) (BT.node (boot_o_10 P) (BT.node (ob9_55 P) (BT.node (ob9_71 P) (BT.node (ob9_106 P) BT.nil BT.nil) BT.nil) (BT.node (ob9_90 P) BT.nil BT.nil)) (BT.node (ob9_63 P) (BT.node (ob9_82 P) BT.nil BT.nil) (BT.node (ob9_98 P) BT.nil BT.nil))) (BT.node (ob9_46 P) (BT.node (ob9_59 P) (BT.node (ob9_78 P) BT.nil BT.nil) (BT.node (ob9_94 P) BT.nil BT.nil)) (BT.node (ob9_67 P) (BT.node (ob9_86 P) BT.nil BT.nil) (BT.node (ob9_102 P) BT.nil BT.nil)))))
noncomputable def tr194 : Params → BT := fun P =>
  BT.node (boot_o_0 P) (BT.node (boot_o_1 P) (BT.node (ob9_109 P) (BT.node (boot_o_7 P) (BT.node (ob9_52 P) (BT.node (ob9_68 P) (BT.node (ob9_103 P) (BT.node (ob9_169 P) BT.nil BT.nil) BT.nil) (BT.node (ob9_137 P) BT.nil BT.nil)) (BT.node (ob9_87 P) (BT.node (ob9_121 P) (BT.node (ob9_185 P) BT.nil BT.nil) BT.nil) (BT.node (ob9_153 P) BT.nil BT.nil))) (BT.node (ob9_60 P) (BT.node (ob9_79 P) (BT.node (ob9_113 P) (BT.node (ob9_177 P) BT.nil BT.nil) BT.nil) (BT.node (ob9_145 P) BT.nil BT.nil)) (BT.node (ob9_95 P) (BT.node (ob9_129 P) (BT.node (ob9_193 P) BT.nil BT.nil) BT.nil) (BT.node (ob9_161 P) BT.nil BT.nil)))) (BT.node (ob9_43 P) (BT.node (ob9_56 P) (BT.node (ob9_72 P) (BT.node (ob9_107 P) (BT.node (ob9_173 P) BT.nil BT.nil) BT.nil) (BT.node (ob9_141 P) BT.nil BT.nil)) (BT.node (ob9_91 P) (BT.node (ob9_125 P) (BT.node (ob9_189 P) BT.nil BT.nil) BT.nil) (BT.node (ob9_157 P) BT.nil BT.nil))) (BT.node (ob9_64 P) (BT.node (ob9_83 P) (BT.node (ob9_117 P) (BT.node (ob9_181 P) BT.nil BT.nil) BT.nil) (BT.node (ob9_149 P) BT.nil BT.nil)) (BT.node (ob9_99 P) (BT.node (ob9_133 P) BT.nil BT.nil) (BT.node (ob9_165 P) BT.nil BT.nil))))) (BT.node (boot_o_5 P) (BT.node (boot_o_9 P) (BT.node (ob9_54 P) (BT.node (ob9_70 P) (BT.node (ob9_105 P) (BT.node (ob9_171 P) BT.nil BT.nil) BT.nil) (BT.node (ob9_139 P) BT.nil BT.nil)) (BT.node (ob9_89 P) (BT.node (ob9_123 P) (BT.node (ob9_187 P) BT.nil BT.nil) BT.nil) (BT.node (ob9_155 P) BT.nil BT.nil))) (BT.node (ob9_62 P) (BT.node (ob9_81 P) (BT.node (ob9_115 P) (BT.node (ob9_179 P) BT.nil BT.nil) BT.nil) (BT.node (ob9_147 P) BT.nil BT.nil)) (BT.node (ob9_97 P) (BT.node (ob9_131 P) BT.nil BT.nil) (BT.node (ob9_163 P) BT.nil BT.nil)))) (BT.node (ob9_45 P) (BT.node (ob9_58 P) (BT.node (ob9_77 P) (BT.node (ob9_111 P) (BT.node (ob9_175 P) BT.nil BT.nil) BT.nil) (BT.node (ob9_143 P) BT.nil BT.nil)) (BT.node (ob9_93 P) (BT.node (ob9_127 P) (BT.node (ob9_191 P) BT.nil BT.nil) BT.nil) (BT.node (ob9_159 P) BT.nil BT.nil))) (BT.node (ob9_66 P) (BT.node (ob9_85 P) (BT.node (ob9_119 P) (BT.node (ob9_183 P) BT.nil BT.nil) BT.nil) (BT.node (ob9_151 P) BT.nil BT.nil)) (BT.node (ob9_101 P) (BT.node (ob9_135 P) BT.nil BT.nil) (BT.node (ob9_167 P) BT.nil BT.nil)))))) (BT.node (ob9_49 P) (BT.node (boot_o_4 P) (BT.node (boot_o_8 P) (BT.node (ob9_53 P) (BT.node (ob9_75 P) (BT.node (ob9_104 P) (BT.node (ob9_170 P) BT.nil BT.nil) BT.nil) (BT.node (ob9_138 P) BT.nil BT.nil)) (BT.node (ob9_88 P) (BT.node (ob9_122 P) (BT.node (ob9_186 P) BT.nil BT.nil) BT.nil) (BT.node (ob9_154 P) BT.nil BT.nil))) (BT.node (ob9_61 P) (BT.node (ob9_80 P) (BT.node (ob9_114 P) (BT.node (ob9_178 P) BT.nil BT.nil) BT.nil) (BT.node (ob9_146 P) BT.nil BT.nil)) (BT.node (ob9_96 P) (BT.node (ob9_130 P) (BT.node (ob9_194 P) BT.nil BT.nil) BT.nil) (BT.node (ob9_162 P) BT.nil BT.nil)))) (BT.node (ob9_110 P) (BT.node (ob9_57 P) (BT.node (ob9_76 P) (BT.node (ob9_108 P) (BT.node (ob9_174 P) BT.nil BT.nil) BT.nil) (BT.node (ob9_142 P) BT.nil BT.nil)) (BT.node (ob9_92 P) (BT.node (ob9_126 P) (BT.node (ob9_190 P) BT.nil BT.nil) BT.nil) (BT.node (ob9_158 P) BT.nil BT.nil))) (BT.node (ob9_65 P) (BT.node (ob9_84 P) (BT.node (ob9_118 P) (BT.node (ob9_182 P) BT.nil BT.nil) BT.nil) (BT.node (ob9_150 P) BT.nil BT.nil)) (BT.node (ob9_100 P) (BT.node (ob9_134 P) BT.nil BT.nil) (BT.node (ob9_166 P) BT.nil BT.nil))))) (BT.node (boot_o_6 P) (BT.node (boot_o_10 P) (BT.node (ob9_55 P) (BT.node (ob9_71 P) (BT.node (ob9_106 P) (BT.node (ob9_172 P) BT.nil BT.nil) BT.nil) (BT.node (ob9_140 P) BT.nil BT.nil)) (BT.node (ob9_90 P) (BT.node (ob9_124 P) (BT.node (ob9_188 P) BT.nil BT.nil) BT.nil) (BT.node (ob9_156 P) BT.nil BT.nil))) (BT.node (ob9_63 P) (BT.node (ob9_82 P) (BT.node (ob9_116 P) (BT.node (ob9_180 P) BT.nil BT.nil) BT.nil) (BT.node (ob9_148 P) BT.nil BT.nil)) (BT.node (ob9_98 P) (BT.node (ob9_132 P) BT.nil BT.nil) (BT.node (ob9_164 P) BT.nil BT.nil)))) (BT.node (ob9_46 P) (BT.node (ob9_59 P) (BT.node (ob9_78 P) (BT.node (ob9_112 P) (BT.node (ob9_176 P) BT.nil BT.nil) BT.nil) (BT.node (ob9_144 P) BT.nil BT.nil)) (BT.node (ob9_94 P) (BT.node (ob9_128 P) (BT.node (ob9_192 P) BT.nil BT.nil) BT.nil) (BT.node (ob9_160 P) BT.nil BT.nil))) (BT.node (ob9_67 P) (BT.node (ob9_86 P) (BT.node (ob9_120 P) (BT.node (ob9_184 P) BT.nil BT.nil) BT.nil) (BT.node (ob9_152 P) BT.nil BT.nil)) (BT.node (ob9_102 P) (BT.node (ob9_136 P) BT.nil BT.nil) (BT.node (ob9_168 P) BT.nil BT.nil))))))
noncomputable def tr278 : Params → BT := fun P =>
  BT.node (boot_o_0 P) (BT.node (boot_o_1 P) (BT.node (ob9_195 P) (BT.node (boot_o_7 P) (BT.node (ob9_52 P) (BT.node (ob9_68 P) (BT.node (ob9_103 P) (BT.node (ob9_169 P) BT.nil BT.nil) (BT.node (ob9_235 P) BT.nil BT.nil)) (BT.node (ob9_137 P) (BT.node (ob9_203 P) BT.nil BT.nil) (BT.node (ob9_267 P) BT.nil BT.nil))) (BT.node (ob9_87 P) (BT.node (ob9_121 P) (BT.node (ob9_185 P) BT.nil BT.nil) (BT.node (ob9_251 P) BT.nil BT.nil)) (BT.node (ob9_153 P) (BT.node (ob9_219 P) BT.nil BT.nil) BT.nil))) (BT.node (ob9_60 P) (BT.node (ob9_79 P) (BT.node (ob9_113 P) (BT.node (ob9_177 P) BT.nil BT.nil) (BT.node (ob9_243 P) BT.nil BT.nil)) (BT.node (ob9_145 P) (BT.node (ob9_211 P) BT.nil BT.nil) (BT.node (ob9_275 P) BT.nil BT.nil))) (BT.node (ob9_95 P) (BT.node (ob9_129 P) (BT.node (ob9_193 P) BT.nil BT.nil) (BT.node (ob9_259 P) BT.nil BT.nil)) (BT.node (ob9_161 P) (BT.node (ob9_227 P) BT.nil BT.nil) BT.nil)))) (BT.node (ob9_43 P) (BT.node (ob9_56 P) (BT.node (ob9_72 P) (BT.node (ob9_107 P) (BT.node (ob9_173 P) BT.nil BT.nil) (BT.node (ob9_239 P) BT.nil BT.nil)) (BT.node (ob9_141 P) (BT.node (ob9_207 P) BT.nil BT.nil) (BT.node (ob9_271 P) BT.nil BT.nil))) (BT.node (ob9_91 P) (BT.node (ob9_125 P) (BT.node (ob9_189 P) BT.nil BT.nil) (BT.node (ob9_255 P) BT.nil BT.nil)) (BT.node (ob9_157 P) (BT.node (ob9_223 P) BT.nil BT.nil) BT.nil))) (BT.node (ob9_64 P) (BT.node (ob9_83 P) (BT.node (ob9_117 P) (BT.node (ob9_181 P) BT.nil BT.nil) (BT.node (ob9_247 P) BT.nil BT.nil)) (BT.node (ob9_149 P) (BT.node (ob9_215 P) BT.nil BT.nil) BT.nil)) (BT.node (ob9_99 P) (BT.node (ob9_133 P) (BT.node (ob9_199 P) BT.nil BT.nil) (BT.node (ob9_263 P) BT.nil BT.nil)) (BT.node (ob9_165 P) (BT.node (ob9_231 P) BT.nil BT.nil) BT.nil))))) (BT.node (boot_o_5 P) (BT.node (boot_o_9 P) (BT.node (ob9_54 P) (BT.node (ob9_70 P) (BT.node (ob9_105 P) (BT.node (ob9_171 P) BT.nil BT.nil) (BT.node (ob9_237 P) BT.nil BT.nil)) (BT.node (ob9_139 P) (BT.node (ob9_205 P) BT.nil BT.nil) (BT.node (ob9_269 P) BT.nil BT.nil))) (BT.node (ob9_89 P) (BT.node (ob9_123 P) (BT.node (ob9_187 P) BT.nil BT.nil) (BT.node (ob9_253 P) BT.nil BT.nil)) (BT.node (ob9_155 P) (BT.node (ob9_221 P) BT.nil BT.nil) BT.nil))) (BT.node (ob9_62 P) (BT.node (ob9_81 P) (BT.node (ob9_115 P) (BT.node (ob9_179 P) BT.nil BT.nil) (BT.node (ob9_245 P) BT.nil BT.nil)) (BT.node (ob9_147 P) (BT.node (ob9_213 P) BT.nil BT.nil) (BT.node (ob9_277 P) BT.nil BT.nil))) (BT.node (ob9_97 P) (BT.node (ob9_131 P) (BT.node (ob9_197 P) BT.nil BT.nil) (BT.node (ob9_261 P) BT.nil BT.nil)) (BT.node (ob9_163 P) (BT.node (ob9_229 P) BT.nil BT.nil) BT.nil)))) (BT.node (ob9_45 P) (BT.node (ob9_58 P) (BT.node (ob9_77 P) (BT.node (ob9_111 P) (BT.node (ob9_175 P) BT.nil BT.nil) (BT.node (ob9_241 P) BT.nil BT.nil)) (BT.node (ob9_143 P) (BT.node (ob9_209 P) BT.nil BT.nil) (BT.node (ob9_273 P) BT.nil BT.nil))) (BT.node (ob9_93 P) (BT.node (ob9_127 P) (BT.node (ob9_191 P) BT.nil BT.nil) (BT.node (ob9_257 P) BT.nil BT.nil)) (BT.node (ob9_159 P) (BT.node (ob9_225 P) BT.nil BT.nil) BT.nil))) (BT.node (ob9_66 P) (BT.node (ob9_85 P) (BT.node (ob9_119 P) (BT.node (ob9_183 P) BT.nil BT.nil) (BT.node (ob9_249 P) BT.nil BT.nil)) (BT.node (ob9_151 P) (BT.node (ob9_217 P) BT.nil BT.nil) BT.nil)) (BT.node (ob9_101 P) (BT.node (ob9_135 P) (BT.node (ob9_201 P) BT.nil BT.nil) (BT.node (ob9_265 P) BT.nil BT.nil)) (BT.node (ob9_167 P) (BT.node (ob9_233 P) BT.nil BT.nil) BT.nil)))))) (BT.node (ob9_49 P) (BT.node (boot_o_4 P) (BT.node (boot_o_8 P) (BT.node (ob9_53 P) (BT.node (ob9_75 P) (BT.node (ob9_104 P) (BT.node (ob9_170 P) BT.nil BT.nil) (BT.node (ob9_236 P) BT.nil BT.nil)) (BT.node (ob9_138 P) (BT.node (ob9_204 P) BT.nil BT.nil) (BT.node (ob9_268 P) BT.nil BT.nil))) (BT.node (ob9_88 P) (BT.node (ob9_122 P) (BT.node (ob9_186 P) BT.nil BT.nil) (BT.node (ob9_252 P) BT.nil BT.nil)) (BT.node (ob9_154 P) (BT.node (ob9_220 P) BT.nil BT.nil) BT.nil))) (BT.node (ob9_61 P) (BT.node (ob9_80 P) (BT.node (ob9_114 P) (BT.node (ob9_178 P) BT.nil BT.nil) (BT.node (ob9_244 P) BT.nil BT.nil)) (BT.node (ob9_146 P) (BT.node (ob9_212 P) BT.nil BT.nil) (BT.node (ob9_276 P) BT.nil BT.nil))) (BT.node (ob9_96 P) (BT.node (ob9_130 P) (BT.node (ob9_194 P) BT.nil BT.nil) (BT.node (ob9_260 P) BT.nil BT.nil)) (BT.node (ob9_162 P) (BT.node (ob9_228 P) BT.nil BT.nil) BT.nil)))) (BT.node (ob9_196 P) (BT.node (ob9_57 P) (BT.node (ob9_76 P) (BT.node (ob9_108 P) (BT.node (ob9_174 P) BT.nil BT.nil) (BT.node (ob9_240 P) BT.nil BT.nil)) (BT.node (ob9_142 P) (BT.node (ob9_208 P) BT.nil BT.nil) (BT.node (ob9_272 P) BT.nil BT.nil))) (BT.node (ob9_92 P) (BT.node (ob9_126 P) (BT.node (ob9_190 P) BT.nil BT.nil) (BT.node (ob9_256 P) BT.nil BT.nil)) (BT.node (ob9_158 P) (BT.node (ob9_224 P) BT.nil BT.nil) BT.nil))) (BT.node (ob9_65 P) (BT.node (ob9_84 P) (BT.node (ob9_118 P) (BT.node (ob9_182 P) BT.nil BT.nil) (BT.node (ob9_248 P) BT.nil BT.nil)) (BT.node (ob9_150 P) (BT.node (ob9_216 P) BT.nil BT.nil) BT.nil)) (BT.node (ob9_100 P) (BT.node (ob9_134 P) (BT.node (ob9_200 P) BT.nil BT.nil) (BT.node (ob9_264 P) BT.nil BT.nil)) (BT.node (ob9_166 P) (BT.node (ob9_232 P) BT.nil BT.nil) BT.nil))))) (BT.node (boot_o_6 P) (BT.node (boot_o_10 P) (BT.node (ob9_55 P) (BT.node (ob9_71 P) (BT.node (ob9_106 P) (BT.node (ob9_172 P) BT.nil BT.nil) (BT.node (ob9_238 P) BT.nil BT.nil)) (BT.node (ob9_140 P) (BT.node (ob9_206 P) BT.nil BT.nil) (BT.node (ob9_270 P) BT.nil BT.nil))) (BT.node (ob9_90 P) (BT.node (ob9_124 P) (BT.node (ob9_188 P) BT.nil BT.nil) (BT.node (ob9_254 P) BT.nil BT.nil)) (BT.node (ob9_156 P) (BT.node (ob9_222 P) BT.nil BT.nil) BT.nil))) (BT.node (ob9_63 P) (BT.node (ob9_82 P) (BT.node (ob9_116 P) (BT.node (ob9_180 P) BT.nil BT.nil) (BT.node (ob9_246 P) BT.nil BT.nil)) (BT.node (ob9_148 P) (BT.node (ob9_214 P) BT.nil BT.nil) (BT.node (ob9_278 P) BT.nil BT.nil))) (BT.node (ob9_98 P) (BT.node (ob9_132 P) (BT.node (ob9_198 P) BT.nil BT.nil) (BT.node (ob9_262 P) BT.nil BT.nil)) (BT.node (ob9_164 P) (BT.node (ob9_230 P) BT.nil BT.nil) BT.nil)))) (BT.node (ob9_46 P) (BT.node (ob9_59 P) (BT.node (ob9_78 P) (BT.node (ob9_112 P) (BT.node (ob9_176 P) BT.nil BT.nil) (BT.node (ob9_242 P) BT.nil BT.nil)) (BT.node (ob9_144 P) (BT.node (ob9_210 P) BT.nil BT.nil) (BT.node (ob9_274 P) BT.nil BT.nil))) (BT.node (ob9_94 P) (BT.node (ob9_128 P) (BT.node (ob9_192 P) BT.nil BT.nil) (BT.node (ob9_258 P) BT.nil BT.nil)) (BT.node (ob9_160 P) (BT.node (ob9_226 P) BT.nil BT.nil) BT.nil))) (BT.node (ob9_67 P) (BT.node (ob9_86 P) (BT.node (ob9_120 P) (BT.node (ob9_184 P) BT.nil BT.nil) (BT.node (ob9_250 P) BT.nil BT.nil)) (BT.node (ob9_152 P) (BT.node (ob9_218 P) BT.nil BT.nil) BT.nil)) (BT.node (ob9_102 P) (BT.node (ob9_136 P) (BT.node (ob9_202 P) BT.nil BT.nil) (BT.node (ob9_266 P) BT.nil BT.nil)) (BT.node (ob9_168 P) (BT.node (ob9_234 P) BT.nil BT.nil) BT.nil))))))
noncomputable def tr309 : Params → BT := fun P =>
  BT.node (boot_o_0 P) (BT.node (boot_o_1 P) (BT.node (ob9_279 P) (BT.node (boot_o_7 P) (BT.node (ob9_52 P) (BT.node (ob9_68 P) (BT.node (ob9_103 P) (BT.node (ob9_169 P) (BT.node (ob9_301 P) BT.nil BT.nil) BT.nil) (BT.node (ob9_235 P) BT.nil BT.nil)) (BT.node (ob9_137 P) (BT.node (ob9_203 P) BT.nil BT.nil) (BT.node (ob9_267 P) BT.nil BT.nil))) (BT.node (ob9_87 P) (BT.node (ob9_121 P) (BT.node (ob9_185 P) BT.nil BT.nil) (BT.node (ob9_251 P) BT.nil BT.nil)) (BT.node (ob9_153 P) (BT.node (ob9_219 P) BT.nil BT.nil) (BT.node (ob9_285 P) BT.nil BT.nil)))) (BT.node (ob9_60 P) (BT.node (ob9_79 P) (BT.node (ob9_113 P) (BT.node (ob9_177 P) (BT.node (ob9_309 P) BT.nil BT.nil) BT.nil) (BT.node (ob9_243 P) BT.nil BT.nil)) (BT.node (ob9_145 P) (BT.node (ob9_211 P) BT.nil BT.nil) (BT.node (ob9_275 P) BT.nil BT.nil))) (BT.node (ob9_95 P) (BT.node (ob9_129 P) (BT.node (ob9_193 P) BT.nil BT.nil) (BT.node (ob9_259 P) BT.nil BT.nil)) (BT.node (ob9_161 P) (BT.node (ob9_227 P) BT.nil BT.nil) (BT.node (ob9_293 P) BT.nil BT.nil))))) (BT.node (ob9_43 P) (BT.node (ob9_56 P) (BT.node (ob9_72 P) (BT.node (ob9_107 P) (BT.node (ob9_173 P) (BT.node (ob9_305 P) BT.nil BT.nil) BT.nil) (BT.node (ob9_239 P) BT.nil BT.nil)) (BT.node (ob9_141 P) (BT.node (ob9_207 P) BT.nil BT.nil) (BT.node (ob9_271 P) BT.nil BT.nil))) (BT.node (ob9_91 P) (BT.node (ob9_125 P) (BT.node (ob9_189 P) BT.nil BT.nil) (BT.node (ob9_255 P) BT.nil BT.nil)) (BT.node (ob9_157 P) (BT.node (ob9_223 P) BT.nil BT.nil) (BT.node (ob9_289 P) BT.nil BT.nil)))) (BT.node (ob9_64 P) (BT.node (ob9_83 P) (BT.node (ob9_117 P) (BT.node (ob9_181 P) BT.nil BT.nil) (BT.node (ob9_247 P) BT.nil BT.nil)) (BT.node (ob9_149 P) (BT.node (ob9_215 P) BT.nil BT.nil) (BT.node (ob9_281 P) BT.nil BT.nil))) (BT.node (ob9_99 P) (BT.node (ob9_133 P) (BT.node (ob9_199 P) BT.nil BT.nil) (BT.node (ob9_263 P) BT.nil BT.nil)) (BT.node (ob9_165 P) (BT.node (ob9_231 P) BT.nil BT.nil) (BT.node (ob9_297 P) BT.nil BT.nil)))))) (BT.node (boot_o_5 P) (BT.node (boot_o_9 P) (BT.node (ob9_54 P) (BT.node (ob9_70 P) (BT.node (ob9_105 P) (BT.node (ob9_171 P) (BT.node (ob9_303 P) BT.nil BT.nil) BT.nil) (BT.node (ob9_237 P) BT.nil BT.nil)) (BT.node (ob9_139 P) (BT.node (ob9_205 P) BT.nil BT.nil) (BT.node (ob9_269 P) BT.nil BT.nil))) (BT.node (ob9_89 P) (BT.node (ob9_123 P) (BT.node (ob9_187 P) BT.nil BT.nil) (BT.node (ob9_253 P) BT.nil BT.nil)) (BT.node (ob9_155 P) (BT.node (ob9_221 P) BT.nil BT.nil) (BT.node (ob9_287 P) BT.nil BT.nil)))) (BT.node (ob9_62 P) (BT.node (ob9_81 P) (BT.node (ob9_115 P) (BT.node (ob9_179 P) BT.nil BT.nil) (BT.node (ob9_245 P) BT.nil BT.nil)) (BT.node (ob9_147 P) (BT.node (ob9_213 P) BT.nil BT.nil) (BT.node (ob9_277 P) BT.nil BT.nil))) (BT.node (ob9_97 P) (BT.node (ob9_131 P) (BT.node (ob9_197 P) BT.nil BT.nil) (BT.node (ob9_261 P) BT.nil BT.nil)) (BT.node (ob9_163 P) (BT.node (ob9_229 P) BT.nil BT.nil) (BT.node (ob9_295 P) BT.nil BT.nil))))) (BT.node (ob9_45 P) (BT.node (ob9_58 P) (BT.node (ob9_77 P) (BT.node (ob9_111 P) (BT.node (ob9_175 P) (BT.node (ob9_307 P) BT.nil BT.nil) BT.nil) (BT.node (ob9_241 P) BT.nil BT.nil)) (BT.node (ob9_143 P) (BT.node (ob9_209 P) BT.nil BT.nil) (BT.node (ob9_273 P) BT.nil BT.nil))) (BT.node (ob9_93 P) (BT.node (ob9_127 P) (BT.node (ob9_191 P) BT.nil BT.nil) (BT.node (ob9_257 P) BT.nil BT.nil)) (BT.node (ob9_159 P) (BT.node (ob9_225 P) BT.nil BT.nil) (BT.node (ob9_291 P) BT.nil BT.nil)))) (BT.node (ob9_66 P) (BT.node (ob9_85 P) (BT.node (ob9_119 P) (BT.node (ob9_183 P) BT.nil BT.nil) (BT.node (ob9_249 P) BT.nil BT.nil)) (BT.node (ob9_151 P) (BT.node (ob9_217 P) BT.nil BT.nil) (BT.node (ob9_283 P) BT.nil BT.nil))) (BT.node (ob9_101 P) (BT.node (ob9_135 P) (BT.node (ob9_201 P) BT.nil BT.nil) (BT.node (ob9_265 P) BT.nil BT.nil)) (BT.node (ob9_167 P) (BT.node (ob9_233 P) BT.nil BT.nil) (BT.node (ob9_299 P) BT.nil BT.nil))))))) (BT.node (ob9_49 P) (BT.node (boot_o_4 P) (BT.node (boot_o_8 P) (BT.node (ob9_53 P) (BT.node (ob9_75 P) (BT.node (ob9_104 P) (BT.node (ob9_170 P) (BT.node (ob9_302 P) BT.nil BT.nil) BT.nil) (BT.node (ob9_236 P) BT.nil BT.nil)) (BT.node (ob9_138 P) (BT.node (ob9_204 P) BT.nil BT.nil) (BT.node (ob9_268 P) BT.nil BT.nil))) (BT.node (ob9_88 P) (BT.node (ob9_122 P) (BT.node (ob9_186 P) BT.nil BT.nil) (BT.node (ob9_252 P) BT.nil BT.nil)) (BT.node (ob9_154 P) (BT.node (ob9_220 P) BT.nil BT.nil) (BT.node (ob9_286 P) BT.nil BT.nil)))) (BT.node (ob9_61 P) (BT.node (ob9_80 P) (BT.node (ob9_114 P) (BT.node (ob9_178 P) BT.nil BT.nil) (BT.node (ob9_244 P) BT.nil BT.nil)) (BT.node (ob9_146 P) (BT.node (ob9_212 P) BT.nil BT.nil) (BT.node (ob9_276 P) BT.nil BT.nil))) (BT.node (ob9_96 P) (BT.node (ob9_130 P) (BT.node (ob9_194 P) BT.nil BT.nil) (BT.node (ob9_260 P) BT.nil BT.nil)) (BT.node (ob9_162 P) (BT.node (ob9_228 P) BT.nil BT.nil) (BT.node (ob9_294 P) BT.nil BT.nil))))) (BT.node (ob9_280 P) (BT.node (ob9_57 P) (BT.node (ob9_76 P) (BT.node (ob9_108 P) (BT.node (ob9_174 P) (BT.node (ob9_306 P) BT.nil BT.nil) BT.nil) (BT.node (ob9_240 P) BT.nil BT.nil)) (BT.node (ob9_142 P) (BT.node (ob9_208 P) BT.nil BT.nil) (BT.node (ob9_272 P) BT.nil BT.nil))) (BT.node (ob9_92 P) (BT.node (ob9_126 P) (BT.node (ob9_190 P) BT.nil BT.nil) (BT.node (ob9_256 P) BT.nil BT.nil)) (BT.node (ob9_158 P) (BT.node (ob9_224 P) BT.nil BT.nil) (BT.node (ob9_290 P) BT.nil BT.nil)))) (BT.node (ob9_65 P) (BT.node (ob9_84 P) (BT.node (ob9_118 P) (BT.node (ob9_182 P) BT.nil BT.nil) (BT.node (ob9_248 P) BT.nil BT.nil)) (BT.node (ob9_150 P) (BT.node (ob9_216 P) BT.nil BT.nil) (BT.node (ob9_282 P) BT.nil BT.nil))) (BT.node (ob9_100 P) (BT.node (ob9_134 P) (BT.node (ob9_200 P) BT.nil BT.nil) (BT.node (ob9_264 P) BT.nil BT.nil)) (BT.node (ob9_166 P) (BT.node (ob9_232 P) BT.nil BT.nil) (BT.node (ob9_298 P) BT.nil BT.nil)))))) (BT.node (boot_o_6 P) (BT.node (boot_o_10 P) (BT.node (ob9_55 P) (BT.node (ob9_71 P) (BT.node (ob9_106 P) (BT.node (ob9_172 P) (BT.node (ob9_304 P) BT.nil BT.nil) BT.nil) (BT.node (ob9_238 P) BT.nil BT.nil)) (BT.node (ob9_140 P) (BT.node (ob9_206 P) BT.nil BT.nil) (BT.node (ob9_270 P) BT.nil BT.nil))) (BT.node (ob9_90 P) (BT.node (ob9_124 P) (BT.node (ob9_188 P) BT.nil BT.nil) (BT.node (ob9_254 P) BT.nil BT.nil)) (BT.node (ob9_156 P) (BT.node (ob9_222 P) BT.nil BT.nil) (BT.node (ob9_288 P) BT.nil BT.nil)))) (BT.node (ob9_63 P) (BT.node (ob9_82 P) (BT.node (ob9_116 P) (BT.node (ob9_180 P) BT.nil BT.nil) (BT.node (ob9_246 P) BT.nil BT.nil)) (BT.node (ob9_148 P) (BT.node (ob9_214 P) BT.nil BT.nil) (BT.node (ob9_278 P) BT.nil BT.nil))) (BT.node (ob9_98 P) (BT.node (ob9_132 P) (BT.node (ob9_198 P) BT.nil BT.nil) (BT.node (ob9_262 P) BT.nil BT.nil)) (BT.node (ob9_164 P) (BT.node (ob9_230 P) BT.nil BT.nil) (BT.node (ob9_296 P) BT.nil BT.nil))))) (BT.node (ob9_46 P) (BT.node (ob9_59 P) (BT.node (ob9_78 P) (BT.node (ob9_112 P) (BT.node (ob9_176 P) (BT.node (ob9_308 P) BT.nil BT.nil) BT.nil) (BT.node (ob9_242 P) BT.nil BT.nil)) (BT.node (ob9_144 P) (BT.node (ob9_210 P) BT.nil BT.nil) (BT.node (ob9_274 P) BT.nil BT.nil))) (BT.node (ob9_94 P) (BT.node (ob9_128 P) (BT.node (ob9_192 P) BT.nil BT.nil) (BT.node (ob9_258 P) BT.nil BT.nil)) (BT.node (ob9_160 P) (BT.node (ob9_226 P) BT.nil BT.nil) (BT.node (ob9_292 P) BT.nil BT.nil)))) (BT.node (ob9_67 P) (BT.node (ob9_86 P) (BT.node (ob9_120 P) (BT.node (ob9_184 P) BT.nil BT.nil) (BT.node (ob9_250 P) BT.nil BT.nil)) (BT.node (ob9_152 P) (BT.node (ob9_218 P) BT.nil BT.nil) (BT.node (ob9_284 P) BT.nil BT.nil))) (BT.node (ob9_102 P) (BT.node (ob9_136 P) (BT.node (ob9_202 P) BT.nil BT.nil) (BT.node (ob9_266 P) BT.nil BT.nil)) (BT.node (ob9_168 P) (BT.node (ob9_234 P) BT.nil BT.nil) (BT.node (ob9_300 P) BT.nil BT.nil)))))))
theorem open9 : ∀ w : World, (fencedOpening treeTable PySem.Challenge.rw_nt0486_01.row.prog w 3210).map (fun s => (s.heap, s.gens, s.drawn, s.toks)) = some (boot_heap w.params, #[], boot_drawn, boot_toks) :=
  boot_open (by kernel_rfl) rfl (fun _ => by kernel_rfl)
theorem size9 : ∀ w : World, ((boot_heap w.params).isNs mainGlobals && (#[] : Array GenState).size == 0, (boot_heap w.params).objs.size, (boot_heap w.params).nsMap mainGlobals "__annotations__") = (true, 11, some (.ref 6)) := fun w => by kernel_rfl
noncomputable def env9 : Env := { scope := PySem.Challenge.rw_nt0486_01.row.prog.main.scope, locals := mainNs, globals := mainNs, cells := [], code := .ref 13, frame := some 14 }
noncomputable def code9 : Code := .body (behindTheImports PySem.Challenge.rw_nt0486_01.row.prog) env9
noncomputable def sts9 (a n : Nat) : List Stmt := ((behindTheImports PySem.Challenge.rw_nt0486_01.row.prog).drop a).take n
theorem pre9 (w : World) (os : OsState) : topGo treeTable PySem.Challenge.rw_nt0486_01.row.prog w 11 (some (.ref 6)) 12 ⟨boot_heap w.params, #[], boot_drawn, boot_toks, os⟩ (topStub PySem.Challenge.rw_nt0486_01.row.prog) = some (SharedT.abs ⟨tr47 w.params, 15, {}, #[], {}, 187, os⟩, ⟨denote treeTable code9, code9, ⟨0, 0, 0, 0⟩, [topFrame ⟨0, 0, 0, 0⟩]⟩) := by kernel_rfl
theorem block9 (w : World) (os : OsState) : segRun treeTable PySem.Challenge.rw_nt0486_01.row.prog w 11 (some (.ref 6)) 1 1 (SharedT.abs ⟨tr47 w.params, 15, {}, #[], {}, 187, os⟩) (blockOf (behindTheImports PySem.Challenge.rw_nt0486_01.row.prog) env9 code9 ⟨0, 0, 0, 0⟩ [topFrame ⟨0, 0, 0, 0⟩]) = some (.next, SharedT.abs ⟨tr47 w.params, 15, {}, #[], {}, 187, os⟩, code9, ⟨0, 0, 0, 0⟩) := by kernel_rfl
theorem seg9_0 (w : World) (os : OsState) : segRunT treeTable PySem.Challenge.rw_nt0486_01.row.prog w 11 (some (.ref 6)) 1 248 ⟨tr47 w.params, 15, {}, #[], {}, 187, os⟩ (piecesOf (sts9 0 3) env9 code9 ⟨0, 0, 0, 0⟩ [topFrame ⟨0, 0, 0, 0⟩]) = some (.next, ⟨tr72 w.params, 36, {}, #[], {}, 220, os⟩, code9, ⟨3, 0, 6, 24⟩) := by kernel_rfl
theorem seg9_1 (w : World) (os : OsState) : segRunT treeTable PySem.Challenge.rw_nt0486_01.row.prog w 11 (some (.ref 6)) 1 391 ⟨tr72 w.params, 36, {}, #[], {}, 220, os⟩ (piecesOf (sts9 3 10) env9 code9 ⟨3, 0, 6, 24⟩ [topFrame ⟨0, 0, 0, 0⟩]) = some (.next, ⟨tr108 w.params, 69, {}, #[], {}, 283, os⟩, code9, ⟨21, 0, 29, 16⟩) := by kernel_rfl
theorem seg9_2 (w : World) (os : OsState) : segRunT treeTable PySem.Challenge.rw_nt0486_01.row.prog w 11 (some (.ref 6)) 1 376 ⟨tr108 w.params, 69, {}, #[], {}, 283, os⟩ (piecesOf (sts9 13 13) env9 code9 ⟨21, 0, 29, 16⟩ [topFrame ⟨0, 0, 0, 0⟩]) = some (.next, ⟨tr194 w.params, 153, {}, #[], {}, 387, os⟩, code9, ⟨68, 0, 69, 39⟩) := by kernel_rfl
theorem seg9_3 (w : World) (os : OsState) : segRunT treeTable PySem.Challenge.rw_nt0486_01.row.prog w 11 (some (.ref 6)) 1 382 ⟨tr194 w.params, 153, {}, #[], {}, 387, os⟩ (piecesOf (sts9 26 14) env9 code9 ⟨68, 0, 69, 39⟩ [topFrame ⟨0, 0, 0, 0⟩]) = some (.next, ⟨tr278 w.params, 235, {}, #[], {}, 492, os⟩, code9, ⟨113, 0, 116, 43⟩) := by kernel_rfl
theorem seg9_4 (w : World) (os : OsState) : segRunT treeTable PySem.Challenge.rw_nt0486_01.row.prog w 11 (some (.ref 6)) 1 150 ⟨tr278 w.params, 235, {}, #[], {}, 492, os⟩ (piecesOf (sts9 40 5) env9 code9 ⟨113, 0, 116, 43⟩ [topFrame ⟨0, 0, 0, 0⟩]) = some (.next, ⟨tr309 w.params, 264, {}, #[], {}, 537, os⟩, code9, ⟨157, 0, 176, 108⟩) := by kernel_rfl
theorem last9 (w : World) (os : OsState) : topRun treeTable PySem.Challenge.rw_nt0486_01.row.prog w 11 (some (.ref 6)) 2 (SharedT.abs ⟨tr309 w.params, 264, {}, #[], {}, 537, os⟩) ⟨doneF .next, code9, ⟨157, 0, 176, 108⟩, [topFrame ⟨0, 0, 0, 0⟩]⟩ = some ⟨heap9 w.params, #[], {}, 537, os⟩ := by kernel_rfl
theorem cat9 : behindTheImports PySem.Challenge.rw_nt0486_01.row.prog = sts9 0 3 ++ (sts9 3 10 ++ (sts9 13 13 ++ (sts9 26 14 ++ (sts9 40 5 ++ [])))) := by kernel_rfl
theorem rest9 (w : World) (os : OsState) : topRun treeTable PySem.Challenge.rw_nt0486_01.row.prog w 11 (some (.ref 6)) (248 + (391 + (376 + (382 + (150 + 2))))) (SharedT.abs ⟨tr47 w.params, 15, {}, #[], {}, 187, os⟩) (restOf (sts9 0 3 ++ (sts9 3 10 ++ (sts9 13 13 ++ (sts9 26 14 ++ (sts9 40 5 ++ []))))) env9 code9 ⟨0, 0, 0, 0⟩ [topFrame ⟨0, 0, 0, 0⟩]) = some ⟨heap9 w.params, #[], {}, 537, os⟩ :=
  (piece_app (env := env9) (l := sts9 0 3) (rest := (sts9 3 10 ++ (sts9 13 13 ++ (sts9 26 14 ++ (sts9 40 5 ++ []))))) (segRun_of (seg9_0 w os)) (piece_app (env := env9) (l := sts9 3 10) (rest := (sts9 13 13 ++ (sts9 26 14 ++ (sts9 40 5 ++ [])))) (segRun_of (seg9_1 w os)) (piece_app (env := env9) (l := sts9 13 13) (rest := (sts9 26 14 ++ (sts9 40 5 ++ []))) (segRun_of (seg9_2 w os)) (piece_app (env := env9) (l := sts9 26 14) (rest := (sts9 40 5 ++ [])) (segRun_of (seg9_3 w os)) (piece_app (env := env9) (l := sts9 40 5) (rest := []) (segRun_of (seg9_4 w os)) (last9 w os))))))
theorem run9 (w : World) (os : OsState) : topRun treeTable PySem.Challenge.rw_nt0486_01.row.prog w 11 (some (.ref 6)) (12 + (1 + (248 + (391 + (376 + (382 + (150 + 2))))))) ⟨boot_heap w.params, #[], boot_drawn, boot_toks, os⟩ (topStub PySem.Challenge.rw_nt0486_01.row.prog) = some ⟨heap9 w.params, #[], {}, 537, os⟩ :=
  go_top (pre9 w os) (piece_block (block9 w os) (by rw [cat9]; exact rest9 w os))
noncomputable def sh9 (w : World) (os : OsState) : Shared := ⟨heap9 w.params, #[], {}, 537, os⟩
theorem stat9 (w : World) (os : OsState) : (staticsOk (importedModules PySem.Challenge.rw_nt0486_01.row.prog.main.body) (boot_heap w.params) (heap9 w.params) && namesBound PySem.Challenge.rw_nt0486_01.row.prog (heap9 w.params) && gensDone ⟨heap9 w.params, #[], {}, 537, os⟩ && laidKept (boot_heap w.params) (heap9 w.params)) = true := by kernel_rfl
theorem seen9 (w : World) (os : OsState) : seen ((recsOf hd.view_39).map (·.name)) (ownsOf hd.view_39) [] { sh9 w os with gens := #[] } = expectedOf hd.view_39 := by kernel_rfl
theorem blt9 (w : World) (os : OsState) : (sh9 w os).heap.bltView = bltViewBooted := by kernel_rfl
theorem keys9 (w : World) (os : OsState) : ((sh9 w os).heap.keysOk (looseW hd.view_39 [Str.ofString "PostError", Str.ofString "FINE", Str.ofString "QUARTER", Str.ofString "HALF_TURN", Str.ofString "WHOLE_TURN"]) ((recsOf hd.view_39).map (·.name)) ((litsOf hd.view_39).map (·.1)) ((clssOf hd.view_39 (looseW hd.view_39 [Str.ofString "PostError", Str.ofString "FINE", Str.ofString "QUARTER", Str.ofString "HALF_TURN", Str.ofString "WHOLE_TURN"])).map (·.name)) && (sh9 w os).heap.accountedOkI (importedModules PySem.Challenge.rw_nt0486_01.row.prog.main.body) && (sh9 w os).heap.isNs mainGlobals && (sh9 w os).heap.isNs builtinsNs && tablesOk hd.view_39 (sh9 w os).heap && Xt9 (sh9 w os) && (if true = true then (sh9 w os).gens.size == 0 else !leftWithCleanup (sh9 w os).gens)) = true := by kernel_rfl
theorem tabs9 (w : World) (os : OsState) : tabsOk hd.view_39 (sh9 w os) = true := by kernel_rfl
theorem pin9 (w : World) (os : OsState) : pinSeenD hd.view_39 (drecsOf hd.view_39) (sh9 w os) = pinGoodD (drecsOf hd.view_39) := by kernel_rfl
theorem plE9 (w : World) (os : OsState) : plainSeenE hd.view_39 (looseW hd.view_39 [Str.ofString "PostError", Str.ofString "FINE", Str.ofString "QUARTER", Str.ofString "HALF_TURN", Str.ofString "WHOLE_TURN"]) (sh9 w os) = plainGoodE hd.view_39 (looseW hd.view_39 [Str.ofString "PostError", Str.ofString "FINE", Str.ofString "QUARTER", Str.ofString "HALF_TURN", Str.ofString "WHOLE_TURN"]) := by kernel_rfl
theorem plD9 (w : World) (os : OsState) : plainSeenD hd.view_39 [Str.ofString "PostError", Str.ofString "FINE", Str.ofString "QUARTER", Str.ofString "HALF_TURN", Str.ofString "WHOLE_TURN"] (sh9 w os) = plainGoodD hd.view_39 [Str.ofString "PostError", Str.ofString "FINE", Str.ofString "QUARTER", Str.ofString "HALF_TURN", Str.ofString "WHOLE_TURN"] := by kernel_rfl
theorem wide9 (w : World) (os : OsState) : wideSeen hd.view_39 (sh9 w os) = wideGood hd.view_39 := by kernel_rfl
theorem cls9 (w : World) (os : OsState) : clsSeenW hd.view_39 [Str.ofString "PostError", Str.ofString "FINE", Str.ofString "QUARTER", Str.ofString "HALF_TURN", Str.ofString "WHOLE_TURN"] (sh9 w os) = clsGoodW hd.view_39 [Str.ofString "PostError", Str.ofString "FINE", Str.ofString "QUARTER", Str.ofString "HALF_TURN", Str.ofString "WHOLE_TURN"] := by kernel_rfl
theorem yf9 (w : World) (os : OsState) : (kmHook hd.heap_39 hd.as_39 as9 [253]).obs (sh9 w os) = (kmHook hd.heap_39 hd.as_39 as9 [253]).val w := by kernel_rfl
theorem left9 : LeftO PySem.Challenge.rw_nt0486_01.row.prog hd.view_39 [Str.ofString "PostError", Str.ofString "FINE", Str.ofString "QUARTER", Str.ofString "HALF_TURN", Str.ofString "WHOLE_TURN"] Xt9 (kmHook hd.heap_39 hd.as_39 as9 [253]).obs (kmHook hd.heap_39 hd.as_39 as9 [253]).val 3210 :=
  LeftO.of_pieces open9 size9 run9 (by decide) fun w => funext fun os => looks_pair (stat9 w os) (looks_pair (looks_pair (seen9 w os) (looks_pair (blt9 w os) (looks_pair (keys9 w os) (looks_pair (tabs9 w os) (looks_pair (pin9 w os) (looks_pair (plE9 w os) (looks_pair (plD9 w os) (looks_pair (wide9 w os) (cls9 w os))))))))) (yf9 w os))
theorem said9 : PySem.Challenge.rw_nt0486_01.wellSaid = true := by
  unfold OpenLaw.wellSaid OpenRow.wellSaid OpenRow.partSaid looksOpen
  repeat' (first | with_reducible refine look_both ?_ ?_ | decide +kernel)
theorem ok9 : (chainsOk hd.view_39 && opensWell PySem.Challenge.rw_nt0486_01.row.prog && (frees (OpenRow.toRowW PySem.Challenge.rw_nt0486_01.row) && PySem.Challenge.rw_nt0486_01.row.within.isEmpty)) = true := by kernel_rfl
theorem hw9 : (OpenRow.toRowW PySem.Challenge.rw_nt0486_01.row).promised := by w_witness2
theorem bare9 : PySem.Challenge.rw_nt0486_01.row.prog.bare := ⟨rfl, rfl, rfl, rfl, rfl, by decide +kernel⟩
/-- the head: what is left of the law is its own walk -/
theorem hd {d : DefRec} {kwd : List (Str × Expr)} (hdef : defOf hd.view_39 PySem.Challenge.rw_nt0486_01.row.name = some (d, kwd))
    (hp : PySem.Challenge.rw_nt0486_01.row.prog.theDef PySem.Challenge.rw_nt0486_01.row.name = some (d.params, d.body, d.scope)) (hk : kwWritten? d.params.kwonlyargs d.params.kw_defaults = some kwd)
    (walk : WalkO hd.view_39 [Str.ofString "PostError", Str.ofString "FINE", Str.ofString "QUARTER", Str.ofString "HALF_TURN", Str.ofString "WHOLE_TURN"] (XL hd.view_39 [(Str.ofString "FINE", .int 1000000000000000000000000000000000000), (Str.ofString "QUARTER", .int 90000000), (Str.ofString "HALF_TURN", .int 180000000), (Str.ofString "WHOLE_TURN", .int 360000000)]) (kmHook hd.heap_39 hd.as_39 as9 [253]).says (OpenRow.toRowW PySem.Challenge.rw_nt0486_01.row) d kwd fun f vs => PySem.call f vs) : PySem.Challenge.rw_nt0486_01.Holds :=
  holds_law said9 fun said => holds_open (r := PySem.Challenge.rw_nt0486_01.row) left9 (kmHook hd.heap_39 hd.as_39 as9 [253]).of (kmHook hd.heap_39 hd.as_39 as9 [253]).keeps (fun s e => xl_of s (Bool.and_eq_true_iff.mp e).1) XL.keeps hdef hp hk
    (fun s e => recFacts_of (Bool.and_eq_true_iff.mp e).2) rfl said ok9 bare9 hw9 walk
end
open PySem PySem.W PySem.Spec PySem.Calls PyProof.Rows
local macro_rules | `(tactic| k_ne) => `(tactic| k_extra "M k_ne")
local macro_rules | `(tactic| k_lt $h:ident) => `(tactic| skip)
local macro_rules | `(tactic| k_all) => `(tactic| k_extra "M k_all")
local macro_rules | `(tactic| units_room) => `(tactic| k_extra "M units_room")
local macro_rules | `(tactic| walk_at "binaryOp FloorDiv int int") => `(tactic| k_extra "M binaryOp FloorDiv int int")
local macro_rules | `(tactic| walk_at "callWith ref nil nil") => `(tactic| k_extra "M callWith ref nil nil")
local macro_rules | `(tactic| walk_at "call ref") => `(tactic| k_extra "M call ref")
local macro_rules | `(tactic| walk_at "eval BinOp") => `(tactic| k_extra "M eval BinOp")
local macro_rules | `(tactic| walk_at "eval Subscript") => `(tactic| k_extra "M eval Subscript")
local macro_rules | `(tactic| walk_at "eval Call") => `(tactic| k_extra "M eval Call")
local macro_rules | `(tactic| walk_at "CompRest") => `(tactic| k_extra "M CompRest")
local macro_rules | `(tactic| walk_at "TupSrc") => `(tactic| k_extra "M TupSrc")
local macro_rules | `(tactic| walk_at "CompEnd") => `(tactic| k_extra "M CompEnd")
local macro_rules | `(tactic| walk_at "subscriptTail Name Constant ref int") => `(tactic| k_extra "M subscriptTail Name Constant ref int")
local macro_rules | `(tactic| walk_at "subscriptTail Name Name ref int") => `(tactic| k_extra "M subscriptTail Name Name ref int")
local macro_rules | `(tactic| walk_at "subscriptTail Name BinOp ref int") => `(tactic| k_extra "M subscriptTail Name BinOp ref int")
local macro_rules | `(tactic| mul_fits) => `(tactic| k_extra "M mul_fits")
local macro_rules | `(tactic| walk_at "ite") => `(tactic| k_extra "M ite")
local macro_rules | `(tactic| walk_at "exec Raise") => `(tactic| k_extra "M exec Raise")
local macro_rules | `(tactic| walk_at "eval ListComp Call cons") => `(tactic| k_extra "M eval ListComp Call cons")
local macro_rules | `(tactic| walk_at "exec Raise some none") => `(tactic| k_extra "M exec Raise some none")
local macro_rules | `(tactic| walk_at "PsRaised") => `(tactic| k_extra "M PsRaised")
local macro_rules | `(tactic| walk_at "leaving ref") => `(tactic| k_extra "M leaving ref")
local macro_rules | `(tactic| walk_at "noteFrame ref") => `(tactic| k_extra "M noteFrame ref")
local macro_rules | `(tactic| walk_at "getAttr ref") => `(tactic| k_extra "M getAttr ref")
local macro_rules | `(tactic| walk_at "LeaveT") => `(tactic| k_extra "M LeaveT")
local macro_rules | `(tactic| walk_at "BodyEnd2") => `(tactic| k_extra "M BodyEnd2")
local macro_rules | `(tactic| walk_at "compareOp Eq ref ref") => `(tactic| k_extra "M compareOp Eq ref ref")
local macro_rules | `(tactic| walk_at "compareOp NotEq ref ref") => `(tactic| k_extra "M compareOp NotEq ref ref")
local macro_rules | `(tactic| walk_at "exec Assign") => `(tactic| k_extra "M exec Assign")
local macro_rules | `(tactic| walk_at "QuartE") => `(tactic| k_extra "M QuartE")
section
section
/-- the i-th of a ledger -/
def nth {α : Type} : List α → Nat → Option α
  | [], _ => none
  | x :: _, 0 => some x
  | _ :: r, n + 1 => nth r n
theorem nth_mem {α : Type} {x : α} : ∀ {l : List α} {i : Nat}, nth l i = some x → x ∈ l
  | [], _, e => by simp [nth] at e
  | _ :: _, 0, e => by simp only [nth, Option.some.injEq] at e; subst e; exact List.Mem.head _
  | _ :: _, _ + 1, e => List.Mem.tail _ (nth_mem e)
theorem memT {α : Type} {x : α} {l : List α} (_h : Nat.ble 9 l.length = true) (m : x ∈ l.drop 8) : x ∈ l := List.mem_of_mem_drop m
theorem off1_all {D : Addr} : ∀ {l : List (Addr × Obj)}, LCg.Off1 D l → ∀ p ∈ l, @Ne Nat p.1 D
  | [], _, _, h => nomatch h
  | _ :: _, h, _, m => by
    rcases List.mem_cons.mp m with e | m
    · subst e; exact h.1
    · exact off1_all h.2 _ m
section
variable {D I C x : Addr} {o : Obj} {l : List (Addr × Obj)}
theorem off_at (h : LCg.Off1 D l) (e : (x, o) ∈ l) : @Ne Nat x D := off1_all h _ e
theorem offA_at (h : ∀ p ∈ l, p.1 ≠ D) (e : (x, o) ∈ l) : @Ne Nat x D := h _ e
theorem offI_at (h : LCg.Off3 I C D l) (e : (x, o) ∈ l) : @Ne Nat x I := (h.mem _ e).1
theorem offC_at (h : LCg.Off3 I C D l) (e : (x, o) ∈ l) : @Ne Nat x C := (h.mem _ e).2.1
theorem offD_at (h : LCg.Off3 I C D l) (e : (x, o) ∈ l) : @Ne Nat x D := (h.mem _ e).2.2
theorem ne0_at (h : ∀ p ∈ l, p.1 < D) (e : (x, o) ∈ l) : @Ne Nat x D := Nat.ne_of_lt (h _ e)
theorem ne1_at (h : ∀ p ∈ l, p.1 < D) (e : (x, o) ∈ l) : @Ne Nat x (D + 1) := Nat.ne_of_lt (Nat.lt_succ_of_lt (h _ e))
theorem ne2_at (h : ∀ p ∈ l, p.1 < D) (e : (x, o) ∈ l) : @Ne Nat x (D + 1 + 1) := Nat.ne_of_lt (Nat.lt_succ_of_lt (Nat.lt_succ_of_lt (h _ e)))
theorem ne3_at (h : ∀ p ∈ l, p.1 < D) (e : (x, o) ∈ l) : @Ne Nat x (D + 1 + 1 + 1) := Nat.ne_of_lt (Nat.lt_succ_of_lt (Nat.lt_succ_of_lt (Nat.lt_succ_of_lt (h _ e))))
theorem ne4_at (h : ∀ p ∈ l, p.1 < D) (e : (x, o) ∈ l) : @Ne Nat x (D + 1 + 1 + 1 + 1) := Nat.ne_of_lt (Nat.lt_succ_of_lt (Nat.lt_succ_of_lt (Nat.lt_succ_of_lt (Nat.lt_succ_of_lt (h _ e)))))
theorem ne5_at (h : ∀ p ∈ l, p.1 < D) (e : (x, o) ∈ l) : @Ne Nat x (D + 1 + 1 + 1 + 1 + 1) := Nat.ne_of_lt (Nat.lt_succ_of_lt (Nat.lt_succ_of_lt (Nat.lt_succ_of_lt (Nat.lt_succ_of_lt (Nat.lt_succ_of_lt (h _ e))))))
theorem neT_at (h : ∀ p ∈ l, p.1 < C) (e : (x, o) ∈ l) (g : @LT.lt Nat _ C D) : @Ne Nat x D := Nat.ne_of_lt (Nat.lt_trans (h _ e) g)
end
end
end
section
section
/-- how a callee's walk ends: the value, its ledger, what holds of both -/
def BodyEnd (g : Heap) (L' : Addr) (s : Shared) (Post : Value → List (Addr × Obj) → Prop) (v : Value) (s' : Shared) : Prop :=
  ∃ m' sel' h' tk', s' = { s with heap := h', toks := tk' } ∧ Fr g L' h' m' ∧ News g L' h' sel' ∧ Post v sel'

theorem bodyEnd_of {g : Heap} {L' : Addr} {s : Shared} {Post : Value → List (Addr × Obj) → Prop} {v : Value} {s' : Shared} {m' : Str → Option Value} {sel' : List (Addr × Obj)} {h' : Heap} {tk' : Nat}
    (e : s' = { s with heap := h', toks := tk' }) (F : Fr g L' h' m') (N : News g L' h' sel') (P : Post v sel') : BodyEnd g L' s Post v s' := ⟨m', sel', h', tk', e, F, N, P⟩

section
variable {prog : Program} {w : World} {A₀ A : Around} {s : Shared} {base h₀ : Heap} {outer : List Env} {L : Addr} {m mg mb : Str → Option Value} {env : Env} {sel rest : List (Addr × Obj)} {K : Frag}
  {p : Program} {loose : List Str} {mean : ExcName → Option Value}
  {R : Result → Shared → Prop} {name qual : Str} {params : Arguments} {body : List Stmt} {scope : Scope} {dV kV doc pm cdv ct oc : Value} {an od : Option Addr} {osl : Array (Option Value)} {f : Addr} {args : Args} {binds : List (Str × Value)}
  {Post : Value → List (Addr × Obj) → Prop}

theorem enterR (B : Below A₀ base outer h₀) (F : Fr h₀ L s.heap m) (X₀ : K.In h₀) (N : News h₀ L s.heap (sel ++ rest)) (hdis : ∀ p ∈ rest, ∀ q ∈ sel, p.1 ≠ q.1)
    (T : Top p loose mean mg mb h₀) (hA : A.frames = some (env :: outer)) (hf : env.frame = some L) (hke : env.scope.kind = .function)
    (ho : K.lookup f = some ⟨oc, od, .func (fnOf name qual params body scope dV kV doc pm an cdv ct), osl⟩) (hcd : codeIn K cdv qual = true) (hroom : A.depth < recursionLimit)
    (hbind : BindsTo s (fnOf name qual params body scope dV kV doc pm an cdv ct) args binds) (hloc : ∀ y ∈ binds, scope.names.lookup y.1 = some .local)
    (hR : ∀ v sel' h' tk', Fr h₀ L h' m → News h₀ L h' (sel' ++ rest) → (∀ p ∈ rest, ∀ q ∈ sel', p.1 ≠ q.1) → Post v sel' → R (.ok (.ret v)) { s with heap := h', toks := tk' })
    (h : ∀ g L' h₁, Fr g L' h₁ (fun y => binds.reverse.lookup y) → News g L' h₁ sel → Below A base (env :: outer) g → K.In g → Top p loose mean mg mb g →
      (∀ p ∈ sel, p.1 < L') → (∀ p ∈ rest, g.get? p.1 = some p.2) → (∀ b o, h₀.get? b = some o → g.get? b = some o) →
      wpAny (model prog w) (A.deeper (envOf qual scope L' f cdv)) (execs body (envOf qual scope L' f cdv))
        (fun fl s' => BodyEnd g L' s Post (match fl with | .ret v => v | _ => .none) s') (fun _ _ => False)
        { s with heap := h₁, toks := s.toks + binds.length })
    (hco : scope.isCoroutine = false) (hgen : scope.isGenerator = false) (hk : scope.kind = .function)
    (hcell : ∀ x ∈ scope.names, x.2 ≠ .cell) : codeAny (model prog w) A (.call (.ref f) args) R s := by
  have Ns : News h₀ L s.heap sel := fun p hp => N p (List.mem_append_left _ hp)
  obtain ⟨FG, BG, st, lv⟩ := groundX (R := R) B F Ns hA hf hke
  have hrest : ∀ p ∈ rest, (hideAll s.heap (sel.map (·.1))).get? p.1 = some p.2 := fun p hp =>
    hideAll_get _ (N p (List.mem_append_right _ hp)).1 fun q => by
      obtain ⟨r, hr, e⟩ := List.mem_map.mp q
      exact hdis p hp r hr e.symm
  refine codeAny_call_def (fd := fnOf name qual params body scope dV kV doc pm an cdv ct) (body := body) (binds := binds) hroom ((X₀.keeps F.keep) _ _ ho) rfl (T.nolimit.keeps F.keep)
    (codeRec_of (X₀.keeps F.keep) hcd) rfl hbind hcell hloc (fun h₁ hns hk₁ => ?_) hco hgen hk
  refine wpAny_mono (h _ s.heap.objs.size h₁ ⟨hns, fun b o e => hk₁ b o (of_hideAll _ e), Nat.le_of_eq (hideAll_size _ _)⟩
    (fun p hp => ⟨hk₁ _ _ (Ns p hp).1, Nat.ne_of_lt (Heap.lt_size (Ns p hp).1), hideAll_none _ (List.mem_map_of_mem hp)⟩) BG (X₀.keeps st) (T.keeps st)
    (fun p hp => Heap.lt_size (Ns p hp).1) hrest st) (fun fl s' hl => ?_) fun _ _ y => y.elim
  obtain ⟨m', sel', h', tk', rfl, F', N', P⟩ := hl
  refine lv _ _ ⟨_, _, _, F', N', fun Fr' Nr' => hR _ sel' _ _ Fr' (fun q hq => ?_) (fun q hq r hr e => ?_) P⟩
  · rcases List.mem_append.mp hq with hq | hq
    · exact Nr' q hq
    · exact ⟨F'.keep _ _ (hrest q hq), (N q (List.mem_append_right _ hq)).2⟩
  · have h1 := (N' r hr).2.2
    rw [← e, hrest q hq] at h1
    cases h1

theorem enterRC (B : Below A₀ base outer h₀) (F : Fr h₀ L s.heap m) (X₀ : K.In h₀) (N : News h₀ L s.heap (sel ++ rest)) (hdis : ∀ p ∈ rest, ∀ q ∈ sel, p.1 ≠ q.1)
    (T : Top p loose mean mg mb h₀) (hA : A.frames = some (env :: outer)) (hf : env.frame = some L) (hke : env.scope.kind = .function)
    (ho : K.lookup f = some ⟨oc, od, .func (fnOf name qual params body scope dV kV doc pm an cdv ct), osl⟩) (hcd : codeIn K cdv qual = true) (hroom : A.depth < recursionLimit)
    (hbind : BindsTo s (fnOf name qual params body scope dV kV doc pm an cdv ct) args binds)
    (hkind : (binds.all fun y => scope.names.lookup y.1 == some .local || scope.names.lookup y.1 == some .cell) = true)
    (hnd : ((cellsFrom 0 scope.names []).map (·.1)).Nodup)
    (hR : ∀ v sel' h' tk', Fr h₀ L h' m → News h₀ L h' (sel' ++ rest) → (∀ p ∈ rest, ∀ q ∈ sel', p.1 ≠ q.1) → Post v sel' → R (.ok (.ret v)) { s with heap := h', toks := tk' })
    (h : ∀ g L' h₁ tk cells, Fr g L' h₁ (bindL (envOfC qual scope L' f cdv).kindOf binds fun _ => none) → News g L' h₁ (cells ++ sel) →
      CellsAre (bindC (envOfC qual scope L' f cdv).kindOf binds fun _ => none) (cellsFrom (L' + 1) scope.names []) cells → Below A base (env :: outer) g → K.In g → Top p loose mean mg mb g →
      (∀ p ∈ sel, p.1 < L') → (∀ p ∈ rest, g.get? p.1 = some p.2) → (∀ b o, h₀.get? b = some o → g.get? b = some o) →
      wpAny (model prog w) (A.deeper (envOfC qual scope L' f cdv)) (execs body (envOfC qual scope L' f cdv))
        (fun fl s' => BodyEnd g L' s Post (match fl with | .ret v => v | _ => .none) s') (fun _ _ => False)
        { s with heap := h₁, toks := tk })
    (hco : scope.isCoroutine = false) (hgen : scope.isGenerator = false) (hk : scope.kind = .function) : codeAny (model prog w) A (.call (.ref f) args) R s := by
  have Ns : News h₀ L s.heap sel := fun p hp => N p (List.mem_append_left _ hp)
  obtain ⟨FG, BG, st, lv⟩ := groundX (R := R) B F Ns hA hf hke
  have hrest : ∀ p ∈ rest, (hideAll s.heap (sel.map (·.1))).get? p.1 = some p.2 := fun p hp =>
    hideAll_get _ (N p (List.mem_append_right _ hp)).1 fun q => by
      obtain ⟨r, hr, e⟩ := List.mem_map.mp q
      exact hdis p hp r hr e.symm
  refine codeAny_call_function hroom ((X₀.keeps F.keep) _ _ ho) rfl hco hgen rfl (codeRec_of (X₀.keeps F.keep) hcd) (hbind _ _ _ _ ?_)
  refine wpAny_newFunctionEnv_cells hk (kindsX hkind _) fun env' he s' x => ?_
  subst he
  refine ⟨(T.nolimit.keeps F.keep).keeps x.toInCall.keep, codeAny_func ?_⟩
  obtain ⟨h₁, tk, rfl, _⟩ := x.done
  have hk₁ := x.toInCall.keep
  obtain ⟨cells, NC, Y⟩ := Cl.news (h₀ := s.heap) (Nat.le_refl _) fun n c hm => ⟨x.cell n c (lookup_of_mem_nodup (cellsFrom_names scope.names 0 (s.heap.objs.size + 1) [] [] rfl ▸ hnd) hm), x.above n c hm⟩
  refine wpAny_mono (h _ s.heap.objs.size h₁ tk cells ⟨x.toInCall.ns, fun b o e => hk₁ b o (of_hideAll _ e), Nat.le_of_eq (hideAll_size _ _)⟩ (fun p hp => ?_) Y BG (X₀.keeps st) (T.keeps st)
    (fun p hp => Heap.lt_size (Ns p hp).1) hrest st) (fun fl s' hl => ?_) fun _ _ y => y.elim
  · rcases List.mem_append.mp hp with hp | hp
    · refine ⟨(NC p hp).1, (NC p hp).2.1, ?_⟩
      cases q : (hideAll s.heap (sel.map (·.1))).get? p.1 with
      | none => rfl
      | some o => have := of_hideAll _ q; rw [(NC p hp).2.2] at this; cases this
    · exact ⟨hk₁ _ _ (Ns p hp).1, Nat.ne_of_lt (Heap.lt_size (Ns p hp).1), hideAll_none _ (List.mem_map_of_mem hp)⟩
  obtain ⟨m', sel', h', tk', rfl, F', N', P⟩ := hl
  refine lv _ _ ⟨_, _, _, F', N', fun Fr' Nr' => hR _ sel' _ _ Fr' (fun q hq => ?_) (fun q hq r hr e => ?_) P⟩
  · rcases List.mem_append.mp hq with hq | hq
    · exact Nr' q hq
    · exact ⟨F'.keep _ _ (hrest q hq), (N q (List.mem_append_right _ hq)).2⟩
  · have h1 := (N' r hr).2.2
    rw [← e, hrest q hq] at h1
    cases h1
end

/-- what a def gives back: on the ledger 'sel' (its own objects) and anything else 'rest', which stays -/
def Gives (w : World) (p : Program) (loose : List Str) (mean : ExcName → Option Value) (mg mb : Str → Option Value) (f : Addr) (k : Nat) (vs : List Value) (sel rest : List (Addr × Obj))
    (Post : Value → List (Addr × Obj) → Prop) : Prop :=
  ∀ (dp un : Nat) (gd : Option (List Code)) (cn : Str) (cs : Scope) (a : Addr) (ccd : Value) (cl : List (Str × Addr)) (outer : List Env) (A₀ : Around) (base h₀ : Heap) (L : Addr) (m : Str → Option Value) (s : Shared) (Q E : Value → Shared → Prop),
    Below A₀ base outer h₀ → Fr h₀ L s.heap m → (hd.heap_39 w.params).In h₀ → News h₀ L s.heap (sel ++ rest) → (∀ p ∈ rest, ∀ q ∈ sel, p.1 ≠ q.1) → Top p loose mean mg mb h₀ → cs.kind = .function →
    dp + k ≤ 400 → un + 8 * k ≤ 1000 →
    (∀ v sel' h' tk', Fr h₀ L h' m → News h₀ L h' (sel' ++ rest) → (∀ p ∈ rest, ∀ q ∈ sel', p.1 ≠ q.1) → Post v sel' → Q v { s with heap := h', toks := tk' }) →
    wpAny (model PySem.Challenge.rw_nt0486_01.row.prog w) (ktrTop dp un gd cn cs L a ccd cl outer) (call (.ref f) vs) Q E s


theorem noPy {x y : Int} (h1 : -(2 ^ 101) ≤ y) (h2 : y ≤ 2 ^ 101) : Builtin.divisionGoesByPylong x y = false := by
  refine PyProof.noPylong_of_log2 ?_
  by_cases h0 : y.natAbs = 0
  · rw [h0]; decide +kernel
  · have h30 : y.natAbs.log2 < 102 := (Nat.log2_lt h0).mpr (by omega)
    omega

end
section
/-- a place of reading: the surroundings, the frame, the heap -/
structure RC where
  w : World
  A : Around
  env : Env
  h : Heap
def PlainE (e : Expr) : Prop := ∀ rest env, starEach (e :: rest) env = (false, eval e env) :: starEach rest env
/-- reading e gives the very value v; nothing but tokens turns -/
structure RdV (c : RC) (e : Expr) (v : Value) : Prop where
  pl : PlainE e
  run : ∀ (s : Shared) (Q E : Value → Shared → Prop), s.heap = c.h → (∀ k', Q v { s with toks := k' }) → wpAny (model PySem.Challenge.rw_nt0486_01.row.prog c.w) c.A (eval e c.env) Q E s
/-- reading e gives the int a, by some token -/
structure Rd (c : RC) (e : Expr) (a : Int) : Prop where
  pl : PlainE e
  run : ∀ (s : Shared) (Q E : Value → Shared → Prop), s.heap = c.h → (∀ t k', Q (.int a t) { s with toks := k' }) → wpAny (model PySem.Challenge.rw_nt0486_01.row.prog c.w) c.A (eval e c.env) Q E s
section
variable {c : RC} {e e1 e2 : Expr} {pos : Pos} {a b i : Int} {t : Tok} {x : Str} {v : Value} {m mg mb : Str → Option Value} {h₀ : Heap} {L q : Addr} {news : List (Addr × Obj)} {o : Obj} {K : Frag} {p : Program} {loose : List Str} {mean : ExcName → Option Value}
theorem Rd.of (H : RdV c e (.int i t)) : Rd c e i := ⟨H.pl, fun s Q E e h => H.run s Q E e (h t)⟩
theorem RdV.of_name (hd : (x == ("__debug__" : Str)) = false) (h : ∀ (s : Shared) (Q E : Value → Shared → Prop), s.heap = c.h → Q v s → wpAny (model PySem.Challenge.rw_nt0486_01.row.prog c.w) c.A (loadName c.env x) Q E s) : RdV c (.Name x pos) v :=
  ⟨fun _ _ => rfl, fun s Q E e k => wpAny_Name (h s Q E e (k s.toks)) hd⟩
theorem RdV.loc (n : c.h.Ns c.env.locals m) (hv : m x = some v) (hk : c.env.scope.kind = .function) (hx : c.env.kindOf x = some .local) (hd : (x == ("__debug__" : Str)) = false) : RdV c (.Name x pos) v :=
  .of_name hd fun _ _ _ e k => wpAny_loadName_local hk hx (e ▸ n) hv k
theorem RdV.cell (N : News h₀ L c.h news) (hc : c.env.cells.lookup x = some q) (hm : (q, o) ∈ news) (ho : o.data = .cell (some v)) (hk : c.env.scope.kind = .function) (hx : c.env.kindOf x = some .cell) (hd : (x == ("__debug__" : Str)) = false) : RdV c (.Name x pos) v :=
  .of_name hd fun s _ _ e k => wpAny_loadName_cell hk hx hc (e ▸ ⟨o, N.get hm, ho⟩) k
theorem RdV.free (N : News h₀ L c.h news) (hc : c.env.cells.lookup x = some q) (hm : (q, o) ∈ news) (ho : o.data = .cell (some v)) (hk : c.env.scope.kind = .function) (hx : c.env.kindOf x = some .free) (hd : (x == ("__debug__" : Str)) = false) (hn : (x == ("__classdict__" : Str)) = false) : RdV c (.Name x pos) v :=
  .of_name hd fun s _ _ e k => wpAny_loadName_free hk hx hc (e ▸ ⟨o, N.get hm, ho⟩) k hn
theorem RdV.own (N : News h₀ L c.h news) (hm : (c.env.locals, o) ∈ news) (hC : LCg.NsObj o m) (hv : m x = some v) (hk : c.env.scope.kind = .function) (hx : c.env.kindOf x = some .local) (hd : (x == ("__debug__" : Str)) = false) : RdV c (.Name x pos) v :=
  .loc (hC.ns (N _ hm).1) hv hk hx hd
theorem RdV.fr (F : Fr h₀ L c.h m) (hl : c.env.locals = L) (hv : m x = some v) (hk : c.env.scope.kind = .function) (hx : c.env.kindOf x = some .local) (hd : (x == ("__debug__" : Str)) = false) : RdV c (.Name x pos) v :=
  .loc (hl ▸ F.ns) hv hk hx hd
theorem RdV.glob (F : Fr h₀ L c.h m) (X : K.In h₀) (T : Top p loose mean mg mb h₀) (e : nsIn K mainGlobals x = some (some v)) (hg : c.env.globals = mainGlobals) (hk : c.env.scope.kind = .function) (hx : c.env.kindOf x = some .globalImplicit) (hd : (x == ("__debug__" : Str)) = false) : RdV c (.Name x pos) v :=
  ⟨fun _ _ => rfl, fun s Q E eq k => Name_function_global hk hx (loadGlobal_global (env := c.env) (show s.heap.Ns c.env.globals mg from hg ▸ eq ▸ (T.keeps F.keep).g) (mg_of X T.g e) (k s.toks)) hd⟩
theorem Rd.const {k : Nat} : Rd c (.Constant (.int i) k pos) i := ⟨fun _ _ => rfl, fun s Q E _ h => wpAny_Constant_int (h _ _)⟩
theorem Rd.bin {op : Operator} {r : Int} (f : ∀ (s : Shared) (Q E : Value → Shared → Prop) t u, Q (.int r s.toks) { s with toks := s.toks + 1 } → wpAny (model PySem.Challenge.rw_nt0486_01.row.prog c.w) c.A (binaryOp op (.int a t) (.int b u)) Q E s)
    (h1 : Rd c e1 a) (h2 : Rd c e2 b) : Rd c (.BinOp e1 op e2 pos) r :=
  ⟨fun _ _ => rfl, fun s Q E e h => wpAny_BinOp (h1.run s _ E e fun t k => h2.run _ _ E e fun u k' => f _ _ _ _ _ (h _ _))⟩
theorem Rd.add (h1 : Rd c e1 a) (h2 : Rd c e2 b) : Rd c (.BinOp e1 .Add e2 pos) (a + b) := .bin (fun _ _ _ _ _ h => add_int h) h1 h2
theorem Rd.sub (h1 : Rd c e1 a) (h2 : Rd c e2 b) : Rd c (.BinOp e1 .Sub e2 pos) (a - b) := .bin (fun _ _ _ _ _ h => sub_int h) h1 h2
theorem Rd.mul (h1 : Rd c e1 a) (h2 : Rd c e2 b) (hm : IntMulOk a b) : Rd c (.BinOp e1 .Mult e2 pos) (a * b) := .bin (fun _ _ _ _ _ h => mul_int h hm) h1 h2
theorem Rd.mod (h1 : Rd c e1 a) (h2 : Rd c e2 b) (hb : b ≠ 0) : Rd c (.BinOp e1 .Mod e2 pos) (a.fmod b) := .bin (fun _ _ _ _ _ h => mod_int hb h) h1 h2
theorem Rd.neg (h1 : Rd c e a) : Rd c (.UnaryOp .USub e pos) (-a) :=
  ⟨fun _ _ => rfl, fun s Q E eq h => wpAny_UnaryOp (h1.run s _ E eq fun t k => neg_int (h _ _))⟩
theorem Rd.item {k : Int} {kk : Nat} {kp : Pos} {l : Addr} {vs : List Value} (hn : RdV c e (.ref l)) (hl : c.h.IsList l vs.toArray) (hk : 0 ≤ k ∧ k < 2 ^ 63) (hx : vs[k.toNat]? = some (.int i t)) : Rd c (.Subscript e (.Constant (.int k) kk kp) pos) i :=
  ⟨fun _ _ => rfl, fun s Q E eq h => Subscript_ (hn.run s _ E eq fun k' => wpAny_Constant_int (item_litK (by exact eq ▸ hl) hk.1 hk.2 hx (h _ _) (by with_unfolding_all rfl)))⟩
theorem Rd.at {e2 : Expr} {k : Int} {l : Addr} {vs : List Value} (hs : ∀ l k u, subscripted e2 false (.ref l) (.int k u) = operate [.ref l, .int k u] (getItem (.ref l) (.int k u))) (hn : RdV c e (.ref l)) (hl : c.h.IsList l vs.toArray) (h2 : Rd c e2 k) (hk : 0 ≤ k ∧ k < 2 ^ 63) (hx : vs[k.toNat]? = some (.int i t)) : Rd c (.Subscript e e2 pos) i :=
  ⟨fun _ _ => rfl, fun s Q E eq h => Subscript_ (hn.run s _ E eq fun k' => h2.run _ _ E eq fun u k'' => item_litK (by exact eq ▸ hl) hk.1 hk.2 hx (h _ _) (hs _ _ _))⟩
theorem Rd.atN {y : Str} {yp : Pos} {k : Int} {l : Addr} {vs : List Value} (hn : RdV c e (.ref l)) (hl : c.h.IsList l vs.toArray) (h2 : Rd c (.Name y yp) k) (hk : 0 ≤ k ∧ k < 2 ^ 63) (hx : vs[k.toNat]? = some (.int i t)) : Rd c (.Subscript e (.Name y yp) pos) i := .at (fun _ _ _ => by with_unfolding_all rfl) hn hl h2 hk hx
theorem Rd.atB {l1 l2 : Expr} {op : Operator} {yp : Pos} {k : Int} {l : Addr} {vs : List Value} (hn : RdV c e (.ref l)) (hl : c.h.IsList l vs.toArray) (h2 : Rd c (.BinOp l1 op l2 yp) k) (hk : 0 ≤ k ∧ k < 2 ^ 63) (hx : vs[k.toNat]? = some (.int i t)) : Rd c (.Subscript e (.BinOp l1 op l2 yp) pos) i := .at (fun _ _ _ => by with_unfolding_all rfl) hn hl h2 hk hx
end
section
variable {w : World} {A : Around} {env : Env} {s : Shared} {Q E : Value → Shared → Prop} {e e1 e2 e3 : Expr} {fx : Str} {fp : Pos} {pos : Pos} {a b : Int} {f : Addr} {v v1 v2 : Value} {K : Frag} {h₀ : Heap} {L : Addr} {m : Str → Option Value}
theorem Rd.use (H : Rd ⟨w, A, env, s.heap⟩ e a) (h : ∀ t k', Q (.int a t) { s with toks := k' }) : wpAny (model PySem.Challenge.rw_nt0486_01.row.prog w) A (eval e env) Q E s := H.run s Q E rfl h
theorem RdV.args {c : RC} {es : List Expr} {s : Shared} {Q : List Value → Shared → Prop} (H : RdV c e v) (he : s.heap = c.h) (h : ∀ k', wpAny (model PySem.Challenge.rw_nt0486_01.row.prog c.w) c.A (spliced (backTo pos (starEach es c.env))) (fun vs s₂ => Q (v :: vs) s₂) E { s with toks := k' }) :
    wpAny (model PySem.Challenge.rw_nt0486_01.row.prog c.w) c.A (spliced (backTo pos (starEach (e :: es) c.env))) Q E s := by
  rw [H.pl]; exact spliced_cons (H.run s _ E he h)
theorem Rd.args {c : RC} {es : List Expr} {s : Shared} {Q : List Value → Shared → Prop} (H : Rd c e a) (he : s.heap = c.h) (h : ∀ t k', wpAny (model PySem.Challenge.rw_nt0486_01.row.prog c.w) c.A (spliced (backTo pos (starEach es c.env))) (fun vs s₂ => Q (.int a t :: vs) s₂) E { s with toks := k' }) :
    wpAny (model PySem.Challenge.rw_nt0486_01.row.prog c.w) c.A (spliced (backTo pos (starEach (e :: es) c.env))) Q E s := by
  rw [H.pl]; exact spliced_cons (H.run s _ E he h)
theorem rd_call {c : RC} {e1 : Expr} {es : List Expr} {s : Shared} (Hf : RdV c (.Name fx fp) (.ref f)) (h1 : PlainE e1) (hp : (backTo pos (starEach es c.env)).any (·.1) = false) (hk : keepIn K (.ref f) = true) (he : s.heap = c.h)
    (h : ∀ k', wpAny (model PySem.Challenge.rw_nt0486_01.row.prog c.w) c.A (spliced (backTo pos (starEach (e1 :: es) c.env))) (fun vs s₁ => K.In s₁.heap ∧ wpAny (model PySem.Challenge.rw_nt0486_01.row.prog c.w) c.A (call (.ref f) vs) Q E s₁) E { s with toks := k' }) :
    wpAny (model PySem.Challenge.rw_nt0486_01.row.prog c.w) c.A (eval (.Call (.Name fx fp) (e1 :: es) [] pos) c.env) Q E s := by
  refine Call_ (Hf.run s _ E he fun k' => ?_)
  have h' := h k'
  rw [h1] at h' ⊢
  exact callWith_of (by show ((false || (backTo pos (starEach es c.env)).any (·.1)) || false) = false; rw [hp]; rfl) (keeps_K hk) (evalArgs_plain h')
theorem plain1 {env : Env} (h : PlainE e1) : (backTo pos (starEach [e1] env)).any (·.1) = false := by rw [h]; rfl
theorem plain2 {env : Env} (h1 : PlainE e1) (h2 : PlainE e2) : (backTo pos (starEach [e1, e2] env)).any (·.1) = false := by rw [h1, h2]; rfl
theorem call_i (Hf : RdV ⟨w, A, env, s.heap⟩ (.Name fx fp) (.ref f)) (H1 : Rd ⟨w, A, env, s.heap⟩ e1 a) (F : Fr h₀ L s.heap m) (X : K.In h₀) (hk : keepIn K (.ref f) = true)
    (h : ∀ t k', wpAny (model PySem.Challenge.rw_nt0486_01.row.prog w) A (call (.ref f) [.int a t]) Q E { s with toks := k' }) : wpAny (model PySem.Challenge.rw_nt0486_01.row.prog w) A (eval (.Call (.Name fx fp) [e1] [] pos) env) Q E s :=
  rd_call (c := ⟨w, A, env, s.heap⟩) Hf H1.pl rfl hk rfl fun _ => H1.args rfl fun t k' => spliced_nil ⟨X.keeps F.keep, h t k'⟩
theorem call_ii (Hf : RdV ⟨w, A, env, s.heap⟩ (.Name fx fp) (.ref f)) (H1 : Rd ⟨w, A, env, s.heap⟩ e1 a) (H2 : Rd ⟨w, A, env, s.heap⟩ e2 b) (F : Fr h₀ L s.heap m) (X : K.In h₀) (hk : keepIn K (.ref f) = true)
    (h : ∀ t u k', wpAny (model PySem.Challenge.rw_nt0486_01.row.prog w) A (call (.ref f) [.int a t, .int b u]) Q E { s with toks := k' }) : wpAny (model PySem.Challenge.rw_nt0486_01.row.prog w) A (eval (.Call (.Name fx fp) [e1, e2] [] pos) env) Q E s :=
  rd_call (c := ⟨w, A, env, s.heap⟩) Hf H1.pl (plain1 H2.pl) hk rfl fun _ => H1.args rfl fun t _ => H2.args rfl fun u k' => spliced_nil ⟨X.keeps F.keep, h t u k'⟩
theorem call_v (Hf : RdV ⟨w, A, env, s.heap⟩ (.Name fx fp) (.ref f)) (H1 : RdV ⟨w, A, env, s.heap⟩ e1 v) (F : Fr h₀ L s.heap m) (X : K.In h₀) (hk : keepIn K (.ref f) = true)
    (h : ∀ k', wpAny (model PySem.Challenge.rw_nt0486_01.row.prog w) A (call (.ref f) [v]) Q E { s with toks := k' }) : wpAny (model PySem.Challenge.rw_nt0486_01.row.prog w) A (eval (.Call (.Name fx fp) [e1] [] pos) env) Q E s :=
  rd_call (c := ⟨w, A, env, s.heap⟩) Hf H1.pl rfl hk rfl fun _ => H1.args rfl fun k' => spliced_nil ⟨X.keeps F.keep, h k'⟩
theorem call_vi (Hf : RdV ⟨w, A, env, s.heap⟩ (.Name fx fp) (.ref f)) (H1 : RdV ⟨w, A, env, s.heap⟩ e1 v) (H2 : Rd ⟨w, A, env, s.heap⟩ e2 b) (F : Fr h₀ L s.heap m) (X : K.In h₀) (hk : keepIn K (.ref f) = true)
    (h : ∀ u k', wpAny (model PySem.Challenge.rw_nt0486_01.row.prog w) A (call (.ref f) [v, .int b u]) Q E { s with toks := k' }) : wpAny (model PySem.Challenge.rw_nt0486_01.row.prog w) A (eval (.Call (.Name fx fp) [e1, e2] [] pos) env) Q E s :=
  rd_call (c := ⟨w, A, env, s.heap⟩) Hf H1.pl (plain1 H2.pl) hk rfl fun _ => H1.args rfl fun _ => H2.args rfl fun u k' => spliced_nil ⟨X.keeps F.keep, h u k'⟩
theorem call_vv (Hf : RdV ⟨w, A, env, s.heap⟩ (.Name fx fp) (.ref f)) (H1 : RdV ⟨w, A, env, s.heap⟩ e1 v) (H2 : RdV ⟨w, A, env, s.heap⟩ e2 v1) (F : Fr h₀ L s.heap m) (X : K.In h₀) (hk : keepIn K (.ref f) = true)
    (h : ∀ k', wpAny (model PySem.Challenge.rw_nt0486_01.row.prog w) A (call (.ref f) [v, v1]) Q E { s with toks := k' }) : wpAny (model PySem.Challenge.rw_nt0486_01.row.prog w) A (eval (.Call (.Name fx fp) [e1, e2] [] pos) env) Q E s :=
  rd_call (c := ⟨w, A, env, s.heap⟩) Hf H1.pl (plain1 H2.pl) hk rfl fun _ => H1.args rfl fun _ => H2.args rfl fun k' => spliced_nil ⟨X.keeps F.keep, h k'⟩
theorem call_vii (Hf : RdV ⟨w, A, env, s.heap⟩ (.Name fx fp) (.ref f)) (H1 : RdV ⟨w, A, env, s.heap⟩ e1 v) (H2 : Rd ⟨w, A, env, s.heap⟩ e2 a) (H3 : Rd ⟨w, A, env, s.heap⟩ e3 b) (F : Fr h₀ L s.heap m) (X : K.In h₀) (hk : keepIn K (.ref f) = true)
    (h : ∀ t u k', wpAny (model PySem.Challenge.rw_nt0486_01.row.prog w) A (call (.ref f) [v, .int a t, .int b u]) Q E { s with toks := k' }) : wpAny (model PySem.Challenge.rw_nt0486_01.row.prog w) A (eval (.Call (.Name fx fp) [e1, e2, e3] [] pos) env) Q E s :=
  rd_call (c := ⟨w, A, env, s.heap⟩) Hf H1.pl (plain2 H2.pl H3.pl) hk rfl fun _ => H1.args rfl fun _ => H2.args rfl fun t _ => H3.args rfl fun u k' => spliced_nil ⟨X.keeps F.keep, h t u k'⟩
end
end
end
section
theorem say_1 : True := by
  (k_with "MINE ix" => first | exact nth_mem (i := 0) rfl | exact nth_mem (i := 1) rfl | exact nth_mem (i := 2) rfl | exact nth_mem (i := 3) rfl | exact nth_mem (i := 4) rfl | exact nth_mem (i := 5) rfl | exact nth_mem (i := 6) rfl | exact nth_mem (i := 7) rfl | ((refine memT rfl ?_); k_extra "MINE ix"))
  (k_with "MINE fx" => ((case zh => with_reducible assumption); (case ze => k_extra "MINE ix")))
  (k_with "MINE ne2" => first | ((refine' off_at ?zh ?ze); k_extra "MINE fx") | ((refine' ne0_at ?zh ?ze); k_extra "MINE fx") | ((refine' offD_at ?zh ?ze); k_extra "MINE fx") | ((refine' offC_at ?zh ?ze); k_extra "MINE fx") | ((refine' offI_at ?zh ?ze); k_extra "MINE fx") | ((refine' offA_at ?zh ?ze); k_extra "MINE fx") | ((refine' ne1_at ?zh ?ze); k_extra "MINE fx") | ((refine' ne2_at ?zh ?ze); k_extra "MINE fx") | ((refine' ne3_at ?zh ?ze); k_extra "MINE fx") | ((refine' ne4_at ?zh ?ze); k_extra "MINE fx") | ((refine' ne5_at ?zh ?ze); k_extra "MINE fx") | ((refine' neT_at ?zh ?ze ?zg); (case zg => with_reducible assumption); k_extra "MINE fx"))
  (k_with "MINE ne3" => first | exact And.left (by with_reducible assumption) | exact And.left (And.right (by with_reducible assumption)) | exact And.right (by with_reducible assumption) | exact And.left (And.right (And.right (by with_reducible assumption))) | exact And.right (And.right (by with_reducible assumption)) | exact And.left (And.right (And.right (And.right (by with_reducible assumption)))) | exact And.right (And.right (And.right (by with_reducible assumption))) | exact And.left (And.right (And.right (And.right (And.right (by with_reducible assumption))))) | exact And.right (And.right (And.right (And.right (by with_reducible assumption)))) | exact And.left (And.right (And.right (And.right (And.right (And.right (by with_reducible assumption)))))) | exact And.right (And.right (And.right (And.right (And.right (by with_reducible assumption))))))
  (k_with "MINE ne1" => with_reducible first | assumption | exact Ne.symm (by assumption) | exact Nat.ne_of_lt (by assumption) | exact Nat.ne_of_gt (by assumption) | exact Nat.ne_of_lt (Nat.lt_succ_of_lt (by assumption)) | exact Nat.ne_of_gt (Nat.lt_succ_of_lt (by assumption)))
  (k_with "M k_ne" => ((try dsimp only); (refine neN ?_); first | k_extra "MINE ne1" | exact Nat.ne_of_lt (Nat.lt_succ_self _) | exact Nat.ne_of_gt (Nat.lt_succ_self _) | k_extra "MINE ne2" | (refine Ne.symm ?_; k_extra "MINE ne2") | k_extra "MINE ne3" | (refine Ne.symm ?_; k_extra "MINE ne3") | k_extra "MINE nesay"))
  (k_with "MINE nesay" => (k_extra "MINE split"; first | k_extra "MINE ne1" | ((repeat ((rename (@Ne Nat _ _) => h9); clear h9)); omega)))
  (k_with "M k_all" => first | with_reducible assumption | exact List.forall_mem_nil _ | ((refine' List.forall_mem_cons.mpr ⟨?za, ?zb⟩); (case za => k_ne); (case zb => k_all)))
  (k_with "MINE split" => repeat ((rename _ ∧ _ => h9); cases h9))
  (k_with "MINE ca" => ((case zkA => exact rfl); (case zkF => exact rfl); (case zkK => first | exact rfl | assumption)))
  (k_with "MINE cs" => ((case zk6 => k_is); (case zk7 => k_is); (case zk8 => ktr_room); (case zk9 => exact BindsTo.of_eq rfl); k_extra "MINE c3"))
  (k_with "MINE c3" => ((case zc2 => exact rfl); (case zc3 => exact rfl); (case zc4 => exact rfl)))
  (k_with "MINE k5" => ((case zk1 => k_asm); (case zk2 => k_asm); (case zk3 => k_asm); (case zk4 => k_asm); (case zk5 => k_asm)))
  (k_with "MINE a7" => ((case ze1 => assumption); (case ze2 => assumption); (case ze3 => assumption); (case ze4 => assumption); (case ze5 => assumption); (case ze6 => assumption); (case ze7 => assumption)))
  (k_with "MINE pl" => ((case zc5 => decide); (case zkB => exact locs rfl)))
  (k_with "MINE ce" => ((case zkB => exact rfl); (case zkD => decide +kernel)))
  (k_with "MINE fold" => ((try dsimp only); (try k_fold)))
  (k_with "MINE end" => (k_sweep; (try dsimp only); (try k_fold)))
  (k_with "MINE ent" => (k_whole; intro g' L' h' FG' F' N' B' X' T'; (try (have hlN := Fr.lst FG' (by assumption))); (try dsimp only); (try k_lift B'); (try k_fold)))
  (k_with "MINE enter" => ((refine' enterR ?ze1 ?ze2 ?ze3 ?ze4 ?ze5 ?ze6 ?zkA ?zkF ?zkK ?zk6 ?zk7 ?zk8 ?zk9 ?zkB ?ze7 ?_ ?zc2 ?zc3 ?zc4 ?zc5); k_extra "MINE a7"; k_extra "MINE ca"; k_extra "MINE cs"; k_extra "MINE pl"; k_whole; intro g' L' h' F' N' B' X' T' l1 hrest' st'; (try dsimp only); (try k_lift B'); (try k_fold)))
  (k_with "MINE enterC" => ((refine' enterRC ?ze1 ?ze2 ?ze3 ?ze4 ?ze5 ?ze6 ?zkA ?zkF ?zkK ?zk6 ?zk7 ?zk8 ?zk9 ?zkB ?zkD ?ze7 ?_ ?zc2 ?zc3 ?zc4); k_extra "MINE a7"; k_extra "MINE ca"; k_extra "MINE cs"; k_extra "MINE ce"; k_whole; intro g' L' h' tk' cells' F' N' Y' B' X' T' l1 hrest' st'; k_cells Y'; (try simp only [List.cons_append, List.nil_append] at N'); (try dsimp only); (try k_lift B'); (try k_fold)))
  (k_with "M units_room" => (have hcL9 := cLine_is; (try simp only [units_in1, units_deeper, Around.mark_units, units_caller]); (try dsimp only [ktrTop]); omega))
  (k_with "MINE room" => first | decide | ((try simp only [depth_in1, depth_deeper, units_in1, units_deeper, Around.mark_units]); (try dsimp only [ktrTop]); omega))
  (k_with "M binaryOp FloorDiv int int" => (k_here; (with_reducible refine floordiv_int ?zne ?_ (Or.inl (noPy ?zh1 ?zh2))); (case zne => omega); (case zh1 => omega); (case zh2 => omega)))
  (k_with "M callWith ref nil nil" => (k_here; k_dflt (refine' callWith_K ?zk1 ?zk2 ?_; (case zk1 => k_asm); (case zk2 => k_is); k_whole)))
  (k_with "M call ref" => k_dflt (k_here; refine wpAny_call ?_; first | ((refine' code_def ?zk1 ?zk2 ?zk3 ?zk4 ?zk5 ?zkA ?zkF ?zkK ?zk6 ?zk7 ?zk8 ?zk9 ?zkB ?_ ?zc2 ?zc3 ?zc4 ?zc5); k_extra "MINE ca"; k_extra "MINE k5"; k_extra "MINE cs"; k_extra "MINE pl"; k_extra "MINE ent") | ((refine' code_defC ?zk1 ?zk2 ?zk3 ?zk4 ?zk5 ?zkA ?zkF ?zkK ?zk6 ?zk7 ?zk8 ?zk9 ?zkB ?zkD ?_ ?zc2 ?zc3 ?zc4); k_extra "MINE ca"; k_extra "MINE k5"; k_extra "MINE cs"; k_extra "MINE ce"; k_whole; intro g' L' h' tk' cells' FG' F' N' Y' B' X' T' l1; (try (have hlN := Fr.lst FG' (by assumption))); k_cells Y'; (try simp only [List.cons_append, List.nil_append] at N'); (try dsimp only); (try k_lift B'); (try k_fold))))
  (k_with "M call ref" => k_dflt (k_here; kn_here; refine wpAny_call ?_; (refine' kla_code ?zk1 ?zk2 ?zk3 ?zk4 ?zk5 ?zkA ?zkF ?zkK ?zk6 ?zk7 ?zk8 ?zk9 ?zkB ?_ ?zc2 ?zc3 ?zc4 ?zc5); k_extra "MINE ca"; k_extra "MINE k5"; (case zk6 => k_mem); (case zk7 => exact codeRec_news (by k_asm) (by k_mem) (by assumption) (by assumption)); (case zk8 => ktr_room); (case zk9 => exact rfl); k_extra "MINE c3"; k_extra "MINE pl"; k_extra "MINE ent"))
  (k_with "MINE std" => ((case zB => k_asm); (case zF => k_asm); (case zX => k_asm); (case zN => k_asm); (case zT => k_asm); (case zk => first | exact rfl | assumption); (case zd => k_extra "MINE room"); (case zu => k_extra "MINE room")))
  (k_with "MINE b4" => ((case zb0 => k_extra "MINE bd"); (case zb1 => k_extra "MINE bd"); (case zb2 => k_extra "MINE bd"); (case zb3 => k_extra "MINE bd")))
  (k_with "MINE b6" => (k_extra "MINE b4"; (case zb4 => k_extra "MINE bd"); (case zb5 => k_extra "MINE bd")))
  (k_with "MINE bd" => assumption)
  (k_with "MINE nz" => ((case zhb => k_extra "MINE n0"); (case zh1 => k_extra "MINE n0"); (case zh2 => k_extra "MINE n0")))
  (k_with "MINE n0" => first | decide | assumption | omega)
  (k_with "MINE rv" => first | ((refine' RdV.fr ?zvF ?zvl ?zvv ?zvk ?zvx ?zvd); (case zvx => exact rfl); (case zvF => k_asm); (case zvl => exact rfl); (case zvv => exact rfl); (case zvk => first | exact rfl | assumption); (case zvd => decide)) | ((refine' RdV.glob ?zvF ?zvX ?zvT ?zve ?zvg ?zvk ?zvx ?zvd); (case zvx => exact rfl); (case zvF => k_asm); (case zvX => k_asm); (case zvT => k_asm); (case zve => k_is); (case zvg => exact rfl); (case zvk => first | exact rfl | assumption); (case zvd => decide)) | ((refine' RdV.cell ?zvN ?zvc ?zvm ?zvo ?zvk ?zvx ?zvd); (case zvx => exact rfl); (case zvN => k_asm); (case zvc => exact rfl); (case zvm => k_mem); (case zvo => k_asm); (case zvk => first | exact rfl | assumption); (case zvd => decide)) | ((refine' RdV.free ?zvN ?zvc ?zvm ?zvo ?zvk ?zvx ?zvd ?zvh); (case zvx => exact rfl); (case zvN => k_asm); (case zvc => exact rfl); (case zvm => k_mem); (case zvo => k_asm); (case zvk => first | exact rfl | assumption); (case zvd => decide); (case zvh => decide)) | ((refine' RdV.own ?zvN ?zvm ?zvC ?zvv ?zvk ?zvx ?zvd); (case zvx => exact rfl); (case zvN => k_asm); (case zvm => k_mem); (case zvC => assumption); (case zvv => first | assumption | exact rfl); (case zvk => first | exact rfl | assumption); (case zvd => decide)))
  (k_with "MINE rds" => first | ((fail_if_success (with_reducible show Rd _ _ _)); (fail_if_success (with_reducible show IntMulOk _ _)); (fail_if_success (with_reducible show _ ≠ _))) | k_extra "MINE rd" | ((with_reducible show IntMulOk _ _); mul_fits) | ((with_reducible show _ ≠ _); first | decide | omega))
  (k_with "MINE rd" => first | exact Rd.const | ((refine' Rd.mul ?_ ?_ ?_) <;> k_extra "MINE rds") | ((refine' Rd.add ?_ ?_) <;> k_extra "MINE rds") | ((refine' Rd.sub ?_ ?_) <;> k_extra "MINE rds") | ((refine' Rd.neg ?_) <;> k_extra "MINE rds") | ((refine' Rd.mod ?_ ?_ ?_) <;> k_extra "MINE rds") | ((refine' Rd.item ?zrn ?zrl ?zrk ?zri); (case zrn => k_extra "MINE rv"); (case zrl => is_list); (case zrk => decide); (case zri => exact rfl)) | ((refine' Rd.atN ?zrn ?zrl ?zr2 ?zrk ?zri); (case zrn => k_extra "MINE rv"); (case zr2 => k_extra "MINE rd"); (case zrl => is_list); (case zrk => decide); (case zri => exact rfl)) | ((refine' Rd.atB ?zsn ?zsl ?zs2 ?zsk ?zsi); (case zsn => k_extra "MINE rv"); (case zs2 => k_extra "MINE rd"); (case zsl => is_list); (case zsk => decide); (case zsi => exact rfl)) | ((refine' Rd.of ?zrv); (case zrv => k_extra "MINE rv")))
  (k_with "M eval BinOp" => (k_here; (with_reducible show wpAny _ _ (eval (Expr.BinOp _ _ _ _) _) _ _ _); k_dflt ((refine' Rd.use ?zrR ?_); (case zrR => k_extra "MINE rd"); k_whole; intro t9 k9; k_extra "MINE fold")))
  (k_with "M eval Subscript" => (k_here; (with_reducible show wpAny _ _ (eval (Expr.Subscript (Expr.Name _ _) _ _) _) _ _ _); k_dflt ((refine' Rd.use ?zrR ?_); (case zrR => k_extra "MINE rd"); k_whole; intro t9 k9; k_extra "MINE fold")))
  (k_with "M eval Call" => (k_here; (with_reducible show wpAny _ _ (eval (Expr.Call (Expr.Name _ _) [_] [] _) _) _ _ _); k_dflt (first | ((refine' call_v ?zcf ?zca0 ?zcF ?zcX ?zcK ?_); (case zcf => k_extra "MINE rv"); (case zca0 => k_extra "MINE rv"); (case zcF => k_asm); (case zcX => k_asm); (case zcK => k_is); k_whole; intro k9; k_extra "MINE fold") | ((refine' call_i ?zcf ?zca0 ?zcF ?zcX ?zcK ?_); (case zcf => k_extra "MINE rv"); (case zca0 => k_extra "MINE rd"); (case zcF => k_asm); (case zcX => k_asm); (case zcK => k_is); k_whole; intro t9 k9; k_extra "MINE fold"))))
  (k_with "M eval Call" => (k_here; (with_reducible show wpAny _ _ (eval (Expr.Call (Expr.Name _ _) [_, _] [] _) _) _ _ _); k_dflt (first | ((refine' call_vv ?zcf ?zca0 ?zca1 ?zcF ?zcX ?zcK ?_); (case zcf => k_extra "MINE rv"); (case zca0 => k_extra "MINE rv"); (case zca1 => k_extra "MINE rv"); (case zcF => k_asm); (case zcX => k_asm); (case zcK => k_is); k_whole; intro k9; k_extra "MINE fold") | ((refine' call_vi ?zcf ?zca0 ?zca1 ?zcF ?zcX ?zcK ?_); (case zcf => k_extra "MINE rv"); (case zca0 => k_extra "MINE rv"); (case zca1 => k_extra "MINE rd"); (case zcF => k_asm); (case zcX => k_asm); (case zcK => k_is); k_whole; intro t9 k9; k_extra "MINE fold") | ((refine' call_ii ?zcf ?zca0 ?zca1 ?zcF ?zcX ?zcK ?_); (case zcf => k_extra "MINE rv"); (case zca0 => k_extra "MINE rd"); (case zca1 => k_extra "MINE rd"); (case zcF => k_asm); (case zcX => k_asm); (case zcK => k_is); k_whole; intro t9 u9 k9; k_extra "MINE fold"))))
  (k_with "M eval Call" => (k_here; (with_reducible show wpAny _ _ (eval (Expr.Call (Expr.Name _ _) [_, _, _] [] _) _) _ _ _); k_dflt (first | ((refine' call_vii ?zcf ?zca0 ?zca1 ?zca2 ?zcF ?zcX ?zcK ?_); (case zcf => k_extra "MINE rv"); (case zca0 => k_extra "MINE rv"); (case zca1 => k_extra "MINE rd"); (case zca2 => k_extra "MINE rd"); (case zcF => k_asm); (case zcX => k_asm); (case zcK => k_is); k_whole; intro t9 u9 k9; k_extra "MINE fold"))))
  trivial
variable {w : World} {p : Program} {loose : List Str} {mean : ExcName → Option Value} {mg mb : Str → Option Value}
section
/-- n over b to the nearest whole, halves away from nought -/
def nearF (n b : Int) : Int := if (n < 0 ↔ b < 0) then (2 * (n.natAbs : Int) + (b.natAbs : Int)) / (2 * (b.natAbs : Int)) else -((2 * (n.natAbs : Int) + (b.natAbs : Int)) / (2 * (b.natAbs : Int)))

theorem q_eq {x y u v : Int} (hx : x = u) (hy : y = v) (h0 : 0 ≤ y) : x.fdiv y = u / v := by
  subst hx; subst hy; exact Int.fdiv_eq_ediv_of_nonneg _ h0
theorem nf_pos {n b x y : Int} (h : (n < 0 ↔ b < 0)) (hx : x = 2 * (n.natAbs : Int) + (b.natAbs : Int)) (hy : y = 2 * (b.natAbs : Int)) : x.fdiv y = nearF n b := by
  unfold nearF; rw [if_pos h]; exact q_eq hx hy (by omega)
theorem nf_neg {n b x y : Int} (h : ¬ (n < 0 ↔ b < 0)) (hx : x = 2 * (n.natAbs : Int) + (b.natAbs : Int)) (hy : y = 2 * (b.natAbs : Int)) : -x.fdiv y = nearF n b := by
  unfold nearF; rw [if_neg h]; rw [q_eq hx hy (by omega)]
theorem nf_zero {b x y : Int} (hb : b ≠ 0) (hx : x = (b.natAbs : Int)) (hy : y = 2 * (b.natAbs : Int)) : x.fdiv y = nearF 0 b := by
  subst hx; subst hy
  rw [Int.fdiv_eq_ediv_of_nonneg _ (by omega)]
  unfold nearF
  have e : (b.natAbs : Int) / (2 * (b.natAbs : Int)) = 0 := Int.ediv_eq_zero_of_lt (by omega) (by omega)
  simp [e]
theorem nearF_neg (n b : Int) (hb : b ≠ 0) : nearF (-n) (-b) = nearF n b := by
  by_cases hn : n = 0
  · subst hn
    have e : (b.natAbs : Int) / (2 * (b.natAbs : Int)) = 0 := Int.ediv_eq_zero_of_lt (by omega) (by omega)
    unfold nearF; simp [e]
  · unfold nearF
    rw [Int.natAbs_neg, Int.natAbs_neg]
    have h : (-n < 0 ↔ -b < 0) ↔ (n < 0 ↔ b < 0) := by omega
    by_cases h1 : (n < 0 ↔ b < 0)
    · rw [if_pos h1, if_pos (h.mpr h1)]
    · rw [if_neg h1, if_neg (fun q => h1 (h.mp q))]
theorem ab (n : Int) : (if n < 0 then -n else n) = (n.natAbs : Int) := by split <;> omega

theorem vint {x y : Int} {t : Tok} (h : x = y) : ∃ t', Value.int x t = Value.int y t' := ⟨t, h ▸ rfl⟩


theorem near_gives {n b : Int} {tn tb : Tok} {rest : List (Addr × Obj)} (hb : b ≠ 0) (hb1 : -(2 ^ 100) < b) (hb2 : b < 2 ^ 100) :
    Gives w p loose mean mg mb 234 1 [.int n tn, .int b tb] [] rest (fun v sel' => sel' = [] ∧ ∃ t, v = .int (nearF n b) t) := by
  unfold Gives
  k_fill
  intro dp un gd cn cs a ccd cl outer A₀ base h₀ L m s Q E B F X N hdis T hk hd hu hret
  have hrl9 : 500 < recursionLimit := by decide
  refine wpAny_call ?_
  k_dflt (walk_at "MINE enter")
  k_steps
  all_goals (refine bodyEnd_of rfl (by assumption) News.nil ⟨rfl, vint ?_⟩)
  all_goals (rw [ab]; try simp only [decide_eq_true_eq, decide_eq_false_iff_not, Bool.not_eq_true, Bool.not_eq_false] at *)
  all_goals (first
    | exact nf_pos (by omega) (by omega) (by omega)
    | exact nf_neg (by omega) (by omega) (by omega)
    | (have e : n = 0 := by omega
       subst e
       exact nf_zero (by omega) (by omega) (by omega))
    | ((by_cases e : n = 0); (subst e; exact nf_zero (by omega) (by omega) (by omega)); exact nf_pos (by omega) (by omega) (by omega)))

theorem div_gives {n b : Int} {tn tb : Tok} {rest : List (Addr × Obj)} (hb : b ≠ 0) (hb1 : -(2 ^ 100) < b) (hb2 : b < 2 ^ 100) :
    Gives w p loose mean mg mb 54 1 [.int n tn, .int b tb] [] rest (fun v sel' => sel' = [] ∧ ∃ t, v = .int (nearF n b) t) := by
  unfold Gives
  k_fill
  intro dp un gd cn cs a ccd cl outer A₀ base h₀ L m s Q E B F X N hdis T hk hd hu hret
  have hrl9 : 500 < recursionLimit := by decide
  refine wpAny_call ?_
  k_dflt (walk_at "MINE enter")
  k_steps
  all_goals (refine bodyEnd_of rfl (by assumption) News.nil ⟨rfl, vint ?_⟩)
  all_goals (rw [ab, ab]; try simp only [decide_eq_true_eq, decide_eq_false_iff_not, Bool.not_eq_true, Bool.not_eq_false, beq_iff_eq, beq_eq_false_iff_ne, ne_eq, decide_eq_decide] at *)
  all_goals (first
    | exact nf_pos (by omega) (by omega) (by omega)
    | exact nf_neg (by omega) (by omega) (by omega))

theorem use_int {f : Addr} {k : Nat} {vs : List Value} {x : Int} {dp un : Nat} {gd : Option (List Code)} {cn : Str} {cs : Scope} {a : Addr} {ccd : Value} {cl : List (Str × Addr)} {outer : List Env} {A₀ : Around} {base h₀ : Heap} {L : Addr} {m : Str → Option Value} {s : Shared} {Q E : Value → Shared → Prop} {rest : List (Addr × Obj)}
    (G : Gives w p loose mean mg mb f k vs [] rest (fun v sel' => sel' = [] ∧ ∃ t, v = .int x t))
    (B : Below A₀ base outer h₀) (F : Fr h₀ L s.heap m) (X : (hd.heap_39 w.params).In h₀) (N : News h₀ L s.heap rest) (T : Top p loose mean mg mb h₀) (hk : cs.kind = .function)
    (hd : dp + k ≤ 400) (hu : un + 8 * k ≤ 1000)
    (ret : ∀ t h' tk', Fr h₀ L h' m → News h₀ L h' rest → Q (.int x t) { s with heap := h', toks := tk' }) :
    wpAny (model PySem.Challenge.rw_nt0486_01.row.prog w) (ktrTop dp un gd cn cs L a ccd cl outer) (call (.ref f) vs) Q E s :=
  G dp un gd cn cs a ccd cl outer A₀ base h₀ L m s Q E B F X N (fun _ _ _ h => nomatch h) T hk hd hu fun v sel' h' tk' F' N' _ P => by
    obtain ⟨rfl, t, rfl⟩ := P
    exact ret t h' tk' F' N'

end
theorem say_2 : True := by
  (k_with "M call ref" => k_dflt (k_here; (with_reducible show wpAny _ _ (PySem.call (Value.ref 54) [Value.int _ _, Value.int _ _]) _ _ _); (refine' use_int (div_gives ?zhb ?zh1 ?zh2) ?zB ?zF ?zX ?zN ?zT ?zk ?zd ?zu ?_); k_extra "MINE std"; k_extra "MINE nz"; k_whole; intro t9 h9 tk9 F9 N9; k_extra "MINE end"))
  (k_with "M call ref" => k_dflt (k_here; (with_reducible show wpAny _ _ (PySem.call (Value.ref 234) [Value.int _ _, Value.int _ _]) _ _ _); (refine' use_int (near_gives ?zhb ?zh1 ?zh2) ?zB ?zF ?zX ?zN ?zT ?zk ?zd ?zu ?_); k_extra "MINE std"; k_extra "MINE nz"; k_whole; intro t9 h9 tk9 F9 N9; k_extra "MINE end"))
  trivial
variable {w : World} {p : Program} {loose : List Str} {mean : ExcName → Option Value} {mg mb : Str → Option Value}
section
theorem mq_gives {n b : Int} {tn tb : Tok} {rest : List (Addr × Obj)} (hb : b ≠ 0) (hb1 : -(2 ^ 100) < b) (hb2 : b < 2 ^ 100) :
    Gives w p loose mean mg mb 96 2 [.int n tn, .int b tb] [] rest (fun v sel' => sel' = [] ∧ ∃ t, v = .int (nearF n b) t) := by
  unfold Gives
  k_fill
  intro dp un gd cn cs a ccd cl outer A₀ base h₀ L m s Q E B F X N hdis T hk hd hu hret
  have hrl9 : 500 < recursionLimit := by decide
  refine wpAny_call ?_
  k_dflt (walk_at "MINE enter")
  k_steps
  all_goals (refine bodyEnd_of rfl (by assumption) News.nil ⟨rfl, vint ?_⟩)
  all_goals first
    | rfl
    | exact nearF_neg _ _ hb
end
end
section
theorem say_3 : True := by
  (k_with "M call ref" => k_dflt (k_here; (with_reducible show wpAny _ _ (PySem.call (Value.ref 96) [Value.int _ _, Value.int _ _]) _ _ _); (refine' use_int (mq_gives ?zhb ?zh1 ?zh2) ?zB ?zF ?zX ?zN ?zT ?zk ?zd ?zu ?_); k_extra "MINE std"; k_extra "MINE nz"; k_whole; intro t9 h9 tk9 F9 N9; k_extra "MINE end"))
  trivial
variable {w : World} {p : Program} {loose : List Str} {mean : ExcName → Option Value} {mg mb : Str → Option Value}
section
abbrev dPairs (lc : Addr) (ta tb : Tok) (mixed turn : Int) : List (Str × Value) :=
  [(Str.ofString "cells", .ref lc), (Str.ofString "mixed", .int mixed ta), (Str.ofString "turn", .int turn tb)]
def DeckIs (w : World) (d lc : Addr) (o l : Obj) (k : Nat) : Prop :=
  ∃ (ws : List Value) (ns : List Int) (ta tb : Tok) (mixed turn : Int) (q : Nat), l = W.listOf ws.toArray q ∧ IntsAre ws ns ∧ ns.length ≤ 16 ∧
    o.IsDictOf (PySem.strKind PySem.Challenge.rw_nt0486_01.row.prog w) (dPairs lc ta tb mixed turn) ∧ (d == sysModules) = false ∧ @Ne Nat lc d ∧ 0 ≤ mixed ∧ mixed < 2147483587 ∧ 0 ≤ turn ∧ turn ≤ k


theorem draw_end {w : World} {g : Heap} {L' : Addr} {s : Shared} {m' : Str → Option Value} {h' : Heap} {tk' : Nat} {news : List (Addr × Obj)} {d lc : Addr} {o' : Obj} {arr : Array Value} {ws : List Value} {ns : List Int} {q : Nat} {ta tb t : Tok} {mixed turn x b : Int} {k : Nat}
    (hb : 0 < b) (F : Fr g L' h' m') (N : News g L' h' news) (h1 : (lc, W.listOf arr q) ∈ news) (h2 : (d, o') ∈ news) (he : arr = ws.toArray) (hI : IntsAre ws ns) (hlen : ns.length ≤ 16)
    (hD : o'.IsDictOf (PySem.strKind PySem.Challenge.rw_nt0486_01.row.prog w) (dPairs lc ta tb mixed (turn + 1))) (lo : (d == sysModules) = false) (hne : @Ne Nat lc d) (hm0 : 0 ≤ mixed) (hm1 : mixed < 2147483587) (ht0 : 0 ≤ turn) (ht1 : turn ≤ k) :
    BodyEnd g L' s (fun v sel' => ∃ o' l' r t, sel' = [(lc, l'), (d, o')] ∧ v = .int r t ∧ 0 ≤ r ∧ r < b ∧ DeckIs w d lc o' l' (k + 1)) (.int (x.fmod b) t) { s with heap := h', toks := tk' } :=
by
  subst he
  exact bodyEnd_of (sel' := [(lc, W.listOf ws.toArray q), (d, o')]) rfl F (fun p hp => by
    rcases List.mem_cons.mp hp with rfl | hp
    · exact N _ h1
    · rw [List.mem_singleton.mp hp]; exact N _ h2) ⟨_, _, _, _, rfl, rfl, fmod_lo _ hb, fmod_hi _ hb, ws, ns, ta, tb, mixed, turn + 1, q, rfl, hI, hlen, hD, lo, hne, hm0, hm1, by omega, by omega⟩

theorem pos_of_ne {us : List Value} {ns : List Int} (h : IntsAre us ns) (h2 : decide (ns = []) = false) : 0 < us.length := by
  have h3 := IntsAre.length h
  have h4 := of_decide_eq_false h2
  cases ns with
  | nil => exact absurd rfl h4
  | cons a r => simp only [List.length_cons] at h3; omega
local macro_rules | `(tactic| size_fits) => `(tactic| ((simp only [List.size_toArray, List.length_dropLast]); rw [PySem.sizeLine_eq]; omega))
local macro_rules | `(tactic| kpa_ne) => `(tactic| exact pos_of_ne (by assumption) (by assumption))


theorem draw_gives {d lc : Addr} {o l : Obj} {k : Nat} {b : Int} {tb' : Tok} {rest : List (Addr × Obj)} (hb : 0 < b) (hb2 : b < 2 ^ 62) (hk1 : k ≤ 1000) (D : DeckIs w d lc o l k) :
    Gives w p loose mean mg mb 220 1 [.ref d, .int b tb'] [(lc, l), (d, o)] rest
      (fun v sel' => ∃ o' l' r t, sel' = [(lc, l'), (d, o')] ∧ v = .int r t ∧ 0 ≤ r ∧ r < b ∧ DeckIs w d lc o' l' (k + 1)) := by
  unfold Gives
  k_fill
  obtain ⟨ws, ns, ta, tb, mixed, turn, q, rfl, hI, hlen, hD, lo, hne, hm0, hm1, ht0, ht1⟩ := D
  intro dp un gd cn cs a ccd cl outer A₀ base h₀ L m s Q E B F X N hdis T hk hd hu hret
  have hwl : ws.length ≤ 16 := by have h3 := IntsAre.length hI; omega
  have hrl9 : 500 < recursionLimit := by decide
  refine wpAny_call ?_
  k_dflt (walk_at "MINE enter")
  k_steps
  · exact draw_end hb (by assumption) (by assumption) (by k_mem) (by k_mem) rfl hI hlen (by assumption) lo hne hm0 hm1 ht0 ht1
  · exact draw_end (ws := ws.dropLast ++ [_]) (ns := ns.dropLast ++ [_]) hb (by assumption) (by assumption) (by k_mem) (by k_mem) (List.push_toArray _ _) (IntsAre.append (by assumption) (IntsAre.cons _ _ IntsAre.nil))
      (by
        have h9 := pos_of_ne hI (by assumption)
        have h8 := IntsAre.length hI
        simp only [List.length_append, List.length_dropLast, List.length_cons, List.length_nil]; omega) (by assumption) lo hne hm0 hm1 ht0 ht1
  · exact draw_end hb (by assumption) (by assumption) (by k_mem) (by k_mem) rfl (by assumption) (by simp only [List.length_dropLast]; omega) (by assumption) lo hne hm0 hm1 ht0 ht1
end
end
section
variable {w : World} {p : Program} {loose : List Str} {mean : ExcName → Option Value} {mg mb : Str → Option Value}
section
inductive Pk (d : Addr) (o : Obj) : List (Addr × Obj) → List (Addr × Obj) → Prop
  | head {r : List (Addr × Obj)} : (∀ p ∈ r, p.1 ≠ d) → Pk d o ((d, o) :: r) r
  | tail {p : Addr × Obj} {r r' : List (Addr × Obj)} : p.1 ≠ d → Pk d o r r' → Pk d o (p :: r) (p :: r')
theorem Pk.sub {d : Addr} {o : Obj} {l r : List (Addr × Obj)} (P : Pk d o l r) : ((d, o) ∈ l) ∧ (∀ p ∈ r, p ∈ l) ∧ (∀ p ∈ r, p.1 ≠ d) := by
  induction P with
  | head h => exact ⟨.head _, fun p hp => .tail _ hp, h⟩
  | tail h _ ih => exact ⟨.tail _ ih.1, fun p hp => by
      rcases List.mem_cons.mp hp with rfl | hp
      · exact .head _
      · exact .tail _ (ih.2.1 p hp), fun p hp => by
      rcases List.mem_cons.mp hp with rfl | hp
      · exact h
      · exact ih.2.2 p hp⟩


theorem use_deck {f : Addr} {kk : Nat} {vs : List Value} {d lc : Addr} {o l : Obj} {k' : Nat} {R : Int → Prop} {dp un : Nat} {gd : Option (List Code)} {cn : Str} {cs : Scope} {a : Addr} {ccd : Value} {cl : List (Str × Addr)} {outer : List Env} {A₀ : Around} {base h₀ : Heap} {L : Addr} {m : Str → Option Value} {s : Shared} {Q E : Value → Shared → Prop} {news r1 rest : List (Addr × Obj)}
    (G : Gives w p loose mean mg mb f kk vs [(lc, l), (d, o)] rest (fun v sel' => ∃ o' l' r t, sel' = [(lc, l'), (d, o')] ∧ v = .int r t ∧ R r ∧ DeckIs w d lc o' l' k'))
    (B : Below A₀ base outer h₀) (F : Fr h₀ L s.heap m) (X : (hd.heap_39 w.params).In h₀) (N : News h₀ L s.heap news) (P1 : Pk lc l news r1) (P2 : Pk d o r1 rest) (T : Top p loose mean mg mb h₀) (hk : cs.kind = .function)
    (hd : dp + kk ≤ 400) (hu : un + 8 * kk ≤ 1000)
    (ret : ∀ r t o' l' h' tk', R r → DeckIs w d lc o' l' k' → Fr h₀ L h' m → News h₀ L h' ((lc, l') :: (d, o') :: rest) → (∀ p ∈ rest, p.1 ≠ lc) → (∀ p ∈ rest, p.1 ≠ d) → @Ne Nat d lc → Q (.int r t) { s with heap := h', toks := tk' }) :
    wpAny (model PySem.Challenge.rw_nt0486_01.row.prog w) (ktrTop dp un gd cn cs L a ccd cl outer) (call (.ref f) vs) Q E s :=
  have S1 := P1.sub
  have S2 := P2.sub
  G dp un gd cn cs a ccd cl outer A₀ base h₀ L m s Q E B F X (fun q hq => N q (by
      rcases List.mem_cons.mp hq with rfl | hq
      · exact S1.1
      rcases List.mem_cons.mp hq with rfl | hq
      · exact S1.2.1 _ S2.1
      · exact S1.2.1 _ (S2.2.1 _ hq)))
    (fun q hq r hr => by
      rcases List.mem_cons.mp hr with rfl | hr
      · exact S1.2.2 q (S2.2.1 q hq)
      · rw [List.mem_singleton.mp hr]; exact S2.2.2 q hq)
    T hk hd hu fun v sel' h' tk' F' N' _ P => by
    obtain ⟨o', l', r, t, rfl, rfl, hr, D'⟩ := P
    exact ret r t o' l' h' tk' hr D' F' N' (fun q hq => S1.2.2 q (S2.2.1 q hq)) S2.2.2 (S1.2.2 _ S2.1)

theorem gives_mono {f : Addr} {k : Nat} {vs : List Value} {sel rest : List (Addr × Obj)} {P P' : Value → List (Addr × Obj) → Prop} (G : Gives w p loose mean mg mb f k vs sel rest P) (h : ∀ v s, P v s → P' v s) : Gives w p loose mean mg mb f k vs sel rest P' :=
  fun dp un gd cn cs a ccd cl outer A₀ base h₀ L m s Q E B F X N hdis T hk hd hu hret => G dp un gd cn cs a ccd cl outer A₀ base h₀ L m s Q E B F X N hdis T hk hd hu fun v sel' h' tk' F' N' hd' hp => hret v sel' h' tk' F' N' hd' (h _ _ hp)

theorem draw_gives' {d lc : Addr} {o l : Obj} {k : Nat} {b : Int} {tb' : Tok} {rest : List (Addr × Obj)} (D : DeckIs w d lc o l k) (hb : 0 < b) (hb2 : b < 2 ^ 62) (hk1 : k ≤ 1000) :
    Gives w p loose mean mg mb 220 1 [.ref d, .int b tb'] [(lc, l), (d, o)] rest (fun v sel' => ∃ o' l' r t, sel' = [(lc, l'), (d, o')] ∧ v = .int r t ∧ (0 ≤ r ∧ r < b) ∧ DeckIs w d lc o' l' (k + 1)) :=
  gives_mono (draw_gives hb hb2 hk1 D) fun v s ⟨o', l', r, t, h1, h2, h3, h4, h5⟩ => ⟨o', l', r, t, h1, h2, ⟨h3, h4⟩, h5⟩

end
theorem say_5 : True := by
  (k_with "MINE pk" => first | ((refine' Pk.head ?za); (case za => k_all)) | ((refine' Pk.tail ?za ?zb); (case za => k_ne); (case zb => k_extra "MINE pk")))
  (k_with "MINE p2" => ((case P1 => k_extra "MINE pk"); (case P2 => k_extra "MINE pk")))
  (k_with "MINE dec" => first | decide | omega)
  (k_with "M call ref" => k_dflt (k_here; (with_reducible show wpAny _ _ (PySem.call (Value.ref 220) [Value.ref _, Value.int _ _]) _ _ _); (refine' use_deck (draw_gives' ?zD ?zhb ?zh1 ?zh2) ?zB ?zF ?zX ?zN ?P1 ?P2 ?zT ?zk ?zd ?zu ?_); (case zD => assumption); k_extra "MINE std"; k_extra "MINE p2"; (case zhb => k_extra "MINE dec"); (case zh1 => k_extra "MINE dec"); (case zh2 => k_extra "MINE dec"); k_whole; intro r9 t9 o9 l9 h9 tk9 R9 D9 F9 N9 dl9 dd9 dn9; k_extra "MINE end"))
  trivial
variable {w : World} {p : Program} {loose : List Str} {mean : ExcName → Option Value} {mg mb : Str → Option Value}
section
theorem isList_rest {g : Heap} {x : Addr} {vs : List Value} {q : Nat} {rest : List (Addr × Obj)} (h : ∀ p ∈ rest, g.get? p.1 = some p.2) (hx : (x, W.listOf vs.toArray q) ∈ rest) : g.IsList x vs.toArray := ⟨_, h _ hx, rfl, _, rfl⟩
theorem pick_gives {d lc x : Addr} {o l : Obj} {k q : Nat} {vs : List Value} {ns : List Int} {rest : List (Addr × Obj)} (D : DeckIs w d lc o l k) (hk1 : k ≤ 1000) (hx : (x, W.listOf vs.toArray q) ∈ rest) (hI : IntsAre vs ns) (h0 : 0 < ns.length) (h1 : ns.length ≤ 100) :
    Gives w p loose mean mg mb 227 2 [.ref d, .ref x] [(lc, l), (d, o)] rest (fun v sel' => ∃ o' l' r t, sel' = [(lc, l'), (d, o')] ∧ v = .int r t ∧ r ∈ ns ∧ DeckIs w d lc o' l' (k + 1)) := by
  unfold Gives
  k_fill
  intro dp un gd cn cs a ccd cl outer A₀ base h₀ L m s Q E B F X N hdis T hk hd hu hret
  have hrl9 : 500 < recursionLimit := by decide
  have hne : @Ne Nat lc d := by obtain ⟨_, _, _, _, _, _, _, _, _, _, _, _, h, _⟩ := D; exact h
  refine wpAny_call ?_
  k_dflt (walk_at "MINE enter")
  have hl9 := isList_rest (by assumption) hx
  k_steps
  have h9 : ∀ r9 : Int, 0 ≤ r9 ∧ r9 < ns.length → ns.getD r9.toNat 0 ∈ ns := fun r9 ⟨ha, hb⟩ => by
    have hc : r9.toNat < ns.length := by omega
    rw [List.getD_eq_getElem?_getD, List.getElem?_eq_getElem hc]
    exact List.getElem_mem hc
  exact bodyEnd_of rfl (by assumption) (by assumption) ⟨_, _, _, _, rfl, rfl, h9 _ (by assumption), by assumption⟩
end
end
section
section
/-- no object's dict is changed by this step's stores -/
def DictSame (f : Obj → Obj) : Prop := ∀ o, (f o).dict = o.dict ∧ (f o).isFreed = o.isFreed
/-- a tree without calls whose stores leave each object's dict where it is -/
def Tame {α : Type} : Sem α → Prop
  | .pure _ => True
  | .raise _ => True
  | .unsupported _ => True
  | .finish _ => True
  | .rule _ k => Tame (k ())
  | .at _ k => Tame (k ())
  | .load _ _ k => ∀ o, Tame (k o)
  | .update _ _ f k => DictSame f ∧ Tame (k ())
  | .alloc _ k => ∀ a, Tame (k a)
  | .loadIfAlive _ k => ∀ o, Tame (k o)
  | .point _ k => Tame (k ())
  | .register _ _ => True
  | .fresh k => ∀ t, Tame (k t)
  | .ask k => ∀ x, Tame (k x)
  | .choose _ _ k => ∀ n, Tame (k n)
  | .os _ _ k => ∀ r, Tame (k r)
  | .call _ _ _ _ _ => False
  | .handled _ k => ∀ x, Tame (k x)
  | .newGen _ k => ∀ n, Tame (k n)
  | .genState _ k => ∀ x, Tame (k x)
  | .resume _ _ _ _ => False
  | .yield _ _ _ _ => True
  | .stack k => ∀ st, Tame (k st)
  | .fork _ _ => True
  | .thread k => Tame (k 0)
  | .await _ _ _ _ _ => True
def KD (h h' : Heap) : Prop := ∀ b o, h.get? b = some o → ∃ o', h'.get? b = some o' ∧ o'.dict = o.dict
theorem KD.refl (h : Heap) : KD h h := fun _ o e => ⟨o, e, rfl⟩
theorem KD.trans {h₁ h₂ h₃ : Heap} (x : KD h₁ h₂) (y : KD h₂ h₃) : KD h₁ h₃ := fun b o e => by
  obtain ⟨o', e', q⟩ := x b o e
  obtain ⟨o'', e'', q'⟩ := y b o' e'
  exact ⟨o'', e'', q'.trans q⟩
theorem KD.push (h : Heap) (o : Obj) : KD h (h.push o) := fun _ o' e => ⟨o', Heap.get?_push_of_some _ e, rfl⟩
theorem KD.update (h : Heap) (a : Addr) {f : Obj → Obj} (hf : DictSame f) : KD h (h.update a f) := fun b o e => by
  by_cases q : a = b
  · subst q
    exact ⟨f o, Heap.get?_update_self f e ((hf o).2.trans (Heap.get?_some_iff.mp e).2), (hf o).1⟩
  · exact ⟨o, (Heap.get?_update_other h f q).trans e, rfl⟩

theorem tame_wp {α : Type} {M : Model} {Γ : PySem.Ctx} {t : Sem α} (T : Tame t) {Q : α → Pos → Shared → Prop} {E : Value → Pos → Shared → Prop} {p : Pos} {s : Shared} (h : Sem.wp M Γ t Q E p s) :
    Sem.wp M Γ t (fun a p' s' => Q a p' s' ∧ KD s.heap s'.heap) (fun e p' s' => E e p' s' ∧ KD s.heap s'.heap) p s := by
  have up : ∀ {s₁ s₂ : Shared} {u : Sem α} {p₁ : Pos}, KD s₁.heap s₂.heap → Sem.wp M Γ u (fun a p' s' => Q a p' s' ∧ KD s₂.heap s'.heap) (fun e p' s' => E e p' s' ∧ KD s₂.heap s'.heap) p₁ s₂ →
      Sem.wp M Γ u (fun a p' s' => Q a p' s' ∧ KD s₁.heap s'.heap) (fun e p' s' => E e p' s' ∧ KD s₁.heap s'.heap) p₁ s₂ := fun k =>
    Sem.wp_mono M Γ _ (fun _ _ _ x => ⟨x.1, k.trans x.2⟩) (fun _ _ _ x => ⟨x.1, k.trans x.2⟩) _ _
  induction t generalizing p s with
  | pure a => exact ⟨h, KD.refl _⟩
  | raise e => exact ⟨h, KD.refl _⟩
  | unsupported | finish | register | yield | fork | await => exact h.elim
  | rule _ k ih | «at» _ k ih | point _ k ih => exact ih () T h
  | load a _ k ih => obtain ⟨o, ho, h⟩ := h; exact ⟨o, ho, ih o (T o) h⟩
  | update a _ f k ih => exact ⟨h.1, up (s₁ := s) (KD.update _ _ T.1) (ih () T.2 h.2)⟩
  | alloc o k ih =>
    show Sem.wp M Γ (k s.heap.objs.size) _ _ p { s with heap := s.heap.push o }
    exact up (KD.push _ _) (ih _ (T _) h)
  | loadIfAlive a k ih => exact ih _ (T _) h
  | fresh k ih | ask k ih | handled _ k ih | newGen _ k ih | stack k ih | os _ _ k ih => exact ih _ (T _) h
  | thread k ih => exact ih 0 T h
  | choose _ _ k ih => exact ⟨h.1, ih _ (T _) h.2⟩
  | genState _ k ih => obtain ⟨st, hs, h⟩ := h; exact ⟨st, hs, ih _ (T _) h⟩
  | call => exact T.elim
  | resume => exact T.elim
theorem wpAny_tame {α : Type} {M : Model} {A : Around} {t : Sem α} {Q : α → Shared → Prop} {E : Value → Shared → Prop} {s : Shared} (T : Tame t) (h : wpAny M A t Q E s) :
    wpAny M A t (fun a s' => Q a s' ∧ KD s.heap s'.heap) (fun e s' => E e s' ∧ KD s.heap s'.heap) s := fun Γ p hΓ => tame_wp T (h Γ p hΓ)

theorem Tame.bind {α β : Type} {m : Sem α} {f : α → Sem β} (T : Tame m) (hf : ∀ a, Tame (f a)) : Tame (m >>= f) := by
  show Tame (m.bind f)
  induction m with
  | pure a => exact hf a
  | raise | unsupported | finish | register | yield | fork | await => trivial
  | rule _ k ih | «at» _ k ih | point _ k ih => exact ih () T
  | thread k ih => exact ih 0 T
  | load _ _ k ih | alloc _ k ih | loadIfAlive _ k ih | fresh k ih | ask k ih | handled _ k ih | newGen _ k ih | stack k ih | os _ _ k ih | choose _ _ k ih | genState _ k ih => exact fun x => ih x (T x)
  | update _ _ f k ih => exact ⟨T.1, ih () T.2⟩
  | call => exact T.elim
  | resume => exact T.elim
theorem Tame.pure {α : Type} (a : α) : Tame (Pure.pure a : Sem α) := trivial
theorem Tame.unsupported {α : Type} (w : String) : Tame (PySem.unsupported w : Sem α) := trivial
theorem tame_load (a : Addr) : Tame (PySem.load a) := fun _ => trivial
theorem tame_loadPart (a : Addr) (p : Option Value) : Tame (PySem.loadPart a p) := fun _ => trivial
theorem tame_stack : Tame PySem.stack := fun _ => trivial
theorem tame_alloc (o : Obj) : Tame (PySem.alloc o) := fun _ => trivial
theorem tame_update (a : Addr) {f : Obj → Obj} (hf : DictSame f) : Tame (PySem.update a f) := ⟨hf, trivial⟩
theorem same_fields (g : Array Value → Array Value) : DictSame (Obj.mapFields g) := fun o => by
  obtain ⟨c, d, dt, sl⟩ := o
  cases dt <;> exact ⟨rfl, rfl⟩
theorem same_slots (g : Obj → Array (Option Value)) : DictSame (fun o => { o with slots := g o }) := fun o => by
  obtain ⟨c, d, dt, sl⟩ := o
  cases dt <;> exact ⟨rfl, rfl⟩
local macro_rules | `(tactic| walk_at "MINE tame") => `(tactic| repeat' (first | exact trivial | exact tame_load _ | exact tame_loadPart _ _ | exact tame_stack | exact tame_alloc _ | exact tame_update _ (same_fields _) | exact tame_update _ (same_slots _) | (refine Tame.bind ?_ fun _ => ?_) | split))
theorem tame_fieldsOf (v : Value) : Tame (PySem.fieldsOf v) := by
  unfold PySem.fieldsOf
  walk_at "MINE tame"
theorem tame_field (v : Value) (i : Nat) : Tame (PySem.field v i) := by
  unfold PySem.field
  refine Tame.bind (tame_fieldsOf _) fun _ => ?_
  walk_at "MINE tame"
theorem tame_setField (v : Value) (i : Nat) (x : Value) : Tame (PySem.setField v i x) := by
  unfold PySem.setField PySem.updateField
  walk_at "MINE tame"
theorem tame_setFlight (e : Value) (f : Option Addr) : Tame (PySem.setFlight e f) := by
  unfold PySem.setFlight
  refine Tame.bind (tame_field _ _) fun _ => ?_
  split
  · exact tame_setField _ _ _
  · exact trivial
theorem tame_behind (env : Env) (l : List Env) : Tame (PySem.behindIsImport env l) := by
  unfold PySem.behindIsImport
  repeat' (first | exact trivial | exact tame_field _ _ | (refine Tame.bind ?_ fun _ => ?_) | split)
theorem tame_keptBack (env : Env) (b : Bool) (l : List Env) : Tame (PySem.keptBack env b l) := by
  unfold PySem.keptBack PySem.underTheClaimsCaller
  walk_at "MINE tame"
theorem tame_ready : ∀ l : List Env, Tame (PySem.readyFrames l)
  | [] => trivial
  | env :: l => by
    unfold PySem.readyFrames
    split
    · refine Tame.bind (tame_load _) fun _ => ?_
      split
      · exact trivial
      · refine Tame.bind (tame_behind _ _) fun _ => Tame.bind (tame_keptBack _ _ _) fun _ => Tame.bind (tame_update _ (same_slots _)) fun _ => tame_ready l
    · exact trivial
theorem tame_frameOf (env : Env) : Tame (PySem.frameOf env) := by
  unfold PySem.frameOf PySem.frameEnvs
  refine Tame.bind (Tame.bind tame_stack fun _ => trivial) fun l => Tame.bind ?_ fun _ => ?_
  · unfold PySem.frameObject
    split
    · exact trivial
    · exact Tame.bind (tame_ready _) fun _ => trivial
  · split <;> exact trivial
theorem tame_place (f : Addr) (b : Bool) : Tame (PySem.entryPlaceOf f b) := by
  unfold PySem.entryPlaceOf
  walk_at "MINE tame"
theorem tame_newEntry (a b c d e : Value) (l : List Value) : Tame (PySem.EntryCells.newEntry a b c d e l) := by
  unfold PySem.EntryCells.newEntry PySem.newFields PySem.newObj PySem.newObjAsIs PySem.classHasDel
  walk_at "MINE tame"
theorem tame_note (e : Value) (env : Env) : Tame (PySem.noteFrame e env) := by
  unfold PySem.noteFrame
  repeat' (first | exact trivial | exact tame_field _ _ | exact tame_setField _ _ _ | exact tame_frameOf _ | exact tame_place _ _ | exact tame_newEntry _ _ _ _ _ _ | (refine Tame.bind ?_ fun _ => ?_) | split)
theorem tame_leaving (env : Env) (e : Value) : Tame (PySem.leaving env e) := by
  unfold PySem.leaving
  exact Tame.bind (tame_note _ _) fun _ => tame_setFlight _ _
end
end
section
section
noncomputable abbrev KK (w : World) : Frag := hd.heap_39 w.params
abbrev psTail : List Value := [.ref 32, .type "Exception", .type "BaseException", .type "object"]
abbrev psObj : Obj := excClassObj (Str.ofString "PsError") (Str.ofString "PsError") 45 44 [.ref 32] psTail true [] [] false none none (some (.ref 36)) none (some (.str (Str.ofString "PsError") 220)) (some (.str (Str.ofString "PsError") 228)) (some (.bool true)) "Exception.__new__"
theorem psC {w : World} {h : Heap} (X : (KK w).In h) : h.get? 45 = some psObj := X _ _ rfl
theorem ps_look {w : World} {M : Model} {h : Heap} (X : (KK w).In h) {name : Str} {r : Option Value} (e : findIn (KK w) (.ref 45) name = some r) : Looks M h (typeLookup (.ref 45) name) r := looks_findIn X e
theorem ps_init {w : World} : findIn (KK w) (.ref 45) (Str.ofString "__init__") = some (some (.ref 29)) := by kernel_rfl
theorem ps_sa {w : World} : findIn (KK w) (.ref 45) (Str.ofString "__setattr__") = some (some (.builtin "object.__setattr__")) := by kernel_rfl
theorem ps_ga {w : World} : findIn (KK w) (.ref 45) (Str.ofString "__getattribute__") = some (some (.builtin "BaseException.__getattribute__")) := by kernel_rfl
theorem ps_gattr {w : World} : findIn (KK w) (.ref 45) (Str.ofString "__getattr__") = some none := by kernel_rfl
theorem ps_taker {w : World} : takerIn (KK w) 45 (Str.ofString "told") = some none := by kernel_rfl
theorem ps_told {w : World} : findIn (KK w) (.ref 45) (Str.ofString "told") = some none := by kernel_rfl
theorem ps_initfn {w : World} : typeIn (KK w) (.ref 29) = some (.type "function") := by kernel_rfl

section
variable {M : Model} {A : Around} {E : Value → Shared → Prop} {h : Heap} {g : Array GenState} {d : Drawn} {t : Nat} {os : OsState} {w : World}
theorem ps_check_new (X : (KK w).In h) {rest : List Value} {Q : Unit → Shared → Prop} (hq : Q () ⟨h, g, d, t, os⟩) :
    wpAny M A (checkBuiltinCall "Exception.__new__" ⟨.ref 45 :: rest, []⟩) Q E ⟨h, g, d, t, os⟩ := by
  have F := PySem.F.excBase_Exception
  have hC := psC X
  have hcont : (Value.ref 45 :: psTail).contains (.type "Exception") = true := by decide +kernel
  have hstar := F.noStar
  simp only [checkBuiltinCall, F.newKind, F.newSplit, F.newRow]
  repeat (first | refine wpAny_loadPart_at hC ?_ | (refine wpAny_isSubtype_exc hC ?_; rw [hcont]) | refine wpAny_staticBase_exc hC ?_ | refine wpAny_madeBy_exc hC ?_ | simp only [bne_self_eq_false, Bool.false_eq_true, if_false] | wp_step)
  exact hq
end
/-- the exception as it is made -/
abbrev newPs (t : Addr) : Obj := { cls := .ref 45, data := .fields #[.ref t, .none, .none, .none, .bool false, .none] }
section
variable {prog : Program} {w : World} {A : Around} {R : Result → Shared → Prop} {h : Heap} {g : Array GenState} {d : Drawn} {t : Nat} {os : OsState}
theorem ps_new (X : (KK w).In h) {rest : List Value} (hq : R (.ok (.ret (.ref (h.objs.size + 1)))) ⟨(h.push { cls := .type "tuple", data := .seq rest.toArray }).push (newPs h.objs.size), g, d, t, os⟩)
    (hrest : rest.length ≤ sizeLine) : codeAny (model prog w) A (.builtin "Exception.__new__" ⟨.ref 45 :: rest, []⟩) R ⟨h, g, d, t, os⟩ := by
  have F := PySem.F.excBase_Exception
  have hC := psC X
  have hends := F.ends
  have hcB : (Value.ref 45 :: psTail).contains (.type "Exception") = true := by decide +kernel
  have hcA : (Value.ref 45 :: psTail).contains (.type "AttributeError") = false := by decide +kernel
  have hcN : (Value.ref 45 :: psTail).contains (.type "NameError") = false := by decide +kernel
  refine codeAny_builtinAt F.entry ?_
  unfold Builtin.«BaseException.__new__»
  refine PySem.wpAt_bind ?_
  show PySem.wpAt _ _ _ (stack >>= _) _ _ _
  refine PySem.wpAt_bind (PySem.wpAt_stack fun p below => PySem.wpAt_of_wpAny ?_)
  wp_walk
  refine PySem.wpAt_of_wpAny ?_
  rw [F.owner]
  repeat (first | with_reducible refine wpAny_madeHere_exc F.canon hC ?_ | with_reducible refine wpAny_loadPart_at hC ?_ | (with_reducible refine wpAny_isSubtype_exc hC ?_; first | rw [hcB] | rw [hcA] | rw [hcN]) | wp_step)
  show R _ _
  rw [Heap.size_push]
  exact hq

theorem ps_type_call {E : Value → Shared → Prop} (X : (KK w).In h) {rest : List Value} {Q : Fin → Shared → Prop} (hrest : rest.length ≤ sizeLine)
    (hq : wpAny (model prog w) A (call (.ref 29) (.ref (h.objs.size + 1) :: rest)) (fun r s' => r = .none ∧ Q (.done (.ret (.ref (h.objs.size + 1)))) s') E
      ⟨(h.push { cls := .type "tuple", data := .seq rest.toArray }).push (newPs h.objs.size), g, d, t, os⟩) :
    wpAny (model prog w) A (Builtin.«type.__call__» ⟨.ref 45 :: rest, []⟩) Q E ⟨h, g, d, t, os⟩ := by
  have F := PySem.F.excBase_Exception
  have hC := psC X
  repeat (first | with_reducible refine wpAny_loadPart_at hC ?_ | with_reducible refine wpAny_madeBy_exc hC ?_ | wp_step)
  refine codeAny_call_builtin_code (Code.quiet_builtin _ F.quiet) (ps_check_new X ?_)
  refine ps_new X ?_ hrest
  show wpAny _ _ _ _ _ _
  have k : ∀ b o, h.get? b = some o → ((h.push { cls := .type "tuple", data := .seq rest.toArray }).push (newPs h.objs.size)).get? b = some o := fun b o e => Heap.get?_push_of_some _ (Heap.get?_push_of_some _ e)
  have X₁ := Frag.In.keeps X k
  have hC₁ := psC X₁
  have hget : ((h.push { cls := .type "tuple", data := .seq rest.toArray }).push (newPs h.objs.size)).get? (h.objs.size + 1) = some (newPs h.objs.size) := by heap_get
  have hcC : (Value.ref 45 :: psTail).contains (.ref 45) = true := by decide +kernel
  unfold isInstance
  repeat (first | with_reducible refine wpAny_loadPart_at hget ?_ | (with_reducible refine wpAny_isSubtype_exc hC₁ ?_; rw [hcC]) | wp_step)
  show wpAny _ _ (typeLookup (.ref 45) _) _ _ _
  refine (looks_findIn X₁ ps_init).at (wpAny_holding (wpAny_bind ?_))
  refine (bind_fn X₁ _ ps_initfn).at (wpAny_bind (wpAny_mono hq (fun r s' hr => ?_) fun _ _ x => x))
  obtain ⟨rfl, hQ⟩ := hr
  wp_walk
  exact hQ
/-- PsError(..): the object, then its class's own __init__ -/
theorem ps_call {E : Value → Shared → Prop} (X : (KK w).In h) {rest : List Value} {Q : Value → Shared → Prop} (hrest : rest.length ≤ sizeLine)
    (hq : wpAny (model prog w) (A.under (.builtin "type.__call__" ⟨.ref 45 :: rest, []⟩)) (call (.ref 29) (.ref (h.objs.size + 1) :: rest)) (fun r s' => r = .none ∧ Q (.ref (h.objs.size + 1)) s') E
      ⟨(h.push { cls := .type "tuple", data := .seq rest.toArray }).push (newPs h.objs.size), g, d, t, os⟩) :
    wpAny (model prog w) A (call (.ref 45) rest) Q E ⟨h, g, d, t, os⟩ := by
  have f1 := tc_lookup
  have f2 := tc_bind (.ref 45)
  have hC := psC X
  have hT : (⟨h, g, d, t, os⟩ : Shared).TypeIs (.ref 45) "type" := ⟨_, hC, rfl⟩
  refine wpAny_call (codeAny_of_tree ?_)
  show wpAny _ _ (callAny (.ref 45) _) _ _ _
  repeat (any_goals (first | assumption | with_reducible refine wpAny_loadPart_at hC ?_ | wp_step))
  refine ⟨rfl, ?_⟩
  refine codeAny_call_builtin_at (Code.quiet_builtin _ (by decide +kernel)) entry_typeCall (wpAny_check_type_call_sub hC (ps_type_call X hrest ?_))
  exact hq
end
end
end
section
section
/-- the exception with its own dict -/
abbrev psAt (t D : Addr) : Obj := { cls := .ref 45, dict := some D, data := .fields #[.ref t, .none, .none, .none, .bool false, .none] }
theorem lookIn_of_ns1 {h : Heap} {D : Addr} {m : Str → Option Value} {name : Str} {v : Value} (x : h.Ns1 D m) (e : m name = some v) : ∃ od, h.get? D = some od ∧ lookIn name od = some (some v) ∧ (∃ es n, od.data = .dict es n) := by
  obtain ⟨o, es, ep, ho, hd, _, _, hf⟩ := x
  refine ⟨o, ho, ?_, es, ep, hd⟩
  have h1 := hf name
  rw [e] at h1
  unfold nsFind findBy at h1
  rw [← Array.find?_toList] at h1
  unfold lookIn
  rw [hd]
  dsimp only
  obtain ⟨en, he, hv⟩ := Option.map_eq_some_iff.mp h1
  simp only [he, hv]
section
variable {prog : Program} {w : World} {A : Around} {E : Value → Shared → Prop} {s : Shared} {e t : Addr} {v : Value}
theorem ps_mro {M : Model} {h : Heap} (X : (KK w).In h) : Looks M h (mroOf (.ref 45)) (.ref 45 :: psTail) := (looks_clsIn X (cd := { name := Str.ofString "PsError", bases := [.ref 32], mro := .ref 45 :: psTail, ns := 44, qualname := Str.ofString "PsError" }) (by kernel_rfl)).andThen .now
/-- self.told = v, on the exception as it is made -/
theorem ps_set {Q : Unit → Shared → Prop} (X : (KK w).In s.heap) (he : s.heap.get? e = some (newPs t))
    (h : ∀ h' tk' od, h'.get? e = some (psAt t s.heap.objs.size) → h'.get? s.heap.objs.size = some od → lookIn (Str.ofString "told") od = some (some v) → (∃ es n, od.data = .dict es n) →
      (∀ b o, b ≠ e → s.heap.get? b = some o → h'.get? b = some o) → Q () { s with heap := h', toks := tk' }) :
    wpAny (model prog w) A (setAttr (.ref e) (Str.ofString "told") v) Q E s := by
  have I : InstAt s.heap e (newPs t) 45 none := ⟨he, rfl, rfl, trivial⟩
  refine set_plain X I ps_sa ?_
  have SF := PySem.F.store_Exception
  have sub : Looks (model prog w) s.heap (isInstance (.ref e) (.type "object")) true := I.type.andThen (looks_mroIn X (by kernel_rfl))
  refine codeAny_call_builtin SF.slot.plain SF.entry (@check_slot (model prog w) _ _ _ "object.__setattr__" "object" "__setattr__" (.ref e) [.str (Str.ofString "told") s.toks, v] [] _ SF.kind SF.split sub (SF.args (.ref e) (.str (Str.ofString "told") s.toks) v) ?_)
  obtain ⟨hh, g, d, tk, os⟩ := s
  dsimp only at he h X
  rw [osa_eq, refuse_eq]
  have T : Looks (model prog w) hh (typeOf (.ref e)) (.ref 45) := I.type
  refine wpAny_bind (wpAny_bind (T.at (wpAny_bind ((ps_mro X).at ?_))))
  rw [refuseLoop_ref, show psTail = .ref 32 :: [.type "Exception", .type "BaseException", .type "object"] from rfl, refuseLoop_ref, SF.passes]
  refine wpAny_pure (wpAny_bind (T.at (wpAny_bind ((looks_findIn X ps_told).at (wpAny_bind (wpAny_pure ?_))))))
  dsimp only
  unfold PySem.Builtin.ObjectAttr.storeInOwnDict ownStreamTells
  refine wpAny_bind (wpAny_pure ?_)
  dsimp only
  rw [if_neg (by decide)]
  refine wpAny_bind ?_
  show wpAny _ _ (instanceDict e true) _ _ _
  unfold instanceDict
  refine wpAny_bind (wpAny_loadPart_at he ?_)
  dsimp only
  refine wpAny_bind ((looks_clsIn X (cd := { name := Str.ofString "PsError", bases := [.ref 32], mro := .ref 45 :: psTail, ns := 44, qualname := Str.ofString "PsError" }) (by kernel_rfl)).at ?_)
  rw [if_neg (by decide)]
  try dsimp only
  rw [if_neg (by simp [typeHasDict])]
  have hxs : e ≠ hh.objs.size := Nat.ne_of_lt (Heap.lt_size he)
  have hx₁ : (hh.push { cls := .type "dict", data := .dict #[] }).get? e = some (newPs t) := Heap.get?_push_of_some _ he
  refine wpAny_bind (wpAny_alloc' ?_)
  refine wpAny_bind (wpAny_update' hx₁ ?_)
  refine wpAny_pure ?_
  have hgd : ((hh.push { cls := .type "dict", data := .dict #[] }).update e fun o => { cls := o.cls, dict := some hh.objs.size, data := o.data, slots := o.slots }).get? hh.objs.size = some { cls := .type "dict", data := .dict #[] } :=
    (Heap.get?_update_ne _ _ _ _ hxs.symm).trans (Heap.get?_push_at rfl rfl)
  have hge : ((hh.push { cls := .type "dict", data := .dict #[] }).update e fun o => { cls := o.cls, dict := some hh.objs.size, data := o.data, slots := o.slots }).get? e = some (psAt t hh.objs.size) :=
    Heap.get?_update_self _ hx₁ rfl
  have hnd : ((hh.push { cls := .type "dict", data := .dict #[] }).update e fun o => { cls := o.cls, dict := some hh.objs.size, data := o.data, slots := o.slots }).Ns hh.objs.size (fun _ => none) :=
    ⟨_, #[], _, hgd, rfl, fun e he => absurd he (by simp), fun _ => rfl⟩
  show wpAny _ _ (PySem.Builtin.ObjectAttr.storeInDict hh.objs.size (.str (Str.ofString "told") tk) (Str.ofString "told") v) _ _ _
  unfold PySem.Builtin.ObjectAttr.storeInDict PySem.Builtin.ObjectAttr.newKeyGuard
  refine wpAny_bind (wpAny_pure (wpAny_bind (wpAny_nsSet1 (Heap.Ns1.of_empty hnd) fun h' hn' hs => ?_)))
  obtain ⟨oD, esD, epD, hoD, hdD, hcD⟩ := hn'.count (Within.cons (Str.ofString "told") v Within.nil)
  refine wpAny_bind (wpAny_lookBehind hoD (by rw [hdD]; exact pastItsLine_dict (Nat.le_trans hcD (by rw [List.length_cons, List.length_nil, sizeLine_eq]; omega))) ?_)
  obtain ⟨od, hod, hlk, hdt⟩ := lookIn_of_ns1 (name := Str.ofString "told") (v := v) hn' (if_pos rfl)
  exact wpAny_pure (h h' _ od ((hs.2 e hxs).trans hge) hod hlk hdt fun b o hb eb => (hs.2 b (Nat.ne_of_lt (Heap.lt_size eb))).trans ((Heap.get?_update_ne _ _ _ _ hb).trans (Heap.get?_push_of_some _ eb)))
end
section
variable {prog : Program} {w : World} {A : Around} {E : Value → Shared → Prop} {s : Shared} {e : Addr} {v : Value} {oe od : Obj}
/-- e.told -/
theorem ps_get {expr : Bool} {Q : Value → Shared → Prop} (X : (KK w).In s.heap) (I : InstAt s.heap e oe 45 (some od)) (hl : lookIn (Str.ofString "told") od = some (some v)) (hh : handedIn v = true)
    (h : Q v { s with toks := s.toks + 1 }) : wpAny (model prog w) A (getAttr (.ref e) (Str.ofString "told") expr) Q E s := by
  have FB := PySem.F.excBase_Exception
  obtain ⟨hp, g, d, tk, os⟩ := s
  have hf : findObj (KK w) 45 (some od) (Str.ofString "told") = some (.value v) := findObj_own (by kernel_rfl) ps_told (by kernel_rfl) hl
  have L0 := I.type (M := model prog w)
  have L1 := looks_find (M := model prog w) X I hf
  have Lga := looks_findIn (M := model prog w) X ps_ga
  have Lgt := looks_findIn (M := model prog w) X ps_gattr
  dsimp only at L0 L1 Lga Lgt X
  have FB := PySem.F.attrBase_Exception
  have sub : Looks (model prog w) hp (isInstance (.ref e) (.type "BaseException")) true := L0.andThen (looks_mroIn X (by kernel_rfl))
  have hk : builtinKind "BaseException.__getattribute__" = some .slot := by decide +kernel
  have hsplit : splitId "BaseException.__getattribute__" = some ("BaseException", "__getattribute__") := by decide +kernel
  unfold getAttr getAttrBy
  refine wpAny_bind (wpAny_mkText (wpAny_holding (wpAny_bind (L0.at (wpAny_bind (Lga.at ?_))))))
  dsimp only
  rw [if_neg (by decide +kernel)]
  unfold getAttrByItsOwn hookBefore
  rw [show onTheHeap (Value.ref 45) = true from rfl, if_pos rfl]
  refine wpAny_bind (Lgt.at (wpAny_bind (wpAny_attempt (wpAny_holding ?_))))
  unfold callGetattribute
  rw [if_neg (by cases expr <;> decide)]
  unfold boundAndCalled
  rw [FB.ga.bind]
  refine wpAny_bind (wpAny_pure (wpAny_call (codeAny_call_builtin FB.ga.plain PySem.F.entry_bexc_ga (@check_slot (model prog w) _ _ _ "BaseException.__getattribute__" "BaseException" "__getattribute__" (.ref e) [.str (Str.ofString "told") tk] [] _ hk hsplit sub (PySem.F.args_bexc_ga _ _) ?_))))
  refine wpAny_bind (wpAny_pure (wpAny_bind (wpAny_pure (wpAny_bind (L0.at (wpAny_bind (L1.at ?_)))))))
  refine wpAny_pure ?_
  show wpAny _ _ (handedOut v) _ _ _
  rw [handedOut_of hh]
  exact wpAny_pure h
end
end
end
section
theorem say_6 : True := by
  k_with_none
  (k_with "MINE ix" => first | exact nth_mem (i := 0) rfl | exact nth_mem (i := 1) rfl | exact nth_mem (i := 2) rfl | exact nth_mem (i := 3) rfl | exact nth_mem (i := 4) rfl | exact nth_mem (i := 5) rfl | exact nth_mem (i := 6) rfl | exact nth_mem (i := 7) rfl | ((refine memT rfl ?_); k_extra "MINE ix"))
  (k_with "MINE fx" => ((case zh => with_reducible assumption); (case ze => k_extra "MINE ix")))
  (k_with "MINE ne2" => first | ((refine' off_at ?zh ?ze); k_extra "MINE fx") | ((refine' ne0_at ?zh ?ze); k_extra "MINE fx") | ((refine' offD_at ?zh ?ze); k_extra "MINE fx") | ((refine' offC_at ?zh ?ze); k_extra "MINE fx") | ((refine' offI_at ?zh ?ze); k_extra "MINE fx") | ((refine' offA_at ?zh ?ze); k_extra "MINE fx") | ((refine' ne1_at ?zh ?ze); k_extra "MINE fx") | ((refine' ne2_at ?zh ?ze); k_extra "MINE fx") | ((refine' ne3_at ?zh ?ze); k_extra "MINE fx") | ((refine' ne4_at ?zh ?ze); k_extra "MINE fx") | ((refine' ne5_at ?zh ?ze); k_extra "MINE fx") | ((refine' neT_at ?zh ?ze ?zg); (case zg => with_reducible assumption); k_extra "MINE fx"))
  (k_with "MINE ne3" => first | exact And.left (by with_reducible assumption) | exact And.left (And.right (by with_reducible assumption)) | exact And.right (by with_reducible assumption) | exact And.left (And.right (And.right (by with_reducible assumption))) | exact And.right (And.right (by with_reducible assumption)) | exact And.left (And.right (And.right (And.right (by with_reducible assumption)))) | exact And.right (And.right (And.right (by with_reducible assumption))) | exact And.left (And.right (And.right (And.right (And.right (by with_reducible assumption))))) | exact And.right (And.right (And.right (And.right (by with_reducible assumption)))) | exact And.left (And.right (And.right (And.right (And.right (And.right (by with_reducible assumption)))))) | exact And.right (And.right (And.right (And.right (And.right (by with_reducible assumption))))))
  (k_with "MINE ne1" => with_reducible first | assumption | exact Ne.symm (by assumption) | exact Nat.ne_of_lt (by assumption) | exact Nat.ne_of_gt (by assumption) | exact Nat.ne_of_lt (Nat.lt_succ_of_lt (by assumption)) | exact Nat.ne_of_gt (Nat.lt_succ_of_lt (by assumption)))
  (k_with "M k_ne" => ((try dsimp only); (refine neN ?_); first | k_extra "MINE ne1" | exact Nat.ne_of_lt (Nat.lt_succ_self _) | exact Nat.ne_of_gt (Nat.lt_succ_self _) | k_extra "MINE ne2" | (refine Ne.symm ?_; k_extra "MINE ne2") | k_extra "MINE ne3" | (refine Ne.symm ?_; k_extra "MINE ne3") | k_extra "MINE nesay"))
  (k_with "MINE nesay" => (k_extra "MINE split"; first | k_extra "MINE ne1" | ((repeat ((rename (@Ne Nat _ _) => h9); clear h9)); omega)))
  (k_with "M k_all" => first | with_reducible assumption | exact List.forall_mem_nil _ | ((refine' List.forall_mem_cons.mpr ⟨?za, ?zb⟩); (case za => k_ne); (case zb => k_all)))
  (k_with "MINE split" => repeat ((rename _ ∧ _ => h9); cases h9))
  (k_with "MINE ca" => ((case zkA => exact rfl); (case zkF => exact rfl); (case zkK => first | exact rfl | assumption)))
  (k_with "MINE cs" => ((case zk6 => k_is); (case zk7 => k_is); (case zk8 => ktr_room); (case zk9 => exact BindsTo.of_eq rfl); k_extra "MINE c3"))
  (k_with "MINE c3" => ((case zc2 => exact rfl); (case zc3 => exact rfl); (case zc4 => exact rfl)))
  (k_with "MINE k5" => ((case zk1 => k_asm); (case zk2 => k_asm); (case zk3 => k_asm); (case zk4 => k_asm); (case zk5 => k_asm)))
  (k_with "MINE a7" => ((case ze1 => assumption); (case ze2 => assumption); (case ze3 => assumption); (case ze4 => assumption); (case ze5 => assumption); (case ze6 => assumption); (case ze7 => assumption)))
  (k_with "MINE pl" => ((case zc5 => decide); (case zkB => exact locs rfl)))
  (k_with "MINE ce" => ((case zkB => exact rfl); (case zkD => decide +kernel)))
  (k_with "MINE fold" => ((try dsimp only); (try k_fold)))
  (k_with "MINE end" => (k_sweep; (try dsimp only); (try k_fold)))
  (k_with "MINE ent" => (k_whole; intro g' L' h' FG' F' N' B' X' T'; (try (have hlN := Fr.lst FG' (by assumption))); (try dsimp only); (try k_lift B'); (try k_fold)))
  (k_with "MINE enter" => ((refine' enterR ?ze1 ?ze2 ?ze3 ?ze4 ?ze5 ?ze6 ?zkA ?zkF ?zkK ?zk6 ?zk7 ?zk8 ?zk9 ?zkB ?ze7 ?_ ?zc2 ?zc3 ?zc4 ?zc5); k_extra "MINE a7"; k_extra "MINE ca"; k_extra "MINE cs"; k_extra "MINE pl"; k_whole; intro g' L' h' F' N' B' X' T' l1 hrest' st'; (try dsimp only); (try k_lift B'); (try k_fold)))
  (k_with "MINE enterC" => ((refine' enterRC ?ze1 ?ze2 ?ze3 ?ze4 ?ze5 ?ze6 ?zkA ?zkF ?zkK ?zk6 ?zk7 ?zk8 ?zk9 ?zkB ?zkD ?ze7 ?_ ?zc2 ?zc3 ?zc4); k_extra "MINE a7"; k_extra "MINE ca"; k_extra "MINE cs"; k_extra "MINE ce"; k_whole; intro g' L' h' tk' cells' F' N' Y' B' X' T' l1 hrest' st'; k_cells Y'; (try simp only [List.cons_append, List.nil_append] at N'); (try dsimp only); (try k_lift B'); (try k_fold)))
  (k_with "M units_room" => (have hcL9 := cLine_is; (try simp only [units_in1, units_deeper, Around.mark_units, units_caller]); (try dsimp only [ktrTop]); omega))
  (k_with "MINE room" => first | decide | ((try simp only [depth_in1, depth_deeper, units_in1, units_deeper, Around.mark_units]); (try dsimp only [ktrTop]); omega))
  (k_with "M binaryOp FloorDiv int int" => (k_here; (with_reducible refine floordiv_int ?zne ?_ (Or.inl (noPy ?zh1 ?zh2))); (case zne => omega); (case zh1 => omega); (case zh2 => omega)))
  (k_with "M callWith ref nil nil" => (k_here; k_dflt (refine' callWith_K ?zk1 ?zk2 ?_; (case zk1 => k_asm); (case zk2 => k_is); k_whole)))
  (k_with "M call ref" => k_dflt (k_here; refine wpAny_call ?_; first | ((refine' code_def ?zk1 ?zk2 ?zk3 ?zk4 ?zk5 ?zkA ?zkF ?zkK ?zk6 ?zk7 ?zk8 ?zk9 ?zkB ?_ ?zc2 ?zc3 ?zc4 ?zc5); k_extra "MINE ca"; k_extra "MINE k5"; k_extra "MINE cs"; k_extra "MINE pl"; k_extra "MINE ent") | ((refine' code_defC ?zk1 ?zk2 ?zk3 ?zk4 ?zk5 ?zkA ?zkF ?zkK ?zk6 ?zk7 ?zk8 ?zk9 ?zkB ?zkD ?_ ?zc2 ?zc3 ?zc4); k_extra "MINE ca"; k_extra "MINE k5"; k_extra "MINE cs"; k_extra "MINE ce"; k_whole; intro g' L' h' tk' cells' FG' F' N' Y' B' X' T' l1; (try (have hlN := Fr.lst FG' (by assumption))); k_cells Y'; (try simp only [List.cons_append, List.nil_append] at N'); (try dsimp only); (try k_lift B'); (try k_fold))))
  (k_with "M call ref" => k_dflt (k_here; kn_here; refine wpAny_call ?_; (refine' kla_code ?zk1 ?zk2 ?zk3 ?zk4 ?zk5 ?zkA ?zkF ?zkK ?zk6 ?zk7 ?zk8 ?zk9 ?zkB ?_ ?zc2 ?zc3 ?zc4 ?zc5); k_extra "MINE ca"; k_extra "MINE k5"; (case zk6 => k_mem); (case zk7 => exact codeRec_news (by k_asm) (by k_mem) (by assumption) (by assumption)); (case zk8 => ktr_room); (case zk9 => exact rfl); k_extra "MINE c3"; k_extra "MINE pl"; k_extra "MINE ent"))
  (k_with "MINE std" => ((case zB => k_asm); (case zF => k_asm); (case zX => k_asm); (case zN => k_asm); (case zT => k_asm); (case zk => first | exact rfl | assumption); (case zd => k_extra "MINE room"); (case zu => k_extra "MINE room")))
  (k_with "MINE b4" => ((case zb0 => k_extra "MINE bd"); (case zb1 => k_extra "MINE bd"); (case zb2 => k_extra "MINE bd"); (case zb3 => k_extra "MINE bd")))
  (k_with "MINE b6" => (k_extra "MINE b4"; (case zb4 => k_extra "MINE bd"); (case zb5 => k_extra "MINE bd")))
  (k_with "MINE bd" => assumption)
  (k_with "MINE nz" => ((case zhb => k_extra "MINE n0"); (case zh1 => k_extra "MINE n0"); (case zh2 => k_extra "MINE n0")))
  (k_with "MINE n0" => first | decide | assumption | omega)
  (k_with "MINE rv" => first | ((refine' RdV.fr ?zvF ?zvl ?zvv ?zvk ?zvx ?zvd); (case zvx => exact rfl); (case zvF => k_asm); (case zvl => exact rfl); (case zvv => exact rfl); (case zvk => first | exact rfl | assumption); (case zvd => decide)) | ((refine' RdV.glob ?zvF ?zvX ?zvT ?zve ?zvg ?zvk ?zvx ?zvd); (case zvx => exact rfl); (case zvF => k_asm); (case zvX => k_asm); (case zvT => k_asm); (case zve => k_is); (case zvg => exact rfl); (case zvk => first | exact rfl | assumption); (case zvd => decide)) | ((refine' RdV.cell ?zvN ?zvc ?zvm ?zvo ?zvk ?zvx ?zvd); (case zvx => exact rfl); (case zvN => k_asm); (case zvc => exact rfl); (case zvm => k_mem); (case zvo => k_asm); (case zvk => first | exact rfl | assumption); (case zvd => decide)) | ((refine' RdV.free ?zvN ?zvc ?zvm ?zvo ?zvk ?zvx ?zvd ?zvh); (case zvx => exact rfl); (case zvN => k_asm); (case zvc => exact rfl); (case zvm => k_mem); (case zvo => k_asm); (case zvk => first | exact rfl | assumption); (case zvd => decide); (case zvh => decide)) | ((refine' RdV.own ?zvN ?zvm ?zvC ?zvv ?zvk ?zvx ?zvd); (case zvx => exact rfl); (case zvN => k_asm); (case zvm => k_mem); (case zvC => assumption); (case zvv => first | assumption | exact rfl); (case zvk => first | exact rfl | assumption); (case zvd => decide)))
  (k_with "MINE rds" => first | ((fail_if_success (with_reducible show Rd _ _ _)); (fail_if_success (with_reducible show IntMulOk _ _)); (fail_if_success (with_reducible show _ ≠ _))) | k_extra "MINE rd" | ((with_reducible show IntMulOk _ _); mul_fits) | ((with_reducible show _ ≠ _); first | decide | omega))
  (k_with "MINE rd" => first | exact Rd.const | ((refine' Rd.mul ?_ ?_ ?_) <;> k_extra "MINE rds") | ((refine' Rd.add ?_ ?_) <;> k_extra "MINE rds") | ((refine' Rd.sub ?_ ?_) <;> k_extra "MINE rds") | ((refine' Rd.neg ?_) <;> k_extra "MINE rds") | ((refine' Rd.mod ?_ ?_ ?_) <;> k_extra "MINE rds") | ((refine' Rd.item ?zrn ?zrl ?zrk ?zri); (case zrn => k_extra "MINE rv"); (case zrl => is_list); (case zrk => decide); (case zri => exact rfl)) | ((refine' Rd.atN ?zrn ?zrl ?zr2 ?zrk ?zri); (case zrn => k_extra "MINE rv"); (case zr2 => k_extra "MINE rd"); (case zrl => is_list); (case zrk => decide); (case zri => exact rfl)) | ((refine' Rd.atB ?zsn ?zsl ?zs2 ?zsk ?zsi); (case zsn => k_extra "MINE rv"); (case zs2 => k_extra "MINE rd"); (case zsl => is_list); (case zsk => decide); (case zsi => exact rfl)) | ((refine' Rd.of ?zrv); (case zrv => k_extra "MINE rv")))
  (k_with "M eval BinOp" => (k_here; (with_reducible show wpAny _ _ (eval (Expr.BinOp _ _ _ _) _) _ _ _); k_dflt ((refine' Rd.use ?zrR ?_); (case zrR => k_extra "MINE rd"); k_whole; intro t9 k9; k_extra "MINE fold")))
  (k_with "M eval Subscript" => (k_here; (with_reducible show wpAny _ _ (eval (Expr.Subscript (Expr.Name _ _) _ _) _) _ _ _); k_dflt ((refine' Rd.use ?zrR ?_); (case zrR => k_extra "MINE rd"); k_whole; intro t9 k9; k_extra "MINE fold")))
  (k_with "M eval Call" => (k_here; (with_reducible show wpAny _ _ (eval (Expr.Call (Expr.Name _ _) [_] [] _) _) _ _ _); k_dflt (first | ((refine' call_v ?zcf ?zca0 ?zcF ?zcX ?zcK ?_); (case zcf => k_extra "MINE rv"); (case zca0 => k_extra "MINE rv"); (case zcF => k_asm); (case zcX => k_asm); (case zcK => k_is); k_whole; intro k9; k_extra "MINE fold") | ((refine' call_i ?zcf ?zca0 ?zcF ?zcX ?zcK ?_); (case zcf => k_extra "MINE rv"); (case zca0 => k_extra "MINE rd"); (case zcF => k_asm); (case zcX => k_asm); (case zcK => k_is); k_whole; intro t9 k9; k_extra "MINE fold"))))
  (k_with "M eval Call" => (k_here; (with_reducible show wpAny _ _ (eval (Expr.Call (Expr.Name _ _) [_, _] [] _) _) _ _ _); k_dflt (first | ((refine' call_vv ?zcf ?zca0 ?zca1 ?zcF ?zcX ?zcK ?_); (case zcf => k_extra "MINE rv"); (case zca0 => k_extra "MINE rv"); (case zca1 => k_extra "MINE rv"); (case zcF => k_asm); (case zcX => k_asm); (case zcK => k_is); k_whole; intro k9; k_extra "MINE fold") | ((refine' call_vi ?zcf ?zca0 ?zca1 ?zcF ?zcX ?zcK ?_); (case zcf => k_extra "MINE rv"); (case zca0 => k_extra "MINE rv"); (case zca1 => k_extra "MINE rd"); (case zcF => k_asm); (case zcX => k_asm); (case zcK => k_is); k_whole; intro t9 k9; k_extra "MINE fold") | ((refine' call_ii ?zcf ?zca0 ?zca1 ?zcF ?zcX ?zcK ?_); (case zcf => k_extra "MINE rv"); (case zca0 => k_extra "MINE rd"); (case zca1 => k_extra "MINE rd"); (case zcF => k_asm); (case zcX => k_asm); (case zcK => k_is); k_whole; intro t9 u9 k9; k_extra "MINE fold"))))
  (k_with "M eval Call" => (k_here; (with_reducible show wpAny _ _ (eval (Expr.Call (Expr.Name _ _) [_, _, _] [] _) _) _ _ _); k_dflt (first | ((refine' call_vii ?zcf ?zca0 ?zca1 ?zca2 ?zcF ?zcX ?zcK ?_); (case zcf => k_extra "MINE rv"); (case zca0 => k_extra "MINE rv"); (case zca1 => k_extra "MINE rd"); (case zca2 => k_extra "MINE rd"); (case zcF => k_asm); (case zcX => k_asm); (case zcK => k_is); k_whole; intro t9 u9 k9; k_extra "MINE fold"))))
  trivial
variable {w : World} {p : Program} {loose : List Str} {mean : ExcName → Option Value} {mg mb : Str → Option Value}
section
theorem init_gives {e t : Addr} {v : Value} {rest : List (Addr × Obj)} :
    Gives w p loose mean mg mb 29 1 [.ref e, v] [(e, newPs t)] rest (fun r sel' => r = .none ∧ ∃ D od, sel' = [(e, psAt t D), (D, od)] ∧ @Ne Nat D e ∧ lookIn (Str.ofString "told") od = some (some v)) := by
  unfold Gives
  k_fill
  intro dp un gd cn cs a ccd cl outer A₀ base h₀ L m s Q E B F X N hdis T hk hd hu hret
  have hrl9 : 500 < recursionLimit := by decide
  refine wpAny_call ?_
  refine' enterR (by assumption) (by assumption) (by assumption) (by assumption) (by assumption) (by assumption) ?kA ?kF ?kK ?k6 ?k7 ?k8 ?k9 ?kB (by assumption) ?_ ?c2 ?c3 ?c4 ?c5
  case kA => exact rfl
  case kF => exact rfl
  case kK => assumption
  case k6 => k_is
  case k7 => k_is
  case k8 => ktr_room
  case k9 => exact kp_binds (X.keeps F.keep) (fun _ => rfl)
  case c5 => decide
  case kB => exact locs rfl
  case c2 => exact rfl
  case c3 => exact rfl
  case c4 => exact rfl
  k_whole
  intro g' L' h' F' N' B' X' T' l1 hrest' st'
  (try k_lt l1); (try dsimp only); (try k_lift B'); (try k_fold)
  k_steps
  have he0 := N' _ (.head _)
  refine ps_set (Frag.In.keeps X' (Fr.keep F')) he0.1 fun h2 tk2 od he hD hl _ hk2 => ?_
  have hDe : @Ne Nat h'.objs.size e := Nat.ne_of_gt (Heap.lt_size he0.1)
  have F2 : Fr g' L' h2 _ := ⟨(let ⟨o, es, ep, ho, r⟩ := F'.ns; ⟨o, es, ep, hk2 _ _ (fun q => he0.2.1 q.symm) ho, r⟩), fun b o hb => hk2 b o (fun q => by rw [q, he0.2.2] at hb; cases hb) (F'.keep b o hb), F'.above⟩
  have N2 : News g' L' h2 [(e, psAt t h'.objs.size), (h'.objs.size, od)] := fun q hq => by
    rcases List.mem_cons.mp hq with rfl | hq
    · exact ⟨he, he0.2⟩
    · rw [List.mem_singleton.mp hq]
      exact ⟨hD, Nat.ne_of_gt F'.ns.lt, none_at_size (s := { s with heap := h' }) F'⟩
  dsimp only
  rw [execs_nil]
  refine wpAny_pure ?_
  exact bodyEnd_of rfl F2 N2 ⟨rfl, _, od, rfl, hDe, hl⟩
end
end
section
variable {w : World} {p : Program} {loose : List Str} {mean : ExcName → Option Value} {mg mb : Str → Option Value}
section
/-- the raised value: the exception with its dict, and what is wanted behind -/
def PsRaised (w : World) (E : Value → Shared → Prop) (v : Value) (s : Shared) : Prop := ∃ x t D, v = .ref x ∧ (KK w).In s.heap ∧ s.heap.get? x = some (psAt t D) ∧ E (.ref x) s
theorem Raise_ps {prog : Program} {A : Around} {env : Env} {E : Value → Shared → Prop} {s : Shared} {ex : Expr} {pos : Pos} {Q : Flow → Shared → Prop} (hh : A.handled = none)
    (h : wpAny (model prog w) A (eval ex env) (PsRaised w E) E s) : wpAny (model prog w) A (exec (.Raise (some ex) none pos) env) Q E s := by
  show wpAny _ A (do standAt pos; raiseStmt env (some (do let v ← eval ex env; standAt pos; pure v)) none) Q E s
  refine wpAny_bind (wpAny_standAt ?_)
  unfold raiseStmt
  dsimp only
  refine wpAny_bind (wpAny_bind (wpAny_mono h (fun v s₁ h₁ => wpAny_bind (wpAny_standAt (wpAny_pure ?_))) fun _ _ x => x))
  obtain ⟨x, t, D, rfl, X, he, hE⟩ := h₁
  have hC := psC X
  have hcB : (Value.ref 45 :: psTail).contains (.type "BaseException") = true := by decide +kernel
  obtain ⟨hp, g, d, tk, os⟩ := s₁
  dsimp only at he hC
  repeat (first | with_reducible refine wpAny_loadPart_at he ?_ | with_reducible refine wpAny_loadPart_at hC ?_ | (with_reducible refine wpAny_isSubtype_exc hC ?_; rw [hcB]) | wp_step)
  exact wpAny_raiseNew_none hh hE

/-- PsError(v), onto the ledger -/
theorem use_ps {v : Value} {dp un : Nat} {gd : Option (List Code)} {cn : Str} {cs : Scope} {a : Addr} {ccd : Value} {cl : List (Str × Addr)} {outer : List Env} {A₀ : Around} {base h₀ : Heap} {L : Addr} {m : Str → Option Value} {s : Shared} {Q E : Value → Shared → Prop} {news : List (Addr × Obj)}
    (B : Below A₀ base outer h₀) (F : Fr h₀ L s.heap m) (X : (hd.heap_39 w.params).In h₀) (N : News h₀ L s.heap news) (T : Top p loose mean mg mb h₀) (hk : cs.kind = .function) (hd : dp + 2 ≤ 400) (hu : un + 16 ≤ 1000)
    (ret : ∀ e t D od h' tk', Fr h₀ L h' m → News h₀ L h' ((e, psAt t D) :: (t, ({ cls := .type "tuple", data := .seq #[v] } : Obj)) :: (D, od) :: news) → lookIn (Str.ofString "told") od = some (some v) →
      (∀ p ∈ ((D, od) :: news), p.1 ≠ e ∧ p.1 ≠ t) → @Ne Nat e t → Q (.ref e) { s with heap := h', toks := tk' }) :
    wpAny (model PySem.Challenge.rw_nt0486_01.row.prog w) (ktrTop dp un gd cn cs L a ccd cl outer) (call (.ref 45) [v]) Q E s := by
  obtain ⟨hh, g, d, tk, os⟩ := s
  refine ps_call (Frag.In.keeps X F.keep) (by rw [sizeLine_eq]; simp) ?_
  show wpAny _ (ktrTop (dp + 1) (un + 1) gd cn cs L a ccd cl outer) _ _ _ _
  have N1 := (N.push F { cls := .type "tuple", data := .seq #[v] }).push (F.push _) (newPs hh.objs.size)
  rw [Heap.size_push] at N1
  have Nlt : ∀ p ∈ news, p.1 < hh.objs.size := fun p hp => Heap.lt_size (N p hp).1
  refine init_gives (t := hh.objs.size) (rest := (hh.objs.size, { cls := .type "tuple", data := .seq #[v] }) :: news) (dp + 1) (un + 1) gd cn cs a ccd cl outer A₀ base h₀ L m _ _ _ B ((F.push _).push _) X N1 ?_ T hk (by omega) (by omega) ?_
  · intro q hq r hr
    rw [List.mem_singleton.mp hr]
    rcases List.mem_cons.mp hq with rfl | hq
    · exact Nat.ne_of_lt (Nat.lt_succ_self _)
    · exact Nat.ne_of_lt (Nat.lt_succ_of_lt (Nlt q hq))
  · rintro r sel' h' tk' F' N' hdis ⟨rfl, D, od, rfl, hDe, hl⟩
    refine ⟨rfl, ret _ hh.objs.size D od h' tk' F' (fun q hq => N' q ?_) hl (fun q hq => ?_) (Nat.ne_of_gt (Nat.lt_succ_self _))⟩
    · rcases List.mem_cons.mp hq with rfl | hq
      · exact .head _
      rcases List.mem_cons.mp hq with rfl | hq
      · exact .tail _ (.tail _ (.head _))
      rcases List.mem_cons.mp hq with rfl | hq
      · exact .tail _ (.head _)
      · exact .tail _ (.tail _ (.tail _ hq))
    · rcases List.mem_cons.mp hq with rfl | hq
      · exact ⟨hDe, fun z => hdis _ (.head _) _ (.tail _ (.head _)) z.symm⟩
      · exact ⟨Nat.ne_of_lt (Nat.lt_succ_of_lt (Nlt q hq)), Nat.ne_of_lt (Nlt q hq)⟩

end
end
section
variable {w : World} {p : Program} {loose : List Str} {mean : ExcName → Option Value} {mg mb : Str → Option Value}
section
/-- RaisedS, and the exception's dict -/
def RaisedD (base G : Heap) (l : List Env) (e t D : Addr) (v : Value) (news : List (Addr × Obj)) (h : Heap) : Prop :=
  RaisedS base G l e (.ref 45) t [v] news h ∧ ∃ oe, h.get? e = some oe ∧ oe.dict = some D
theorem mem_frames {env : Env} {L b : Addr} {outer : List Env} (hf : env.frame = some L) (hm : b ∈ (env :: outer).filterMap (·.frame)) : b = L ∨ b ∈ outer.filterMap (·.frame) := by
  obtain ⟨env', he, hf'⟩ := List.mem_filterMap.mp hm
  rcases List.mem_cons.mp he with rfl | he
  · exact .inl (Option.some.inj (hf'.symm.trans hf))
  · exact .inr (List.mem_filterMap.mpr ⟨env', he, hf'⟩)
section
variable {M : Model} {A : Around} {E : Value → Shared → Prop} {s' : Shared} {base g g₂ : Heap} {outer : List Env} {L a e t D : Addr} {m : Str → Option Value} {name : Str} {scope : Scope} {cd v : Value} {Q : Unit → Shared → Prop} {news : List (Addr × Obj)}
theorem leave_onD {env : Env} (K : Below A base outer g) (F : Fr g L g₂ m) (R : RaisedD base g₂ (env :: outer) e t D v news s'.heap) (hsm : g₂.UpToSlots s'.heap) (hf : env.frame = some L)
    (hQ : ∀ h', RaisedD base g outer e t D v news h' → g.UpToSlots h' → Q () { s' with heap := h' }) :
    wpAny M (A.deeper env) (leaving env (.ref e)) Q E s' := by
  obtain ⟨⟨⟨B, hB, hBG, hl, hfl, hnew⟩, htup⟩, oe, he, hd⟩ := R
  have h : wpAny M (A.deeper env) (leaving env (.ref e)) (fun _ s'' => ∃ h', s'' = { s' with heap := h' } ∧ RaisedS base g outer e (.ref 45) t [v] news h' ∧ g.UpToSlots h') (fun _ _ => False) s' :=
    wpAny_leaves_onW (Around.frames_deeper K.stack) hf hfl fun h' x1 x2 => ⟨h', rfl, ⟨⟨B, hB, fun b o q nm => hBG b o (F.keep b o q) (fun hm => by
      rcases mem_frames hf hm with z | z
      · rw [z, kts_self F] at q
        cases q
      · exact nm z), fun q hq => ⟨(hl q hq).1, kts_none F.keep (hl q hq).2.1, (hl q hq).2.2⟩, x1, hnew⟩, htup.of_slots x2⟩, (Heap.UpToSlots.of_keeps F.keep).trans (hsm.trans x2)⟩
  refine wpAny_mono (wpAny_tame (tame_leaving _ _) h) (fun _ s'' hs => ?_) (fun _ _ x => x.1.elim)
  obtain ⟨⟨h', e1, R', U'⟩, kd⟩ := hs
  subst e1
  obtain ⟨oe', he', hd'⟩ := kd e oe he
  exact hQ h' ⟨R', oe', he', hd'.trans hd⟩ U'

theorem leave_raiseD {ot : Obj} {k : Nat} (K : Below A base outer g) (F : Fr g L s'.heap m) (N : News g L s'.heap ((e, psAt t D) :: (t, ot) :: news)) (hot : ot = { cls := .type "tuple", data := .seq #[v] k })
    (hne : ∀ p ∈ news, p.1 ≠ e ∧ p.1 ≠ t) (hQ : ∀ h', RaisedD base g outer e t D v news h' → g.UpToSlots h' → Q () { s' with heap := h' }) (hk : scope.kind = .function := by rfl) :
    wpAny M (A.deeper (envOf name scope L a cd)) (leaving (envOf name scope L a cd) (.ref e)) Q E s' := by
  subst hot
  have K' := K.push (name := name) (a := a) (cd := cd) F hk
  have hin : ∀ env ∈ (envOf name scope L a cd :: outer), ∀ b, env.frame = some b → b ∈ (e :: t :: (envOf name scope L a cd :: outer).filterMap (·.frame)) := fun env he b hb => .tail _ (.tail _ (List.mem_filterMap.mpr ⟨env, he, hb⟩))
  have ne0 := N _ (.head _)
  have nt0 := N _ (.tail _ (.head _))
  have off : ∀ b o, g.get? b = some o → b ≠ e ∧ b ≠ t := fun b o hb => ⟨fun q => by (rw [q, ne0.2.2] at hb; cases hb), fun q => by (rw [q, nt0.2.2] at hb; cases hb)⟩
  have st : base.StaysIn (hideAll s'.heap (e :: t :: (envOf name scope L a cd :: outer).filterMap (·.frame))) := fun b o q => hideAll_get _ (K'.stays b o q) fun hm => by
    rcases List.mem_cons.mp hm with z | hm
    · exact (off b o (K.stays b o q)).1 z
    rcases List.mem_cons.mp hm with z | hm
    · exact (off b o (K.stays b o q)).2 z
    · rw [(K'.frames.mem hm).1] at q; cases q
  have sg : ∀ b o, g.get? b = some o → b ∉ outer.filterMap (·.frame) → (hideAll s'.heap (e :: t :: (envOf name scope L a cd :: outer).filterMap (·.frame))).get? b = some o := fun b o q nm => hideAll_get _ (F.keep b o q) fun hm => by
    rcases List.mem_cons.mp hm with z | hm
    · exact (off b o q).1 z
    rcases List.mem_cons.mp hm with z | hm
    · exact (off b o q).2 z
    rcases kts_mem hm with z | z
    · rw [z, kts_self F] at q
      cases q
    · exact nm z
  have hl : ∀ q ∈ news, (hideAll s'.heap (e :: t :: (envOf name scope L a cd :: outer).filterMap (·.frame))).get? q.1 = some q.2 ∧ g.get? q.1 = none ∧ base.get? q.1 = none := fun q hq => by
    have nq := N q (.tail _ (.tail _ hq))
    refine ⟨hideAll_get _ nq.1 fun hm => ?_, nq.2.2, fresh_of_stays K.stays nq.2.2⟩
    rcases List.mem_cons.mp hm with z | hm
    · exact (hne q hq).1 z
    rcases List.mem_cons.mp hm with z | hm
    · exact (hne q hq).2 z
    obtain ⟨env, he, hf⟩ := List.mem_filterMap.mp hm
    rcases List.mem_cons.mp he with rfl | he
    · exact nq.2.1 (Option.some.inj hf).symm
    · obtain ⟨o, ho, _⟩ := (K.frames.mem (List.mem_filterMap.mpr ⟨env, he, hf⟩)).2
      rw [nq.2.2] at ho; cases ho
  have h : wpAny M (A.deeper (envOf name scope L a cd)) (leaving (envOf name scope L a cd) (.ref e)) (fun _ s'' => ∃ h', s'' = { s' with heap := h' } ∧ RaisedS base g outer e (.ref 45) t [v] news h' ∧ g.UpToSlots h') (fun _ _ => False) s' := by
    refine wpAny_leaving_firstW (base := hideAll s'.heap (e :: t :: (envOf name scope L a cd :: outer).filterMap (·.frame))) (a0 := .ref t) K'.stack (funFrames_hide K'.frames hin) rfl ne0.1 (fun b o q => of_hideAll _ q) (hideAll_none _ (.head _)) rfl rfl rfl fun h' hL => ?_
    obtain ⟨k1, ⟨_, _, k2⟩, k3, k4⟩ := hL
    exact ⟨h', rfl, ⟨⟨_, st, sg, hl, ⟨k1, hideAll_none _ (.head _), k2, k3⟩, hideAll_none _ (.tail _ (.head _))⟩, Heap.TupAt.of_slots ⟨_, _, nt0.1, rfl, rfl⟩ k4⟩, (Heap.UpToSlots.of_keeps F.keep).trans k4⟩
  refine wpAny_mono (wpAny_tame (tame_leaving _ _) h) (fun _ s'' hs => ?_) (fun _ _ x => x.1.elim)
  obtain ⟨⟨h', e1, R', U'⟩, kd⟩ := hs
  subst e1
  obtain ⟨oe', he', hd'⟩ := kd e _ ne0.1
  exact hQ h' ⟨R', oe', he', hd'⟩ U'
end
section
variable {prog : Program} {A₀ : Around} {E : Value → Shared → Prop} {s' : Shared} {base g G : Heap} {outer : List Env} {L a e t D : Addr} {m : Str → Option Value} {name : Str} {scope : Scope} {cd v : Value}
  {n : Str} {b₀ : Stmt} {suite : List Stmt} {pos np : Pos} {rest : List ExceptHandler} {Q : Flow → Shared → Prop} {news : List (Addr × Obj)} {od : Obj}
/-- except PsError as n: -/
theorem caught_D (R : RaisedD base G (envOf name scope L a cd :: outer) e t D v ((D, od) :: news) s'.heap) (F : Fr g L G m) (K : Below A₀ base outer g) (hsm : G.UpToSlots s'.heap) (XB : (hd.heap_39 w.params).In base) (TB : Top p loose mean mg mb base)
    (k : ∀ h' g' oe tk, KtsTurn (outer.filterMap (·.frame)) g g' → Fr g' L h' (fun y => if y = n then some (.ref e) else m y) → News g' L h' ((e, oe) :: (D, od) :: news) → oe.cls = .ref 45 → oe.dict = some D → notCls oe = true →
      Below A₀ base outer g' → (hd.heap_39 w.params).In g' → Top p loose mean mg mb g' →
      wpAny (model prog w) ((A₀.deeper (envOf name scope L a cd)).mark (some (.ref e))) (execs (b₀ :: suite) (envOf name scope L a cd))
        (fun f s₄ => wpAny (model prog w) (A₀.deeper (envOf name scope L a cd)) (do bindName (envOf name scope L a cd) n .none; unbindBehindTheSuite (envOf name scope L a cd) n pos) (fun _ s₅ => Q f s₅) E s₄)
        (AsSuiteRaised (model prog w) ((A₀.deeper (envOf name scope L a cd)).mark (some (.ref e))) (envOf name scope L a cd) n pos (notedBy (model prog w) ((A₀.deeper (envOf name scope L a cd)).mark (some (.ref e))) (envOf name scope L a cd) (cameBackBy (model prog w) (A₀.deeper (envOf name scope L a cd)) (envOf name scope L a cd) E)))
        { s' with heap := h', toks := tk })
    (hk : scope.kind = .function := by rfl) (hlo : (envOf name scope L a cd).kindOf n = some .local := by rfl) (hx : (envOf name scope L a cd).kindOf (Str.ofString "PsError") = some .globalImplicit := by rfl) :
    wpAny (model prog w) (A₀.deeper (envOf name scope L a cd)) (noteFrame (.ref e) (envOf name scope L a cd))
      (fun _ s₂ => wpAny (model prog w) (A₀.deeper (envOf name scope L a cd)) (setFlight (.ref e) none) (fun _ s₃ =>
        wpAny (model prog w) (A₀.deeper (envOf name scope L a cd)) (handleBy (.ref e) (envOf name scope L a cd) (.ExceptHandler (some (.Name (Str.ofString "PsError") np)) (some n) (b₀ :: suite) pos :: rest)) Q E s₃) E s₂) E s' := by
  obtain ⟨⟨⟨B, hB, hBG, hl, hfl, hnew⟩, htup⟩, oe0, he0, hd0⟩ := R
  have hL : B.get? L = none := by
    obtain ⟨_, ⟨L', _, hf, hn', _⟩, _⟩ := hfl.2.2.1
    obtain rfl : L = L' := Option.some.inj hf
    exact hn'
  have st1 : wpAny (model prog w) (A₀.deeper (envOf name scope L a cd)) (noteFrame (.ref e) (envOf name scope L a cd)) (fun _ s'' => ∃ h', s'' = { s' with heap := h' } ∧ Heap.HeldW B (envOf name scope L a cd :: outer) e (.ref 45) (.ref t) L h' ∧ s'.heap.UpToSlots h') (fun _ _ => False) s' :=
    wpAny_looks_onW (Around.frames_deeper K.stack) rfl hfl fun h' x1 x2 => ⟨h', rfl, x1, x2⟩
  refine wpAny_mono (wpAny_tame (tame_note _ _) st1) (fun _ s₂ hs => ?_) (fun _ _ x => x.1.elim)
  obtain ⟨⟨h₄, e1, hheld₄, hsm₄⟩, kd₁⟩ := hs
  subst e1
  obtain ⟨oe1, he1, hd1⟩ := kd₁ e oe0 he0
  have st2 : wpAny (model prog w) (A₀.deeper (envOf name scope L a cd)) (setFlight (.ref e) none) (fun _ s'' => ∃ h', s'' = { s' with heap := h' } ∧ Heap.FlyingW B (envOf name scope L a cd :: outer) e (.ref 45) (.ref t) h' ∧ h₄.UpToSlots h') (fun _ _ => False) { s' with heap := h₄ } :=
    wpAny_landsW hheld₄ fun h' x1 x2 => ⟨h', rfl, x1, x2⟩
  refine wpAny_mono (wpAny_tame (tame_setFlight _ _) st2) (fun _ s₃ hs => ?_) (fun _ _ x => x.1.elim)
  obtain ⟨⟨h₅, e1, hheld, hsm₅'⟩, kd₂⟩ := hs
  subst e1
  obtain ⟨oe2, he2, hd2⟩ := kd₂ e oe1 he1
  have hsm₅ := hsm₄.trans hsm₅'
  obtain ⟨g₅, T₅, F₅, K₅⟩ := kts_ground K F hBG hheld.1 (hsm.trans hsm₅)
  have X₅ : (KK w).In g₅ := Frag.In.keeps XB K₅.stays
  have P₅ : TopRead p loose mg mb g₅ := topRead_of (TB.keeps K₅.stays)
  obtain ⟨ob, hob, hobc⟩ := hheld.there
  refine wpAny_handleBy_cons (codeAny_handlers_test (name_K F₅ X₅ P₅ (by kernel_rfl : nsIn (KK w) mainGlobals (Str.ofString "PsError") = some (some (.ref 45))) ?_ hk hx (by decide))) (by intro q; cases q)
  have hC := psC (Frag.In.keeps X₅ F₅.keep)
  refine wpAny_excMatches_sub_self hC hob hobc (by decide +kernel) (codeAny_handlers_suite_as ?_)
  have st3 : wpAny (model prog w) ((A₀.deeper (envOf name scope L a cd)).mark (some (.ref e))) (setFlight (.ref e) none) (fun _ s'' => ∃ h', s'' = { s' with heap := h' } ∧ Heap.FlyingW B (envOf name scope L a cd :: outer) e (.ref 45) (.ref t) h' ∧ h₅.UpToSlots h') (fun _ _ => False) { s' with heap := h₅ } :=
    lands_againW hheld fun h' x1 x2 => ⟨h', rfl, x1, x2⟩
  refine wpAny_mono (wpAny_tame (tame_setFlight _ _) st3) (fun _ s₃ hs => ?_) (fun _ _ x => x.1.elim)
  obtain ⟨⟨h₆, e1, hfl₆, hsm₆⟩, kd₃⟩ := hs
  subst e1
  obtain ⟨oe3, he3, hd3⟩ := kd₃ e oe2 he2
  obtain ⟨g₆, T₆, F₆, K₆⟩ := kts_ground K F hBG hfl₆.1 ((hsm.trans hsm₅).trans hsm₆)
  obtain ⟨oe, ws, hoe, hoec, hoed, hoe0⟩ := hfl₆.first
  obtain rfl : oe3 = oe := Option.some.inj (he3.symm.trans hoe)
  have ne₆ : g₆.get? e = none := T₆.none_ _ (kts_fresh F hBG hfl₆.2.1 fun o ho hm => by
    obtain ⟨_, o', ho', hd⟩ := K.frames.mem hm
    rw [ho] at ho'
    cases ho'
    obtain ⟨sl, hs⟩ := ((hsm.trans hsm₅).trans hsm₆) _ _ (F.keep _ _ ho) hd
    rw [hoe] at hs
    cases hs
    exact hd _ hoed)
  have N₆ := News.more F₆ News.nil hoe (fun es n q => by rw [hoed] at q; cases q) ne₆
  have Nl : News g₆ L h₆ ((D, od) :: news) := fun q hq => ⟨hfl₆.1 _ _ (hl q hq).1, (fun z => by have := (hl q hq).1; rw [z, hL] at this; cases this), T₆.none_ _ (kts_none F.keep (hl q hq).2.1)⟩
  refine stN F₆ (news := [(e, oe3)] ++ ((D, od) :: news)) (fun q hq => (List.mem_append.mp hq).elim (N₆ q) (Nl q)) (fun h₇ F₇ N₇ => ?_) hk hlo
  exact k h₇ g₆ oe3 _ T₆ F₇ N₇ hoec (hd3.trans (hd2.trans (hd1.trans hd0))) (by unfold notCls; rw [hoed]) K₆ (Frag.In.keeps XB K₆.stays) (TB.keeps K₆.stays)
end

/-- the law's frame object, up to its slots -/
def TurnOf (g : Heap) (Ll : Addr) (oL : Obj) : Prop := ∃ o sl, g.get? Ll = some o ∧ (∃ es n, o.data = .dict es n) ∧ oL = { o with slots := sl }
theorem TurnOf.again {g : Heap} {Ll : Addr} {oL : Obj} (x : TurnOf g Ll oL) (sl : Array (Option Value)) : TurnOf g Ll { oL with slots := sl } := by
  obtain ⟨o, sl', h1, h2, rfl⟩ := x
  exact ⟨o, sl, h1, h2, rfl⟩
/-- what a callee leaves that may turn the frames' slots -/
def LeaveT (fs : List Addr) (gt : Heap) (s : Shared) (rest : List (Addr × Obj)) (Post : Value → Prop) (v : Value) (s' : Shared) : Prop :=
  ∃ g' L' m' news' h' tk', s' = { s with heap := h', toks := tk' } ∧ KtsTurn fs gt g' ∧ Fr g' L' h' m' ∧ News g' L' h' news' ∧ (∀ p ∈ rest, p ∈ news') ∧ Post v
theorem hide_of {g : Heap} {Ll b : Addr} {o : Obj} (e : g.get? b = some o) (h : b ≠ Ll) : (hideAll g [Ll]).get? b = some o := hideAll_get _ e (by simpa using h)
theorem hide_self {g : Heap} {Ll : Addr} : (hideAll g [Ll]).get? Ll = none := hideAll_none _ (.head _)
theorem hide_ne {g : Heap} {Ll b : Addr} {o : Obj} (e : (hideAll g [Ll]).get? b = some o) : b ≠ Ll := fun q => by rw [q, hide_self] at e; cases e

/-- from the frame's ground to the one without the law's frame, whose object goes to the ledger -/
theorem switch {A : Around} {base g h : Heap} {envl : Env} {Ll L : Addr} {m : Str → Option Value} {news : List (Addr × Obj)} (B : Below A base [envl] g) (hfl : envl.frame = some Ll) (F : Fr g L h m) (N : News g L h news)
    (XB : (hd.heap_39 w.params).In base) (TB : Top p loose mean mg mb base) (hdict : ∃ o, g.get? Ll = some o ∧ ∃ es n, o.data = .dict es n) :
    ∃ oL, TurnOf g Ll oL ∧ Fr (hideAll g [Ll]) L h m ∧ News (hideAll g [Ll]) L h ((Ll, oL) :: news) ∧ LCg.Off1 Ll news ∧ @Ne Nat Ll L ∧ (hd.heap_39 w.params).In (hideAll g [Ll]) ∧ Top p loose mean mg mb (hideAll g [Ll]) := by
  obtain ⟨o, ho, hd⟩ := hdict
  have hb : base.get? Ll = none := (B.frames.mem (List.mem_filterMap.mpr ⟨envl, .head _, hfl⟩)).1
  have st : ∀ b o, base.get? b = some o → (hideAll g [Ll]).get? b = some o := fun b o e => hide_of (B.stays b o e) fun q => by rw [q, hb] at e; cases e
  have hLL : @Ne Nat Ll L := fun q => by rw [show Ll = L from q, kts_self F] at ho; cases ho
  have off : ∀ l : List (Addr × Obj), (∀ p ∈ l, p ∈ news) → LCg.Off1 Ll l := by
    intro l
    induction l with
    | nil => intro _; trivial
    | cons p r ih =>
      intro hp
      refine ⟨fun q => ?_, ih fun q hq => hp q (.tail _ hq)⟩
      have := (N p (hp p (.head _))).2.2
      rw [show p.1 = Ll from q, ho] at this; cases this
  refine ⟨o, ⟨o, o.slots, ho, hd, rfl⟩, ⟨F.ns, fun b o' e => F.keep b o' (of_hideAll _ e), Nat.le_trans (Nat.le_of_eq (hideAll_size _ _)) F.above⟩, fun q hq => ?_, off news fun _ x => x, hLL, Frag.In.keeps XB st, TB.keeps st⟩
  rcases List.mem_cons.mp hq with rfl | hq
  · exact ⟨F.keep _ _ ho, hLL, hide_self⟩
  · refine ⟨(N q hq).1, (N q hq).2.1, ?_⟩
    cases z : (hideAll g [Ll]).get? q.1 with
    | none => rfl
    | some o' => have := (N q hq).2.2; rw [of_hideAll _ z] at this; cases this
end
end
section
variable {w : World} {p : Program} {loose : List Str} {mean : ExcName → Option Value} {mg mb : Str → Option Value}
section
section
variable {prog : Program} {A₀ A : Around} {s : Shared} {base g : Heap} {L Ll : Addr} {m : Str → Option Value} {env envl : Env} {all rest : List (Addr × Obj)} {oL : Obj}
  {R : Result → Shared → Prop} {name qual : Str} {params : Arguments} {body : List Stmt} {scope : Scope} {dV kV doc pm cdv ct oc : Value} {an od : Option Addr} {osl : Array (Option Value)} {f : Addr} {args : Args} {binds : List (Str × Value)}
  {Post : Value → Prop}
/-- a callee that catches, entered from a frame whose ground leaves the law's frame out -/
theorem enterT (B : Below A₀ base [envl] g) (hfl : envl.frame = some Ll) (F : Fr (hideAll g [Ll]) L s.heap m) (N : News (hideAll g [Ll]) L s.heap all) (P : Pk Ll oL all rest) (TL : TurnOf g Ll oL)
    (XB : (hd.heap_39 w.params).In base) (TB : Top p loose mean mg mb base) (hA : A.frames = some (env :: [envl])) (hf : env.frame = some L) (hke : env.scope.kind = .function)
    (ho : (hd.heap_39 w.params).lookup f = some ⟨oc, od, .func (fnOf name qual params body scope dV kV doc pm an cdv ct), osl⟩) (hcd : codeIn (hd.heap_39 w.params) cdv qual = true) (hroom : A.depth < recursionLimit)
    (hbind : BindsTo s (fnOf name qual params body scope dV kV doc pm an cdv ct) args binds) (hloc : ∀ y ∈ binds, scope.names.lookup y.1 = some .local)
    (h : ∀ gt Lt h₁, Fr (hideAll g [Ll]) L gt m → Fr gt Lt h₁ (fun y => binds.reverse.lookup y) → News gt Lt h₁ rest → Below A base [env, envl] gt → (hd.heap_39 w.params).In gt → Top p loose mean mg mb gt →
      wpAny (model prog w) (A.deeper (envOf qual scope Lt f cdv)) (execs body (envOf qual scope Lt f cdv))
        (fun fl s' => LeaveT ([env, envl].filterMap (·.frame)) gt s rest Post (match fl with | .ret v => v | _ => .none) s') (fun _ _ => False)
        { s with heap := h₁, toks := s.toks + binds.length })
    (hR : ∀ v oL' h' tk', TurnOf g Ll oL' → Fr (hideAll g [Ll]) L h' m → News (hideAll g [Ll]) L h' ((Ll, oL') :: rest) → Post v → R (.ok (.ret v)) { s with heap := h', toks := tk' })
    (hco : scope.isCoroutine = false) (hgen : scope.isGenerator = false) (hk : scope.kind = .function)
    (hcell : ∀ x ∈ scope.names, x.2 ≠ .cell) : codeAny (model prog w) A (.call (.ref f) args) R s := by
  obtain ⟨S1, S2, S3⟩ := P.sub
  obtain ⟨o₀, sl₀, hg₀, ⟨es, ne, hd₀⟩, hoL⟩ := id TL
  have zL := N _ S1
  have nm : ∀ p ∈ rest, p.1 ≠ Ll := S3
  obtain ⟨T₁, K₁⟩ := kts_turn_at (h := s.heap) (fs := [Ll]) (g := g) (fun b hb => by rw [List.mem_singleton.mp hb]; exact ⟨_, hg₀⟩)
    (fun b o e nmem => F.keep b o (hide_of e fun q => nmem (by rw [q]; exact .head _)))
    (fun b o e hm => by
      have q := List.mem_singleton.mp hm
      subst q
      rw [hg₀] at e; cases e
      exact ⟨sl₀, by rw [zL.1, hoL]⟩)
  have gi_none : ∀ p ∈ rest, (ktsHeap s.heap [Ll] g).get? p.1 = none := fun p hp => by
    refine T₁.none_ _ ?_
    cases z : g.get? p.1 with
    | none => rfl
    | some o => have := (N p (S2 p hp)).2.2; rw [hide_of z (nm p hp)] at this; cases this
  have Fi : Fr (ktsHeap s.heap [Ll] g) L s.heap m := ⟨F.ns, K₁, by rw [T₁.size]; exact Nat.le_trans (Nat.le_of_eq (hideAll_size _ _).symm) F.above⟩
  have Ni : News (ktsHeap s.heap [Ll] g) L s.heap rest := fun p hp => ⟨(N p (S2 p hp)).1, (N p (S2 p hp)).2.1, gi_none p hp⟩
  have Bi : Below A₀ base [envl] (ktsHeap s.heap [Ll] g) := ⟨B.stack, fun b o e => T₁.other b o (B.stays b o e) (fun hm => by
      have q := List.mem_singleton.mp hm
      have := (B.frames.mem (List.mem_filterMap.mpr ⟨envl, .head _, hfl⟩)).1
      rw [q, this] at e; cases e), B.frames.of_keeps fun b o e _ => by
      obtain ⟨sl', hs'⟩ := T₁.up e
      exact ⟨_, hs', rfl⟩⟩
  have Xi : (hd.heap_39 w.params).In (ktsHeap s.heap [Ll] g) := Frag.In.keeps XB Bi.stays
  have Ti : Top p loose mean mg mb (ktsHeap s.heap [Ll] g) := TB.keeps Bi.stays
  obtain ⟨FG, BG, st, _⟩ := groundX (R := R) Bi Fi Ni hA hf hke
  refine codeAny_call_def (fd := fnOf name qual params body scope dV kV doc pm an cdv ct) (body := body) (binds := binds) hroom ((Frag.In.keeps Xi Fi.keep) _ _ ho) rfl (Ti.nolimit.keeps Fi.keep)
    (codeRec_of (Frag.In.keeps Xi Fi.keep) hcd) rfl hbind hcell hloc (fun h₁ hns hk₁ => ?_) hco hgen hk
  have keepG : ∀ b o, (hideAll g [Ll]).get? b = some o → (hideAll s.heap (rest.map (·.1))).get? b = some o := fun b o e => hideAll_get _ (F.keep b o e) fun hm => by
    obtain ⟨q, hq, e'⟩ := List.mem_map.mp hm
    have := (N q (S2 q hq)).2.2
    rw [e', e] at this; cases this
  refine wpAny_mono (h _ s.heap.objs.size h₁ ⟨FG.ns, keepG, F.above⟩ ⟨hns, fun b o e => hk₁ b o (of_hideAll _ e), Nat.le_of_eq (hideAll_size _ _)⟩
    (fun p hp => ⟨hk₁ _ _ (Ni p hp).1, Nat.ne_of_lt (Heap.lt_size (Ni p hp).1), hideAll_none _ (List.mem_map_of_mem hp)⟩) BG (Frag.In.keeps Xi st) (Ti.keeps st)) (fun fl s' hl => ?_) fun _ _ y => y.elim
  obtain ⟨g', L'', m', news', h', tk', rfl, T', F', N', hsub, Pv⟩ := hl
  obtain ⟨oP, esP, epP, hP, hPd, hPk, hPf⟩ := FG.ns
  obtain ⟨slP, hP'⟩ := T'.up hP
  have hLlG : (hideAll s.heap (rest.map (·.1))).get? Ll = some oL := hideAll_get _ zL.1 fun hm => by
    obtain ⟨q, hq, e⟩ := List.mem_map.mp hm
    exact nm q hq e
  obtain ⟨slL, hL'⟩ := T'.up hLlG
  have keep : ∀ b o, (hideAll g [Ll]).get? b = some o → h'.get? b = some o := fun b o e => by
    refine F'.keep b o (T'.other b o (keepG b o e) fun hm => ?_)
    rcases mem_frames hf hm with z | z
    · rw [z, kts_self F] at e; cases e
    · rcases mem_frames hfl z with z | z
      · exact hide_ne e z
      · simp at z
  refine hR _ { oL with slots := slL } h' tk' (TL.again slL) ⟨⟨_, esP, epP, F'.keep _ _ hP', hPd, hPk, hPf⟩, keep, F.above⟩ (fun q hq => ?_) Pv
  rcases List.mem_cons.mp hq with rfl | hq
  · exact ⟨F'.keep _ _ hL', zL.2⟩
  · exact ⟨(N' q (hsub q hq)).1, (N q (S2 q hq)).2⟩
end

/-- how points_right's walk ends: as it began, or with the law's frame turned -/
def BodyEnd2 (g : Heap) (Ll L' : Addr) (s : Shared) (Post : Value → List (Addr × Obj) → Prop) (v : Value) (s' : Shared) : Prop :=
  BodyEnd g L' s Post v s' ∨ ∃ m' sel' oL' h' tk', s' = { s with heap := h', toks := tk' } ∧ Fr (hideAll g [Ll]) L' h' m' ∧ News (hideAll g [Ll]) L' h' ((Ll, oL') :: sel') ∧ TurnOf g Ll oL' ∧ (∀ q ∈ sel', q.1 ≠ Ll) ∧ Post v sel'

section
variable {prog : Program} {A₀ A : Around} {s : Shared} {base h₀ : Heap} {L : Addr} {m : Str → Option Value} {env : Env} {sel rest : List (Addr × Obj)} {K : Frag}
  {R : Result → Shared → Prop} {name qual : Str} {params : Arguments} {body : List Stmt} {scope : Scope} {dV kV doc pm cdv ct oc : Value} {an od : Option Addr} {osl : Array (Option Value)} {f : Addr} {args : Args} {binds : List (Str × Value)}
  {Post : Value → List (Addr × Obj) → Prop}
theorem enterRC2 (B : Below A₀ base [] h₀) (F : Fr h₀ L s.heap m) (X₀ : K.In h₀) (N : News h₀ L s.heap (sel ++ rest)) (hdis : ∀ p ∈ rest, ∀ q ∈ sel, p.1 ≠ q.1)
    (T : Top p loose mean mg mb h₀) (hA : A.frames = some (env :: [])) (hf : env.frame = some L) (hke : env.scope.kind = .function)
    (ho : K.lookup f = some ⟨oc, od, .func (fnOf name qual params body scope dV kV doc pm an cdv ct), osl⟩) (hcd : codeIn K cdv qual = true) (hroom : A.depth < recursionLimit)
    (hbind : BindsTo s (fnOf name qual params body scope dV kV doc pm an cdv ct) args binds)
    (hkind : (binds.all fun y => scope.names.lookup y.1 == some .local || scope.names.lookup y.1 == some .cell) = true)
    (hnd : ((cellsFrom 0 scope.names []).map (·.1)).Nodup)
    (hR : ∀ v sel' h' tk', Fr h₀ L h' m → News h₀ L h' (sel' ++ rest) → (∀ p ∈ rest, ∀ q ∈ sel', p.1 ≠ q.1) → Post v sel' → R (.ok (.ret v)) { s with heap := h', toks := tk' })
    (h : ∀ g L' h₁ tk cells, Fr g L' h₁ (bindL (envOfC qual scope L' f cdv).kindOf binds fun _ => none) → News g L' h₁ (cells ++ sel) →
      CellsAre (bindC (envOfC qual scope L' f cdv).kindOf binds fun _ => none) (cellsFrom (L' + 1) scope.names []) cells → Below A base (env :: []) g → K.In g → Top p loose mean mg mb g →
      (∀ p ∈ sel, p.1 < L') → (∀ p ∈ rest, g.get? p.1 = some p.2) → (∀ b o, h₀.get? b = some o → g.get? b = some o) → (∃ o, g.get? L = some o ∧ ∃ es n, o.data = .dict es n) →
      wpAny (model prog w) (A.deeper (envOfC qual scope L' f cdv)) (execs body (envOfC qual scope L' f cdv))
        (fun fl s' => BodyEnd2 g L L' s Post (match fl with | .ret v => v | _ => .none) s') (fun _ _ => False)
        { s with heap := h₁, toks := tk })
    (hco : scope.isCoroutine = false) (hgen : scope.isGenerator = false) (hk : scope.kind = .function) : codeAny (model prog w) A (.call (.ref f) args) R s := by
  have Ns : News h₀ L s.heap sel := fun p hp => N p (List.mem_append_left _ hp)
  obtain ⟨FG, BG, st, lv⟩ := groundX (R := R) B F Ns hA hf hke
  have hrest : ∀ p ∈ rest, (hideAll s.heap (sel.map (·.1))).get? p.1 = some p.2 := fun p hp =>
    hideAll_get _ (N p (List.mem_append_right _ hp)).1 fun q => by
      obtain ⟨r, hr, e⟩ := List.mem_map.mp q
      exact hdis p hp r hr e.symm
  refine codeAny_call_function hroom ((X₀.keeps F.keep) _ _ ho) rfl hco hgen rfl (codeRec_of (X₀.keeps F.keep) hcd) (hbind _ _ _ _ ?_)
  refine wpAny_newFunctionEnv_cells hk (kindsX hkind _) fun env' he s' x => ?_
  subst he
  refine ⟨(T.nolimit.keeps F.keep).keeps x.toInCall.keep, codeAny_func ?_⟩
  obtain ⟨h₁, tk, rfl, _⟩ := x.done
  have hk₁ := x.toInCall.keep
  obtain ⟨cells, NC, Y⟩ := Cl.news (h₀ := s.heap) (Nat.le_refl _) fun n c hm => ⟨x.cell n c (lookup_of_mem_nodup (cellsFrom_names scope.names 0 (s.heap.objs.size + 1) [] [] rfl ▸ hnd) hm), x.above n c hm⟩
  obtain ⟨oP, esP, epP, hP, hPd, hPk, hPf⟩ := FG.ns
  refine wpAny_mono (h _ s.heap.objs.size h₁ tk cells ⟨x.toInCall.ns, fun b o e => hk₁ b o (of_hideAll _ e), Nat.le_of_eq (hideAll_size _ _)⟩ (fun p hp => ?_) Y BG (X₀.keeps st) (T.keeps st)
    (fun p hp => Heap.lt_size (Ns p hp).1) hrest st ⟨oP, hP, esP, epP, hPd⟩) (fun fl s' hl => ?_) fun _ _ y => y.elim
  · rcases List.mem_append.mp hp with hp | hp
    · refine ⟨(NC p hp).1, (NC p hp).2.1, ?_⟩
      cases q : (hideAll s.heap (sel.map (·.1))).get? p.1 with
      | none => rfl
      | some o => have := of_hideAll _ q; rw [(NC p hp).2.2] at this; cases this
    · exact ⟨hk₁ _ _ (Ns p hp).1, Nat.ne_of_lt (Heap.lt_size (Ns p hp).1), hideAll_none _ (List.mem_map_of_mem hp)⟩
  rcases hl with ⟨m', sel', h', tk', rfl, F', N', P⟩ | ⟨m', sel', oL', h', tk', rfl, F', N', TL, off, P⟩
  · refine lv _ _ ⟨_, _, _, F', N', fun Fr' Nr' => hR _ sel' _ _ Fr' (fun q hq => ?_) (fun q hq r hr e => ?_) P⟩
    · rcases List.mem_append.mp hq with hq | hq
      · exact Nr' q hq
      · exact ⟨F'.keep _ _ (hrest q hq), (N q (List.mem_append_right _ hq)).2⟩
    · have h1 := (N' r hr).2.2
      rw [← e, hrest q hq] at h1
      cases h1
  · have hL₀ : h₀.get? L = none := kts_self F
    have up : ∀ b o, h₀.get? b = some o → (hideAll (hideAll s.heap (sel.map (·.1))) [L]).get? b = some o := fun b o e => hide_of (st b o e) fun q => by rw [q, hL₀] at e; cases e
    obtain ⟨o', sl', hg', _, hoL⟩ := TL
    rw [hP] at hg'
    cases hg'
    have zL := (N' _ (.head _)).1
    rw [hoL] at zL
    have rk : ∀ q ∈ rest, (hideAll (hideAll s.heap (sel.map (·.1))) [L]).get? q.1 = some q.2 := fun q hq => hide_of (hrest q hq) (N q (List.mem_append_right _ hq)).2.1
    refine hR _ sel' _ _ ⟨⟨_, esP, epP, zL, hPd, hPk, hPf⟩, fun b o e => F'.keep b o (up b o e), F.above⟩ (fun q hq => ?_) (fun q hq r hr e => ?_) P
    · rcases List.mem_append.mp hq with hq | hq
      · have z := N' q (.tail _ hq)
        refine ⟨z.1, off q hq, ?_⟩
        cases y : h₀.get? q.1 with
        | none => rfl
        | some o => have := z.2.2; rw [up _ _ y] at this; cases this
      · exact ⟨F'.keep _ _ (rk q hq), (N q (List.mem_append_right _ hq)).2⟩
    · have h1 := (N' r (.tail _ hr)).2.2
      rw [← e, rk q hq] at h1
      cases h1
end
end
end
section
variable {w : World} {p : Program} {loose : List Str} {mean : ExcName → Option Value} {mg mb : Str → Option Value}
section
/-- as Gives, for a def that may turn the law's frame: the law's frame is the outermost -/
def GivesC (w : World) (p : Program) (loose : List Str) (mean : ExcName → Option Value) (mg mb : Str → Option Value) (f : Addr) (k : Nat) (vs : List Value) (sel rest : List (Addr × Obj))
    (Post : Value → List (Addr × Obj) → Prop) : Prop :=
  ∀ (dp un : Nat) (gd : Option (List Code)) (cn : Str) (cs : Scope) (a : Addr) (ccd : Value) (cl : List (Str × Addr)) (A₀ : Around) (base h₀ : Heap) (L : Addr) (m : Str → Option Value) (s : Shared) (Q E : Value → Shared → Prop),
    Below A₀ base [] h₀ → Fr h₀ L s.heap m → (hd.heap_39 w.params).In h₀ → News h₀ L s.heap (sel ++ rest) → (∀ p ∈ rest, ∀ q ∈ sel, p.1 ≠ q.1) → Top p loose mean mg mb h₀ →
    (hd.heap_39 w.params).In base → Top p loose mean mg mb base → CodeHd base (255, 253).1 (255, 253).2 → cs.kind = .function →
    dp + k ≤ 400 → un + 8 * k ≤ 1000 →
    (∀ v sel' h' tk', Fr h₀ L h' m → News h₀ L h' (sel' ++ rest) → (∀ p ∈ rest, ∀ q ∈ sel', p.1 ≠ q.1) → Post v sel' → Q v { s with heap := h', toks := tk' }) →
    wpAny (model PySem.Challenge.rw_nt0486_01.row.prog w) (ktrTop dp un gd cn cs L a ccd cl []) (call (.ref f) vs) Q E s
theorem switch_comp {α : Type} {M : Model} {t : Sem α} {A A₀ : Around} {base g : Heap} {envl : Env} {Ll L : Addr} {m : Str → Option Value} {news : List (Addr × Obj)} {s : Shared} {Q : α → Shared → Prop} {E : Value → Shared → Prop}
    (B : Below A₀ base [envl] g) (hfl : envl.frame = some Ll) (F : Fr g L s.heap m) (N : News g L s.heap news)
    (XB : (hd.heap_39 w.params).In base) (TB : Top p loose mean mg mb base) (hdict : ∃ o, g.get? Ll = some o ∧ ∃ es n, o.data = .dict es n) {x : Addr} {its : Array Value} (hl : g.IsList x its)
    (h : ∀ oL, (hideAll g [Ll]).IsList x its → TurnOf g Ll oL → LCg.Off1 Ll news → @Ne Nat Ll L → (hd.heap_39 w.params).In (hideAll g [Ll]) → Top p loose mean mg mb (hideAll g [Ll]) → Fr (hideAll g [Ll]) L s.heap m → News (hideAll g [Ll]) L s.heap ((Ll, oL) :: news) → wpAny M A t Q E s) : wpAny M A t Q E s := by
  obtain ⟨oL, h1, h2, h3, h4, h5, h6, h7⟩ := switch B hfl F N XB TB hdict
  have hx : (hideAll g [Ll]).IsList x its := by
    obtain ⟨o, ho, hc, n, hd⟩ := hl
    refine ⟨o, hide_of ho fun q => ?_, hc, n, hd⟩
    obtain ⟨o', ho', es, n', hd'⟩ := hdict
    rw [q, ho'] at ho; cases ho
    rw [hd'] at hd; cases hd
  exact h oL hx h1 h4 h5 h6 h7 h2 h3
section
variable {g : Heap} {Ll L' : Addr} {s : Shared} {h' : Heap} {m' : Str → Option Value} {news : List (Addr × Obj)} {ps : Array Value} {v : Value} {tk' : Nat} {oL : Obj}
theorem pts_endL (F : Fr g L' h' m') (N : News g L' h' news) (h1 : (253, tabObj ps) ∈ news) (hv : v = .bool true) :
    BodyEnd2 g Ll L' s (fun v sel' => ∃ ps, sel' = [(253, tabObj ps)] ∧ v = .bool true) v { s with heap := h', toks := tk' } :=
  .inl (bodyEnd_of (sel' := [(253, tabObj ps)]) rfl F (fun q hq => by rw [List.mem_singleton.mp hq]; exact N _ h1) ⟨ps, rfl, hv⟩)
theorem pts_endR (F : Fr (hideAll g [Ll]) L' h' m') (N : News (hideAll g [Ll]) L' h' news) (TL : TurnOf g Ll oL) (h0 : (Ll, oL) ∈ news) (h1 : (253, tabObj ps) ∈ news) (hne : @Ne Nat 253 Ll) (hv : v = .bool true) :
    BodyEnd2 g Ll L' s (fun v sel' => ∃ ps, sel' = [(253, tabObj ps)] ∧ v = .bool true) v { s with heap := h', toks := tk' } :=
  .inr ⟨m', [(253, tabObj ps)], oL, h', tk', rfl, F, fun q hq => by
    rcases List.mem_cons.mp hq with rfl | hq
    · exact N _ h0
    · rw [List.mem_singleton.mp hq]; exact N _ h1, TL, fun q hq => by rw [List.mem_singleton.mp hq]; exact hne, ps, rfl, hv⟩
end
/-- b'undefinedresult' -/
abbrev undefB : Array UInt8 := #[117, 110, 100, 101, 102, 105, 110, 101, 100, 114, 101, 115, 117, 108, 116]
theorem eqAt_bytes {A : Around} {s : Shared} {b : Array UInt8} {t u : Tok} : SeqAt.EqAt A s (.bytes b t) (.bytes b u) true := fun prog w E Q hq => by
  unfold eqBool
  refine wpAny_holding ?_
  show wpAny _ _ (if (Value.bytes b t == Value.bytes b u) = true then _ else _) Q E s
  by_cases hab : (Value.bytes b t == Value.bytes b u) = true
  · rw [if_pos hab]; exact wpAny_bind (wpAny_rule (wpAny_pure hq))
  · rw [if_neg hab]
    exact wpAny_bind (show wpAny _ _ (compareOp .Eq _ _) _ _ _ from eq_bytes (wpAny_truthy_bool (by simpa using hq)))
/-- three bytes' values against three of the same -/
theorem eq_three {prog : Program} {A : Around} {E : Value → Shared → Prop} {s : Shared} {h₀ : Heap} {L a c : Addr} {news : List (Addr × Obj)} {oa oc : Obj} {na nc : Nat} {b : Array UInt8} {t1 t2 t3 u1 u2 u3 : Tok} {Q : Value → Shared → Prop}
    (N : News h₀ L s.heap news) (ma : (a, oa) ∈ news) (mc : (c, oc) ∈ news) (ca : oa.cls = .type "list") (cc : oc.cls = .type "list") (da : oa.data = .seq #[.bytes b t1, .bytes b t2, .bytes b t3] na) (dc : oc.data = .seq #[.bytes b u1, .bytes b u2, .bytes b u3] nc)
    (hu : A.units < cLine) (h : Q (.bool true) s) : wpAny (model prog w) A (compareOp .Eq (.ref a) (.ref c)) Q E s := by
  refine SeqAt.eq_listAt (e := fun _ => true) (items := #[.bytes b t1, .bytes b t2, .bytes b t3]) (items2 := #[.bytes b u1, .bytes b u2, .bytes b u3]) ⟨oa, (N _ ma).1, ca, na, da⟩ ⟨oc, (N _ mc).1, cc, nc, dc⟩ rfl hu (fun j h1 h2 => ?_) ?_
  · have h3 : j < 3 := h1
    match j, h1, h2, h3 with
    | 0, _, _, _ => exact eqAt_bytes
    | 1, _, _, _ => exact eqAt_bytes
    | 2, _, _, _ => exact eqAt_bytes
    | (n + 3), _, _, h3 => exact absurd h3 (by omega)
  · exact h
theorem ps_get_on {prog : Program} {A : Around} {E : Value → Shared → Prop} {s : Shared} {h₀ : Heap} {L e D : Addr} {m : Str → Option Value} {news : List (Addr × Obj)} {oe od : Obj} {v : Value} {expr : Bool} {Q : Value → Shared → Prop}
    (F : Fr h₀ L s.heap m) (X : (hd.heap_39 w.params).In h₀) (N : News h₀ L s.heap ((e, oe) :: (D, od) :: news)) (hc : oe.cls = .ref 45) (hdi : oe.dict = some D) (hn : notCls oe = true) (hl : lookIn (Str.ofString "told") od = some (some v)) (hh : handedIn v = true)
    (h : Q v { s with toks := s.toks + 1 }) : wpAny (model prog w) A (getAttr (.ref e) (Str.ofString "told") expr) Q E s :=
  ps_get (Frag.In.keeps X F.keep) ⟨(N _ (.head _)).1, hc, hn, by rw [hdi]; exact (N _ (.tail _ (.head _))).1⟩ hl hh h
end
end
section
theorem say_11 : True := by
  (k_with "M call ref" => k_dflt (k_here; (with_reducible show wpAny _ _ (PySem.call (Value.ref 54) [Value.int _ _, Value.int _ _]) _ _ _); (refine' use_int (div_gives ?zhb ?zh1 ?zh2) ?zB ?zF ?zX ?zN ?zT ?zk ?zd ?zu ?_); k_extra "MINE std"; k_extra "MINE nz"; k_whole; intro t9 h9 tk9 F9 N9; k_extra "MINE end"))
  (k_with "M call ref" => k_dflt (k_here; (with_reducible show wpAny _ _ (PySem.call (Value.ref 234) [Value.int _ _, Value.int _ _]) _ _ _); (refine' use_int (near_gives ?zhb ?zh1 ?zh2) ?zB ?zF ?zX ?zN ?zT ?zk ?zd ?zu ?_); k_extra "MINE std"; k_extra "MINE nz"; k_whole; intro t9 h9 tk9 F9 N9; k_extra "MINE end"))
  (k_with "M call ref" => k_dflt (k_here; (with_reducible show wpAny _ _ (PySem.call (Value.ref 96) [Value.int _ _, Value.int _ _]) _ _ _); (refine' use_int (mq_gives ?zhb ?zh1 ?zh2) ?zB ?zF ?zX ?zN ?zT ?zk ?zd ?zu ?_); k_extra "MINE std"; k_extra "MINE nz"; k_whole; intro t9 h9 tk9 F9 N9; k_extra "MINE end"))
  (k_with "MINE pk" => first | ((refine' Pk.head ?za); (case za => k_all)) | ((refine' Pk.tail ?za ?zb); (case za => k_ne); (case zb => k_extra "MINE pk")))
  (k_with "MINE p2" => ((case P1 => k_extra "MINE pk"); (case P2 => k_extra "MINE pk")))
  (k_with "MINE dec" => first | decide | omega)
  (k_with "M call ref" => k_dflt (k_here; (with_reducible show wpAny _ _ (PySem.call (Value.ref 220) [Value.ref _, Value.int _ _]) _ _ _); (refine' use_deck (draw_gives' ?zD ?zhb ?zh1 ?zh2) ?zB ?zF ?zX ?zN ?P1 ?P2 ?zT ?zk ?zd ?zu ?_); (case zD => assumption); k_extra "MINE std"; k_extra "MINE p2"; (case zhb => k_extra "MINE dec"); (case zh1 => k_extra "MINE dec"); (case zh2 => k_extra "MINE dec"); k_whole; intro r9 t9 o9 l9 h9 tk9 R9 D9 F9 N9 dl9 dd9 dn9; k_extra "MINE end"))
  (k_with "M call ref" => k_dflt (k_here; (with_reducible show wpAny _ _ (PySem.call (Value.ref 227) [Value.ref _, Value.ref _]) _ _ _); (refine' use_deck (pick_gives ?zD ?zh1 ?zhx ?zhI ?zh0 ?zh2) ?zB ?zF ?zX ?zN ?P1 ?P2 ?zT ?zk ?zd ?zu ?_); (case zD => assumption); k_extra "MINE std"; k_extra "MINE p2"; (case zhx => k_mem); (case zhI => l_ints); (case zh0 => k_extra "MINE dec"); (case zh1 => k_extra "MINE dec"); (case zh2 => k_extra "MINE dec"); k_whole; intro r9 t9 o9 l9 h9 tk9 R9 D9 F9 N9 dl9 dd9 dn9; k_extra "MINE end"))
  trivial
variable {w : World} {p : Program} {loose : List Str} {mean : ExcName → Option Value} {mg mb : Str → Option Value}
section
/-- a comprehension whose source is a tuple of the ledger, turn by turn -/
def TupAt (ax : Addr) (its : Array Value) (news : List (Addr × Obj)) : Prop := False ∨ ∃ o, (ax, o) ∈ news ∧ o.cls = .type "tuple" ∧ ∃ n, o.data = .seq its n
theorem TupAt.tup {h₀ h : Heap} {L ax : Addr} {its : Array Value} {news : List (Addr × Obj)} (x : TupAt ax its news) (N : News h₀ L h news) : h.IsTuple ax its := by
  rcases x with x | ⟨o, hm, r⟩
  · exact x.elim
  · exact ⟨o, (N _ hm).1, r⟩
def TupSrc (prog : Program) (w : World) (A : Around) (h₀ : Heap) (L : Addr) (m : Str → Option Value) (env : Env) (elt : Expr) (x : Str) (scope : Scope) (cl : List (Str × Addr)) (Fin : Shared → List Value → List (Addr × Obj) → Prop) (xv : Value) (s₁ : Shared) : Prop :=
  ∃ ax its news, xv = .ref ax ∧ A.handled = none ∧ Fr h₀ L s₁.heap m ∧ News h₀ L s₁.heap news ∧ TupAt ax its news ∧ its.size ≤ sizeLine ∧
    ∀ s₂ : Shared, (∃ h, s₂ = { s₁ with heap := h }) → LCg.CompRest prog w A h₀ L m env elt x scope cl s₂ (TupAt ax its) (fun i v => its[i]? = some v) (Fin s₂) its.size 0 [] news
section
variable {prog : Program} {A : Around} {E : Value → Shared → Prop} {s : Shared} {h₀ : Heap} {L : Addr} {m : Str → Option Value} {env : Env}
theorem TupSrc.ledger {elt : Expr} {x : Str} {scope : Scope} {cl : List (Str × Addr)} {Fin : Shared → List Value → List (Addr × Obj) → Prop} {ax : Addr} {its : Array Value} {k : Nat} {news : List (Addr × Obj)} {s₁ : Shared}
    (hh : A.handled = none) (F : Fr h₀ L s₁.heap m) (N : News h₀ L s₁.heap news) (hm : (ax, ({ cls := .type "tuple", data := .seq its k } : Obj)) ∈ news) (hsz : its.size ≤ sizeLine)
    (h : ∀ g, LCg.CompRest prog w A h₀ L m env elt x scope cl { s₁ with heap := g } (TupAt ax its) (fun i v => its[i]? = some v) (Fin { s₁ with heap := g }) its.size 0 [] news) :
    TupSrc prog w A h₀ L m env elt x scope cl Fin (.ref ax) s₁ := ⟨ax, its, news, rfl, hh, F, N, .inr ⟨_, hm, rfl, _, rfl⟩, hsz, fun _ ⟨g, e⟩ => e ▸ h g⟩
theorem tup_st {ax I : Addr} {its : Array Value} : ∀ i (h h' : Heap) (o : Obj) (nw : List (Addr × Obj)), (h.IsTupleIter I ax i ∧ h.IsTuple ax its) → h.get? I = some o → h'.get? I = some o → (∀ b o, h₀.get? b = some o → h'.get? b = some o) → News h₀ L h' nw → TupAt ax its nw → (h'.IsTupleIter I ax i ∧ h'.IsTuple ax its) :=
  fun i h h' o nw st e e' _ N S => ⟨by obtain ⟨o', q, r⟩ := st.1; rw [e] at q; cases q; exact ⟨o, e', r⟩, S.tup N⟩
theorem listComp_tup {elt iter : Expr} {x : Str} {px : Pos} {scope : Scope} {cl : List (Str × Addr)} {pos : Pos} {Q : Value → Shared → Prop} (_F₀ : Fr h₀ L s.heap m)
    (hclos : closureFor scope env = pure cl) (hcell : ∀ y ∈ scope.names, y.2 ≠ .cell) (hkind : scope.kind = .function)
    (hnames : ∀ y ∈ scope.names, y.2 = .local → scope.names.lookup y.1 = some .local) (hx : scope.names.lookup x = some .local)
    (h : wpAny (model prog w) A (eval iter env) (TupSrc prog w A h₀ L m env elt x scope cl (fun s₂ => LCg.FinE h₀ L m s₂ Q)) E s)
    (hs : ∀ x, foldedSetIterable iter env x = pure x := by intro _; rfl) :
    wpAny (model prog w) A (eval (.ListComp elt [⟨.Name x px, iter, [], 0⟩] scope pos) env) Q E s := by
  rw [eval_ListComp]
  refine wpAny_comprehension_free (use := none) rfl hs hclos hkind hnames (wpAny_mono h (fun xv s₁ h₁ => ?_) fun _ _ e => e)
  obtain ⟨ax, its, news, rfl, hh, F, N, S, hsz, R⟩ := h₁
  have hl := S.tup N
  have hlt : ax < s₁.heap.objs.size := by obtain ⟨_, e, _⟩ := hl; exact Heap.lt_size e
  refine wpAny_pyIter_tuple hl ?_
  have up : ∀ b o, s₁.heap.get? b = some o → (s₁.heap.push { cls := .type "tuple_iterator", data := .fields #[.ref ax, .int 0 0] }).get? b = some o := fun b o e => Heap.get?_push_of_some _ e
  have hl' : (s₁.heap.push { cls := .type "tuple_iterator", data := .fields #[.ref ax, .int 0 0] }).IsTuple ax its := by
    obtain ⟨o, e, r⟩ := hl
    exact ⟨o, up _ _ e, r⟩
  refine LCg.block_U (Walks.tuple hh s₁.heap.objs.size ax (Nat.ne_of_lt hlt) its) hsz (fun i h st => by obtain ⟨o, e, _⟩ := st.1; exact ⟨o, e⟩) tup_st hcell hkind hx ⟨⟨_, Heap.get?_push_size _ rfl, rfl, rfl⟩, hl'⟩ (fun b hb => ?_)
    (F.keeps up) (N.grown up) (Nat.ne_of_lt F.ns.lt) (next_is_new F) (fun p hp => Nat.ne_of_lt (Heap.lt_size (N p hp).1)) S (R _ ⟨_, rfl⟩) ?_
  · show b < (s₁.heap.push _).objs.size
    rw [Heap.size_push]
    rcases List.mem_cons.mp hb with rfl | hb
    · exact Nat.lt_succ_self _
    · rw [List.mem_singleton.mp hb]; exact Nat.lt_succ_of_lt hlt
  · intro D C h tk m' ys news' F' N' o1 hn hC₀ hD₀ hCL hDL hCD offC fin
    refine ⟨m', hn, fun h'' hs'' => fin D h'' tk (F'.change hs'' hCL hC₀) (fun p hp => ?_) o1⟩
    refine ⟨hs''.extBut _ _ ?_ (N' p hp).1, (N' p hp).2⟩
    rcases List.mem_cons.mp hp with rfl | hp
    · exact Ne.symm hCD
    · exact offC p hp
end
end
theorem say_12 : True := by
  (k_with "M CompRest" => (with_unfolding_all (refine LCg.CompRest.succ ?_; intro v' I' oI' C' oC' D' m' h' tk' E' hv' hC' hx' F' N' off' ne'; (first | lcg_open hv' | (obtain ⟨t9', hv9'⟩ := hv'; subst hv9')); (have n1' := ne'.1); (have n2' := ne'.2.1); (have n3' := ne'.2.2))))
  (k_with "M TupSrc" => (k_here; k_dflt (refine TupSrc.ledger (by rfl) (by k_asm) (by k_asm) (by k_mem) (by first | size_fits | exact Nat.le_of_ble_eq_true rfl) ?_; intro g'; lcg_lit)))
  (k_with "M CompEnd" => k_dflt ((with_reducible refine' LCg.CompEnd.intro ?zeF ?zeN _ ?zeb ?zeo ?zeS ?_); (case zeF => with_reducible assumption); (case zeo => with_reducible assumption); (case zeN => with_reducible assumption); (case zeb => exact fun _ h => h); (case zeS => lcg_src); k_whole))
  trivial
variable {w : World} {p : Program} {loose : List Str} {mean : ExcName → Option Value} {mg mb : Str → Option Value}
section
def Bd (n a : Int) : Prop := -n ≤ a ∧ a ≤ n

/-- the two ways of a conditional expression over the deck meet -/
def IfJoin (w : World) (h₀ : Heap) (L : Addr) (m : Str → Option Value) (s : Shared) (d lc : Addr) (rest : List (Addr × Obj)) (k : Nat) (v : Value) (s' : Shared) : Prop :=
  ∃ r t o' l' h' tk', v = .int r t ∧ s' = { s with heap := h', toks := tk' } ∧ Bd 1000000000 r ∧ DeckIs w d lc o' l' k ∧ Fr h₀ L h' m ∧ News h₀ L h' ((lc, l') :: (d, o') :: rest)
theorem if_join {M : Model} {A : Around} {t b e : Expr} {pos : Pos} {env : Env} {h₀ : Heap} {L : Addr} {m : Str → Option Value} {s : Shared} {Q E : Value → Shared → Prop} {d lc : Addr} {o l : Obj} {k : Nat} {news r1 rest : List (Addr × Obj)}
    (_D : DeckIs w d lc o l k) (_F : Fr h₀ L s.heap m) (_N : News h₀ L s.heap news) (_P1 : Pk lc l news r1) (_P2 : Pk d o r1 rest)
    (h1 : wpAny M A (eval (.IfExp t b e pos) env) (IfJoin w h₀ L m s d lc rest (k + 2)) E s)
    (h2 : ∀ r t o' l' h' tk', Bd 1000000000 r → DeckIs w d lc o' l' (k + 2) → Fr h₀ L h' m → News h₀ L h' ((lc, l') :: (d, o') :: rest) → (∀ p ∈ rest, p.1 ≠ lc) → (∀ p ∈ rest, p.1 ≠ d) → @Ne Nat d lc → Q (.int r t) { s with heap := h', toks := tk' }) :
    wpAny M A (eval (.IfExp t b e pos) env) Q E s :=
  wpAny_mono h1 (fun v s' ⟨r, t, o', l', h', tk', e1, e2, hr, D', F', N'⟩ => by subst e1; subst e2; exact h2 r t o' l' h' tk' hr D' F' N' (fun q hq => _P1.sub.2.2 q (_P2.sub.2.1 q hq)) _P2.sub.2.2 (_P1.sub.2.2 _ _P2.sub.1)) fun _ _ x => x
theorem bd_menu {r : Int} (h : r ∈ [(0 : Int), 1000000, -1000000, 500000, 1500000, -2, 1, 0]) : Bd 1000000000 r := by
  simp only [List.mem_cons, List.not_mem_nil, or_false] at h
  unfold Bd; omega
theorem bd_draw {r : Int} (h1 : 0 ≤ r) (h2 : r < 2 * 10 ^ Int.toNat 9) : Bd 1000000000 (r - 10 ^ Int.toNat 9) := by
  have e : (10 : Int) ^ Int.toNat 9 = 1000000000 := by decide
  rw [e] at h2 ⊢
  unfold Bd; omega
theorem bd_draw' {r : Int} (h : 0 ≤ r ∧ r < 2 * 10 ^ Int.toNat 9) : Bd 1000000000 (r - 10 ^ Int.toNat 9) := bd_draw h.1 h.2
theorem bd_up {r : Int} (h : Bd 1000000000 r) : Bd 2000000000 r := by unfold Bd at *; omega
theorem bd_dbl {r : Int} (h : Bd 1000000000 r) : Bd 2000000000 (2 * r) := by unfold Bd at *; omega
theorem bd_e {r : Int} (h : r ∈ [(0 : Int), 1, -3500000, 72000000]) : Bd 2000000000 r := by
  simp only [List.mem_cons, List.not_mem_nil, or_false] at h
  unfold Bd; omega
theorem bd_f {r : Int} (h : r ∈ [(0 : Int), -1, 12]) : Bd 2000000000 r := by
  simp only [List.mem_cons, List.not_mem_nil, or_false] at h
  unfold Bd; omega
theorem mat_end {g : Heap} {L' : Addr} {s : Shared} {m' : Str → Option Value} {h' : Heap} {tk' : Nat} {news : List (Addr × Obj)} {d lc x : Addr} {o' l' : Obj} {k q : Nat} {a b c e u v : Int} {t1 t2 t3 t4 t5 t6 : Tok}
    (F : Fr g L' h' m') (N : News g L' h' news) (h1 : (x, W.listOf #[Value.int a t1, Value.int b t2, Value.int c t3, Value.int e t4, Value.int u t5, Value.int v t6] q) ∈ news) (h2 : (lc, l') ∈ news) (h3 : (d, o') ∈ news)
    (n1 : x ≠ lc) (n2 : x ≠ d) (D : DeckIs w d lc o' l' k) (b1 : Bd 2000000000 a) (b2 : Bd 2000000000 b) (b3 : Bd 2000000000 c) (b4 : Bd 2000000000 e) (b5 : Bd 2000000000 u) (b6 : Bd 2000000000 v) :
    BodyEnd g L' s (fun y sel' => ∃ o' l' x vs q a b c e g h, sel' = [(x, W.listOf (List.toArray vs) q), (lc, l'), (d, o')] ∧ y = .ref x ∧ IntsAre vs [a, b, c, e, g, h] ∧
      @Ne Nat x lc ∧ @Ne Nat x d ∧ Bd 2000000000 a ∧ Bd 2000000000 b ∧ Bd 2000000000 c ∧ Bd 2000000000 e ∧ Bd 2000000000 g ∧ Bd 2000000000 h ∧ DeckIs w d lc o' l' k) (.ref x) { s with heap := h', toks := tk' } :=
  bodyEnd_of (sel' := [(x, W.listOf #[Value.int a t1, Value.int b t2, Value.int c t3, Value.int e t4, Value.int u t5, Value.int v t6] q), (lc, l'), (d, o')]) rfl F (fun p hp => by
    rcases List.mem_cons.mp hp with rfl | hp
    · exact N _ h1
    rcases List.mem_cons.mp hp with rfl | hp
    · exact N _ h2
    · rw [List.mem_singleton.mp hp]; exact N _ h3)
    ⟨o', l', x, [Value.int a t1, Value.int b t2, Value.int c t3, Value.int e t4, Value.int u t5, Value.int v t6], q, a, b, c, e, u, v, rfl, rfl, .cons _ _ (.cons _ _ (.cons _ _ (.cons _ _ (.cons _ _ (.cons _ _ .nil))))), n1, n2, b1, b2, b3, b4, b5, b6, D⟩

local macro_rules | `(tactic| walk_at "eval IfExp") => `(tactic| k_dflt (
  k_here; (fail_if_success (with_reducible show wpAny _ _ _ (IfJoin _ _ _ _ _ _ _ _ _) _ _));
  (refine' if_join ?D ?F ?N ?P1 ?P2 ?_ ?_);
  (case D => assumption); (case F => k_asm); (case N => k_asm); walk_at "MINE p2";
  rotate_left; intro r9 t9 o9 l9 h9 tk9 R9 D9 F9 N9 dl9 dd9 dn9; k_sweep; (try dsimp only); (try k_fold)))
local macro_rules | `(tactic| walk_at "CompSrc") => `(tactic| (k_here; k_dflt (refine LCg.CompSrc.range (by rfl) (by k_asm) (by k_asm) (by assumption) (by first | decide | rfl) (by first | rfl | decide) (by first | size_fits | exact Nat.le_of_ble_eq_true rfl) ?_; intro g'; lcg_lit)))

local macro_rules | `(tactic| walk_at "IfJoin") => `(tactic| k_dflt (refine ⟨_, _, _, _, _, _, rfl, rfl, ?_, by assumption, by assumption, by assumption⟩; first | exact bd_menu (by assumption) | exact bd_draw' (by assumption) | (walk_at "MINE split"; exact bd_draw (by assumption) (by assumption))))
local macro_rules | `(tactic| walk_at "BodyEnd") => `(tactic| k_dflt (
  refine' mat_end (by assumption) (by assumption) ?h1 ?h2 ?h3 ?n1 ?n2 ?D ?_ ?_ ?_ ?_ (bd_e ?b5) (bd_f ?b6);
  (case h1 => k_mem); (case h2 => k_mem); (case h3 => k_mem); (case n1 => k_ne); (case n2 => k_ne); (case D => assumption); (case b5 => assumption); (case b6 => assumption);
  all_goals first | exact bd_up (by assumption) | exact bd_dbl (by assumption) | (walk_at "MINE split"; first | (unfold Bd; omega) | (simp only [List.getD, Int.toNat]; simp; unfold Bd; omega))))

theorem mat_gives {d lc : Addr} {o l : Obj} {k : Nat} {rest : List (Addr × Obj)} (D : DeckIs w d lc o l k) (hk1 : k ≤ 100) :
    Gives w p loose mean mg mb 239 4 [.ref d] [(lc, l), (d, o)] rest (fun v sel' => ∃ o' l' x vs q a b c e g h, sel' = [(x, W.listOf (List.toArray vs) q), (lc, l'), (d, o')] ∧ v = .ref x ∧ IntsAre vs [a, b, c, e, g, h] ∧
      @Ne Nat x lc ∧ @Ne Nat x d ∧ Bd 2000000000 a ∧ Bd 2000000000 b ∧ Bd 2000000000 c ∧ Bd 2000000000 e ∧ Bd 2000000000 g ∧ Bd 2000000000 h ∧ DeckIs w d lc o' l' (k + 11)) := by
  unfold Gives
  k_fill
  intro dp un gd cn cs a ccd cl outer A₀ base h₀ L m s Q E B F X N hdis T hk hd hu hret
  have hrl9 : 500 < recursionLimit := by decide
  have hne : @Ne Nat lc d := by obtain ⟨_, _, _, _, _, _, _, _, _, _, _, _, h, _⟩ := D; exact h
  refine wpAny_call ?_
  k_dflt (walk_at "MINE enterC")
  k_steps
end
end
section
theorem say_13 : True := by
  (k_with "MINE lit" => (k_here; (with_reducible show wpAny _ _ (subscriptTail _ _ (Value.ref _) (Value.int _ _)) _ _ _); (with_unfolding_all refine' item_litK ?zk1 ?zk2 ?zk3 ?zk4 ?_ ?zk6; (case zk1 => is_list); (case zk2 => decide); (case zk3 => decide); (case zk4 => rfl); (case zk6 => with_unfolding_all rfl); k_whole)))
  (k_with "M subscriptTail Name Constant ref int" => k_dflt (k_extra "MINE lit"))
  (k_with "M subscriptTail Name Name ref int" => k_dflt (k_extra "MINE lit"))
  (k_with "M subscriptTail Name BinOp ref int" => k_dflt (k_extra "MINE lit"))
  trivial
variable {w : World} {p : Program} {loose : List Str} {mean : ExcName → Option Value} {mg mb : Str → Option Value}
section
theorem bd_mul {a b : Int} (h : Bd 2000000000 a) : IntMulOk a b := PySem.IntMulOk.of_left (PySem.intBits_le_64 (by unfold Bd at h; omega) (by unfold Bd at h; omega))
local macro_rules | `(tactic| mul_fits) => `(tactic| exact bd_mul (by assumption))
/-- the first matrix, then the second one -/
def catF (a0 a1 a2 a3 a4 a5 b0 b1 b2 b3 b4 b5 : Int) : List Int :=
  [nearF (a0 * b0 + a1 * b2) 1000000, nearF (a0 * b1 + a1 * b3) 1000000, nearF (a2 * b0 + a3 * b2) 1000000, nearF (a2 * b1 + a3 * b3) 1000000,
    nearF (a4 * b0 + a5 * b2) 1000000 + b4, nearF (a4 * b1 + a5 * b3) 1000000 + b5]

theorem list_end {g : Heap} {L' : Addr} {s : Shared} {m' : Str → Option Value} {h' : Heap} {tk' : Nat} {news : List (Addr × Obj)} {z : Addr} {us : List Value} {q : Nat} {ns : List Int}
    (F : Fr g L' h' m') (N : News g L' h' news) (h1 : (z, W.listOf (List.toArray us) q) ∈ news) (hI : IntsAre us ns) :
    BodyEnd g L' s (fun v sel' => ∃ z us q, sel' = [(z, W.listOf (List.toArray us) q)] ∧ v = .ref z ∧ IntsAre us ns) (.ref z) { s with heap := h', toks := tk' } :=
  bodyEnd_of (sel' := [(z, W.listOf (List.toArray us) q)]) rfl F (fun p hp => by rw [List.mem_singleton.mp hp]; exact N _ h1) ⟨z, us, q, rfl, rfl, hI⟩

theorem isList_rest9 {g : Heap} {x : Addr} {vs : Array Value} {q : Nat} {rest : List (Addr × Obj)} (h : ∀ p ∈ rest, g.get? p.1 = some p.2) (hx : (x, W.listOf vs q) ∈ rest) : g.IsList x vs := ⟨_, h _ hx, rfl, _, rfl⟩
theorem concat_gives {x y : Addr} {qx qy : Nat} {a0 a1 a2 a3 a4 a5 b0 b1 b2 b3 b4 b5 : Int} {t0 t1 t2 t3 t4 t5 u0 u1 u2 u3 u4 u5 : Tok} {rest : List (Addr × Obj)}
    (hx : (x, W.listOf #[.int a0 t0, .int a1 t1, .int a2 t2, .int a3 t3, .int a4 t4, .int a5 t5] qx) ∈ rest) (hy : (y, W.listOf #[.int b0 u0, .int b1 u1, .int b2 u2, .int b3 u3, .int b4 u4, .int b5 u5] qy) ∈ rest)
    (h0 : Bd 2000000000 a0) (h1 : Bd 2000000000 a1) (h2 : Bd 2000000000 a2) (h3 : Bd 2000000000 a3) (h4 : Bd 2000000000 a4) (h5 : Bd 2000000000 a5) :
    Gives w p loose mean mg mb 131 3 [.ref x, .ref y] [] rest (fun v sel' => ∃ z us q, sel' = [(z, W.listOf (List.toArray us) q)] ∧ v = .ref z ∧ IntsAre us (catF a0 a1 a2 a3 a4 a5 b0 b1 b2 b3 b4 b5)) := by
  unfold Gives catF
  k_fill
  intro dp un gd cn cs a ccd cl outer A₀ base h₀ L m s Q E B F X N hdis T hk hd hu hret
  have hrl9 : 500 < recursionLimit := by decide
  refine wpAny_call ?_
  k_dflt (walk_at "MINE enter")
  have hl9 := isList_rest9 (by assumption) hx
  have hl8 := isList_rest9 (by assumption) hy
  k_steps
  exact list_end (by assumption) (by assumption) (by k_mem) (by l_ints)

local macro_rules | `(tactic| walk_at "eval ListComp") => `(tactic| (k_here; k_dflt (refine listComp_tup (_F₀ := by k_asm) (by with_unfolding_all rfl) (by decide) (by rfl) (by decide) (by rfl) ?_)))
theorem put_gives {x y : Addr} {qx qy : Nat} {a0 a1 a2 a3 a4 a5 b0 b1 b2 b3 b4 b5 : Int} {t0 t1 t2 t3 t4 t5 u0 u1 u2 u3 u4 u5 : Tok} {rest : List (Addr × Obj)}
    (hx : (x, W.listOf #[.int a0 t0, .int a1 t1, .int a2 t2, .int a3 t3, .int a4 t4, .int a5 t5] qx) ∈ rest) (hy : (y, W.listOf #[.int b0 u0, .int b1 u1, .int b2 u2, .int b3 u3, .int b4 u4, .int b5 u5] qy) ∈ rest)
    (h0 : Bd 2000000000 a0) (h1 : Bd 2000000000 a1) (h2 : Bd 2000000000 a2) (h3 : Bd 2000000000 a3) (h4 : Bd 2000000000 a4) (h5 : Bd 2000000000 a5) :
    Gives w p loose mean mg mb 244 3 [.ref x, .ref y] [] rest (fun v sel' => ∃ z us q, sel' = [(z, W.listOf (List.toArray us) q)] ∧ v = .ref z ∧ IntsAre us (catF a0 a1 a2 a3 a4 a5 b0 b1 b2 b3 b4 b5)) := by
  unfold Gives catF
  k_fill
  intro dp un gd cn cs a ccd cl outer A₀ base h₀ L m s Q E B F X N hdis T hk hd hu hret
  have hrl9 : 500 < recursionLimit := by decide
  refine wpAny_call ?_
  k_dflt (walk_at "MINE enterC")
  have hl9 := isList_rest9 (by assumption) hx
  have hl8 := isList_rest9 (by assumption) hy
  k_steps
  exact list_end (by assumption) (by assumption) (by k_mem) (by l_ints)
end
end
section
theorem say_14 : True := by
  k_with_none
  (k_with "MINE ix" => first | exact nth_mem (i := 0) rfl | exact nth_mem (i := 1) rfl | exact nth_mem (i := 2) rfl | exact nth_mem (i := 3) rfl | exact nth_mem (i := 4) rfl | exact nth_mem (i := 5) rfl | exact nth_mem (i := 6) rfl | exact nth_mem (i := 7) rfl | ((refine memT rfl ?_); k_extra "MINE ix"))
  (k_with "MINE fx" => ((case zh => with_reducible assumption); (case ze => k_extra "MINE ix")))
  (k_with "MINE ne2" => first | ((refine' off_at ?zh ?ze); k_extra "MINE fx") | ((refine' ne0_at ?zh ?ze); k_extra "MINE fx") | ((refine' offD_at ?zh ?ze); k_extra "MINE fx") | ((refine' offC_at ?zh ?ze); k_extra "MINE fx") | ((refine' offI_at ?zh ?ze); k_extra "MINE fx") | ((refine' offA_at ?zh ?ze); k_extra "MINE fx") | ((refine' ne1_at ?zh ?ze); k_extra "MINE fx") | ((refine' ne2_at ?zh ?ze); k_extra "MINE fx") | ((refine' ne3_at ?zh ?ze); k_extra "MINE fx") | ((refine' ne4_at ?zh ?ze); k_extra "MINE fx") | ((refine' ne5_at ?zh ?ze); k_extra "MINE fx") | ((refine' neT_at ?zh ?ze ?zg); (case zg => with_reducible assumption); k_extra "MINE fx"))
  (k_with "MINE ne3" => first | exact And.left (by with_reducible assumption) | exact And.left (And.right (by with_reducible assumption)) | exact And.right (by with_reducible assumption) | exact And.left (And.right (And.right (by with_reducible assumption))) | exact And.right (And.right (by with_reducible assumption)) | exact And.left (And.right (And.right (And.right (by with_reducible assumption)))) | exact And.right (And.right (And.right (by with_reducible assumption))) | exact And.left (And.right (And.right (And.right (And.right (by with_reducible assumption))))) | exact And.right (And.right (And.right (And.right (by with_reducible assumption)))) | exact And.left (And.right (And.right (And.right (And.right (And.right (by with_reducible assumption)))))) | exact And.right (And.right (And.right (And.right (And.right (by with_reducible assumption))))))
  (k_with "MINE ne1" => with_reducible first | assumption | exact Ne.symm (by assumption) | exact Nat.ne_of_lt (by assumption) | exact Nat.ne_of_gt (by assumption) | exact Nat.ne_of_lt (Nat.lt_succ_of_lt (by assumption)) | exact Nat.ne_of_gt (Nat.lt_succ_of_lt (by assumption)))
  (k_with "M k_ne" => ((try dsimp only); (refine neN ?_); first | k_extra "MINE ne1" | exact Nat.ne_of_lt (Nat.lt_succ_self _) | exact Nat.ne_of_gt (Nat.lt_succ_self _) | k_extra "MINE ne2" | (refine Ne.symm ?_; k_extra "MINE ne2") | k_extra "MINE ne3" | (refine Ne.symm ?_; k_extra "MINE ne3") | k_extra "MINE nesay"))
  (k_with "MINE nesay" => (k_extra "MINE split"; first | k_extra "MINE ne1" | ((repeat ((rename (@Ne Nat _ _) => h9); clear h9)); omega)))
  (k_with "M k_all" => first | with_reducible assumption | exact List.forall_mem_nil _ | ((refine' List.forall_mem_cons.mpr ⟨?za, ?zb⟩); (case za => k_ne); (case zb => k_all)))
  (k_with "MINE split" => repeat ((rename _ ∧ _ => h9); cases h9))
  (k_with "MINE ca" => ((case zkA => exact rfl); (case zkF => exact rfl); (case zkK => first | exact rfl | assumption)))
  (k_with "MINE cs" => ((case zk6 => k_is); (case zk7 => k_is); (case zk8 => ktr_room); (case zk9 => exact BindsTo.of_eq rfl); k_extra "MINE c3"))
  (k_with "MINE c3" => ((case zc2 => exact rfl); (case zc3 => exact rfl); (case zc4 => exact rfl)))
  (k_with "MINE k5" => ((case zk1 => k_asm); (case zk2 => k_asm); (case zk3 => k_asm); (case zk4 => k_asm); (case zk5 => k_asm)))
  (k_with "MINE a7" => ((case ze1 => assumption); (case ze2 => assumption); (case ze3 => assumption); (case ze4 => assumption); (case ze5 => assumption); (case ze6 => assumption); (case ze7 => assumption)))
  (k_with "MINE pl" => ((case zc5 => decide); (case zkB => exact locs rfl)))
  (k_with "MINE ce" => ((case zkB => exact rfl); (case zkD => decide +kernel)))
  (k_with "MINE fold" => ((try dsimp only); (try k_fold)))
  (k_with "MINE end" => (k_sweep; (try dsimp only); (try k_fold)))
  (k_with "MINE ent" => (k_whole; intro g' L' h' FG' F' N' B' X' T'; (try (have hlN := Fr.lst FG' (by assumption))); (try dsimp only); (try k_lift B'); (try k_fold)))
  (k_with "MINE enter" => ((refine' enterR ?ze1 ?ze2 ?ze3 ?ze4 ?ze5 ?ze6 ?zkA ?zkF ?zkK ?zk6 ?zk7 ?zk8 ?zk9 ?zkB ?ze7 ?_ ?zc2 ?zc3 ?zc4 ?zc5); k_extra "MINE a7"; k_extra "MINE ca"; k_extra "MINE cs"; k_extra "MINE pl"; k_whole; intro g' L' h' F' N' B' X' T' l1 hrest' st'; (try dsimp only); (try k_lift B'); (try k_fold)))
  (k_with "MINE enterC" => ((refine' enterRC ?ze1 ?ze2 ?ze3 ?ze4 ?ze5 ?ze6 ?zkA ?zkF ?zkK ?zk6 ?zk7 ?zk8 ?zk9 ?zkB ?zkD ?ze7 ?_ ?zc2 ?zc3 ?zc4); k_extra "MINE a7"; k_extra "MINE ca"; k_extra "MINE cs"; k_extra "MINE ce"; k_whole; intro g' L' h' tk' cells' F' N' Y' B' X' T' l1 hrest' st'; k_cells Y'; (try simp only [List.cons_append, List.nil_append] at N'); (try dsimp only); (try k_lift B'); (try k_fold)))
  (k_with "M units_room" => (have hcL9 := cLine_is; (try simp only [units_in1, units_deeper, Around.mark_units, units_caller]); (try dsimp only [ktrTop]); omega))
  (k_with "MINE room" => first | decide | ((try simp only [depth_in1, depth_deeper, units_in1, units_deeper, Around.mark_units]); (try dsimp only [ktrTop]); omega))
  (k_with "M binaryOp FloorDiv int int" => (k_here; (with_reducible refine floordiv_int ?zne ?_ (Or.inl (noPy ?zh1 ?zh2))); (case zne => omega); (case zh1 => omega); (case zh2 => omega)))
  (k_with "M callWith ref nil nil" => (k_here; k_dflt (refine' callWith_K ?zk1 ?zk2 ?_; (case zk1 => k_asm); (case zk2 => k_is); k_whole)))
  (k_with "M call ref" => k_dflt (k_here; refine wpAny_call ?_; first | ((refine' code_def ?zk1 ?zk2 ?zk3 ?zk4 ?zk5 ?zkA ?zkF ?zkK ?zk6 ?zk7 ?zk8 ?zk9 ?zkB ?_ ?zc2 ?zc3 ?zc4 ?zc5); k_extra "MINE ca"; k_extra "MINE k5"; k_extra "MINE cs"; k_extra "MINE pl"; k_extra "MINE ent") | ((refine' code_defC ?zk1 ?zk2 ?zk3 ?zk4 ?zk5 ?zkA ?zkF ?zkK ?zk6 ?zk7 ?zk8 ?zk9 ?zkB ?zkD ?_ ?zc2 ?zc3 ?zc4); k_extra "MINE ca"; k_extra "MINE k5"; k_extra "MINE cs"; k_extra "MINE ce"; k_whole; intro g' L' h' tk' cells' FG' F' N' Y' B' X' T' l1; (try (have hlN := Fr.lst FG' (by assumption))); k_cells Y'; (try simp only [List.cons_append, List.nil_append] at N'); (try dsimp only); (try k_lift B'); (try k_fold))))
  (k_with "M call ref" => k_dflt (k_here; kn_here; refine wpAny_call ?_; (refine' kla_code ?zk1 ?zk2 ?zk3 ?zk4 ?zk5 ?zkA ?zkF ?zkK ?zk6 ?zk7 ?zk8 ?zk9 ?zkB ?_ ?zc2 ?zc3 ?zc4 ?zc5); k_extra "MINE ca"; k_extra "MINE k5"; (case zk6 => k_mem); (case zk7 => exact codeRec_news (by k_asm) (by k_mem) (by assumption) (by assumption)); (case zk8 => ktr_room); (case zk9 => exact rfl); k_extra "MINE c3"; k_extra "MINE pl"; k_extra "MINE ent"))
  (k_with "MINE std" => ((case zB => k_asm); (case zF => k_asm); (case zX => k_asm); (case zN => k_asm); (case zT => k_asm); (case zk => first | exact rfl | assumption); (case zd => k_extra "MINE room"); (case zu => k_extra "MINE room")))
  (k_with "MINE b4" => ((case zb0 => k_extra "MINE bd"); (case zb1 => k_extra "MINE bd"); (case zb2 => k_extra "MINE bd"); (case zb3 => k_extra "MINE bd")))
  (k_with "MINE b6" => (k_extra "MINE b4"; (case zb4 => k_extra "MINE bd"); (case zb5 => k_extra "MINE bd")))
  (k_with "MINE bd" => assumption)
  (k_with "MINE nz" => ((case zhb => k_extra "MINE n0"); (case zh1 => k_extra "MINE n0"); (case zh2 => k_extra "MINE n0")))
  (k_with "MINE n0" => first | decide | assumption | omega)
  (k_with "MINE rv" => first | ((refine' RdV.fr ?zvF ?zvl ?zvv ?zvk ?zvx ?zvd); (case zvx => exact rfl); (case zvF => k_asm); (case zvl => exact rfl); (case zvv => exact rfl); (case zvk => first | exact rfl | assumption); (case zvd => decide)) | ((refine' RdV.glob ?zvF ?zvX ?zvT ?zve ?zvg ?zvk ?zvx ?zvd); (case zvx => exact rfl); (case zvF => k_asm); (case zvX => k_asm); (case zvT => k_asm); (case zve => k_is); (case zvg => exact rfl); (case zvk => first | exact rfl | assumption); (case zvd => decide)) | ((refine' RdV.cell ?zvN ?zvc ?zvm ?zvo ?zvk ?zvx ?zvd); (case zvx => exact rfl); (case zvN => k_asm); (case zvc => exact rfl); (case zvm => k_mem); (case zvo => k_asm); (case zvk => first | exact rfl | assumption); (case zvd => decide)) | ((refine' RdV.free ?zvN ?zvc ?zvm ?zvo ?zvk ?zvx ?zvd ?zvh); (case zvx => exact rfl); (case zvN => k_asm); (case zvc => exact rfl); (case zvm => k_mem); (case zvo => k_asm); (case zvk => first | exact rfl | assumption); (case zvd => decide); (case zvh => decide)) | ((refine' RdV.own ?zvN ?zvm ?zvC ?zvv ?zvk ?zvx ?zvd); (case zvx => exact rfl); (case zvN => k_asm); (case zvm => k_mem); (case zvC => assumption); (case zvv => first | assumption | exact rfl); (case zvk => first | exact rfl | assumption); (case zvd => decide)))
  (k_with "MINE rds" => first | ((fail_if_success (with_reducible show Rd _ _ _)); (fail_if_success (with_reducible show IntMulOk _ _)); (fail_if_success (with_reducible show _ ≠ _))) | k_extra "MINE rd" | ((with_reducible show IntMulOk _ _); mul_fits) | ((with_reducible show _ ≠ _); first | decide | omega))
  (k_with "MINE rd" => first | exact Rd.const | ((refine' Rd.mul ?_ ?_ ?_) <;> k_extra "MINE rds") | ((refine' Rd.add ?_ ?_) <;> k_extra "MINE rds") | ((refine' Rd.sub ?_ ?_) <;> k_extra "MINE rds") | ((refine' Rd.neg ?_) <;> k_extra "MINE rds") | ((refine' Rd.mod ?_ ?_ ?_) <;> k_extra "MINE rds") | ((refine' Rd.item ?zrn ?zrl ?zrk ?zri); (case zrn => k_extra "MINE rv"); (case zrl => is_list); (case zrk => decide); (case zri => exact rfl)) | ((refine' Rd.atN ?zrn ?zrl ?zr2 ?zrk ?zri); (case zrn => k_extra "MINE rv"); (case zr2 => k_extra "MINE rd"); (case zrl => is_list); (case zrk => decide); (case zri => exact rfl)) | ((refine' Rd.atB ?zsn ?zsl ?zs2 ?zsk ?zsi); (case zsn => k_extra "MINE rv"); (case zs2 => k_extra "MINE rd"); (case zsl => is_list); (case zsk => decide); (case zsi => exact rfl)) | ((refine' Rd.of ?zrv); (case zrv => k_extra "MINE rv")))
  (k_with "M eval BinOp" => (k_here; (with_reducible show wpAny _ _ (eval (Expr.BinOp _ _ _ _) _) _ _ _); k_dflt ((refine' Rd.use ?zrR ?_); (case zrR => k_extra "MINE rd"); k_whole; intro t9 k9; k_extra "MINE fold")))
  (k_with "M eval Subscript" => (k_here; (with_reducible show wpAny _ _ (eval (Expr.Subscript (Expr.Name _ _) _ _) _) _ _ _); k_dflt ((refine' Rd.use ?zrR ?_); (case zrR => k_extra "MINE rd"); k_whole; intro t9 k9; k_extra "MINE fold")))
  (k_with "M eval Call" => (k_here; (with_reducible show wpAny _ _ (eval (Expr.Call (Expr.Name _ _) [_] [] _) _) _ _ _); k_dflt (first | ((refine' call_v ?zcf ?zca0 ?zcF ?zcX ?zcK ?_); (case zcf => k_extra "MINE rv"); (case zca0 => k_extra "MINE rv"); (case zcF => k_asm); (case zcX => k_asm); (case zcK => k_is); k_whole; intro k9; k_extra "MINE fold") | ((refine' call_i ?zcf ?zca0 ?zcF ?zcX ?zcK ?_); (case zcf => k_extra "MINE rv"); (case zca0 => k_extra "MINE rd"); (case zcF => k_asm); (case zcX => k_asm); (case zcK => k_is); k_whole; intro t9 k9; k_extra "MINE fold"))))
  (k_with "M eval Call" => (k_here; (with_reducible show wpAny _ _ (eval (Expr.Call (Expr.Name _ _) [_, _] [] _) _) _ _ _); k_dflt (first | ((refine' call_vv ?zcf ?zca0 ?zca1 ?zcF ?zcX ?zcK ?_); (case zcf => k_extra "MINE rv"); (case zca0 => k_extra "MINE rv"); (case zca1 => k_extra "MINE rv"); (case zcF => k_asm); (case zcX => k_asm); (case zcK => k_is); k_whole; intro k9; k_extra "MINE fold") | ((refine' call_vi ?zcf ?zca0 ?zca1 ?zcF ?zcX ?zcK ?_); (case zcf => k_extra "MINE rv"); (case zca0 => k_extra "MINE rv"); (case zca1 => k_extra "MINE rd"); (case zcF => k_asm); (case zcX => k_asm); (case zcK => k_is); k_whole; intro t9 k9; k_extra "MINE fold") | ((refine' call_ii ?zcf ?zca0 ?zca1 ?zcF ?zcX ?zcK ?_); (case zcf => k_extra "MINE rv"); (case zca0 => k_extra "MINE rd"); (case zca1 => k_extra "MINE rd"); (case zcF => k_asm); (case zcX => k_asm); (case zcK => k_is); k_whole; intro t9 u9 k9; k_extra "MINE fold"))))
  (k_with "M eval Call" => (k_here; (with_reducible show wpAny _ _ (eval (Expr.Call (Expr.Name _ _) [_, _, _] [] _) _) _ _ _); k_dflt (first | ((refine' call_vii ?zcf ?zca0 ?zca1 ?zca2 ?zcF ?zcX ?zcK ?_); (case zcf => k_extra "MINE rv"); (case zca0 => k_extra "MINE rv"); (case zca1 => k_extra "MINE rd"); (case zca2 => k_extra "MINE rd"); (case zcF => k_asm); (case zcX => k_asm); (case zcK => k_is); k_whole; intro t9 u9 k9; k_extra "MINE fold"))))
  (k_with "M call ref" => k_dflt (k_here; (with_reducible show wpAny _ _ (PySem.call (Value.ref 54) [Value.int _ _, Value.int _ _]) _ _ _); (refine' use_int (div_gives ?zhb ?zh1 ?zh2) ?zB ?zF ?zX ?zN ?zT ?zk ?zd ?zu ?_); k_extra "MINE std"; k_extra "MINE nz"; k_whole; intro t9 h9 tk9 F9 N9; k_extra "MINE end"))
  (k_with "M call ref" => k_dflt (k_here; (with_reducible show wpAny _ _ (PySem.call (Value.ref 234) [Value.int _ _, Value.int _ _]) _ _ _); (refine' use_int (near_gives ?zhb ?zh1 ?zh2) ?zB ?zF ?zX ?zN ?zT ?zk ?zd ?zu ?_); k_extra "MINE std"; k_extra "MINE nz"; k_whole; intro t9 h9 tk9 F9 N9; k_extra "MINE end"))
  (k_with "M call ref" => k_dflt (k_here; (with_reducible show wpAny _ _ (PySem.call (Value.ref 96) [Value.int _ _, Value.int _ _]) _ _ _); (refine' use_int (mq_gives ?zhb ?zh1 ?zh2) ?zB ?zF ?zX ?zN ?zT ?zk ?zd ?zu ?_); k_extra "MINE std"; k_extra "MINE nz"; k_whole; intro t9 h9 tk9 F9 N9; k_extra "MINE end"))
  (k_with "MINE pk" => first | ((refine' Pk.head ?za); (case za => k_all)) | ((refine' Pk.tail ?za ?zb); (case za => k_ne); (case zb => k_extra "MINE pk")))
  (k_with "MINE p2" => ((case P1 => k_extra "MINE pk"); (case P2 => k_extra "MINE pk")))
  (k_with "MINE dec" => first | decide | omega)
  (k_with "M call ref" => k_dflt (k_here; (with_reducible show wpAny _ _ (PySem.call (Value.ref 220) [Value.ref _, Value.int _ _]) _ _ _); (refine' use_deck (draw_gives' ?zD ?zhb ?zh1 ?zh2) ?zB ?zF ?zX ?zN ?P1 ?P2 ?zT ?zk ?zd ?zu ?_); (case zD => assumption); k_extra "MINE std"; k_extra "MINE p2"; (case zhb => k_extra "MINE dec"); (case zh1 => k_extra "MINE dec"); (case zh2 => k_extra "MINE dec"); k_whole; intro r9 t9 o9 l9 h9 tk9 R9 D9 F9 N9 dl9 dd9 dn9; k_extra "MINE end"))
  (k_with "M call ref" => k_dflt (k_here; (with_reducible show wpAny _ _ (PySem.call (Value.ref 227) [Value.ref _, Value.ref _]) _ _ _); (refine' use_deck (pick_gives ?zD ?zh1 ?zhx ?zhI ?zh0 ?zh2) ?zB ?zF ?zX ?zN ?P1 ?P2 ?zT ?zk ?zd ?zu ?_); (case zD => assumption); k_extra "MINE std"; k_extra "MINE p2"; (case zhx => k_mem); (case zhI => l_ints); (case zh0 => k_extra "MINE dec"); (case zh1 => k_extra "MINE dec"); (case zh2 => k_extra "MINE dec"); k_whole; intro r9 t9 o9 l9 h9 tk9 R9 D9 F9 N9 dl9 dd9 dn9; k_extra "MINE end"))
  (k_with "MINE lit" => (k_here; (with_reducible show wpAny _ _ (subscriptTail _ _ (Value.ref _) (Value.int _ _)) _ _ _); (with_unfolding_all refine' item_litK ?zk1 ?zk2 ?zk3 ?zk4 ?_ ?zk6; (case zk1 => is_list); (case zk2 => decide); (case zk3 => decide); (case zk4 => rfl); (case zk6 => with_unfolding_all rfl); k_whole)))
  (k_with "M subscriptTail Name Constant ref int" => k_dflt (k_extra "MINE lit"))
  (k_with "M subscriptTail Name Name ref int" => k_dflt (k_extra "MINE lit"))
  (k_with "M subscriptTail Name BinOp ref int" => k_dflt (k_extra "MINE lit"))
  trivial
variable {w : World} {p : Program} {loose : List Str} {mean : ExcName → Option Value} {mg mb : Str → Option Value}
section
theorem bd_mul2 {a b : Int} (h : Bd 2000000000 a) : IntMulOk a b := PySem.IntMulOk.of_left (PySem.intBits_le_64 (by unfold Bd at h; omega) (by unfold Bd at h; omega))
theorem bd_prod {a b : Int} (h : Bd 2000000000 a) (k : Bd 2000000000 b) : -4000000000000000000 ≤ a * b ∧ a * b ≤ 4000000000000000000 := by
  unfold Bd at h k
  have h1 : a.natAbs ≤ 2000000000 := by omega
  have h2 : b.natAbs ≤ 2000000000 := by omega
  have h3 := Nat.mul_le_mul h1 h2
  rw [← Int.natAbs_mul] at h3
  omega
theorem bne_no {α : Type} [BEq α] [LawfulBEq α] (x : α) : ¬ ((x != x) = true) := by simp
theorem bd_det {a b c d : Int} (h0 : Bd 2000000000 a) (h1 : Bd 2000000000 b) (h2 : Bd 2000000000 c) (h3 : Bd 2000000000 d) : -(2 ^ 100) < a * d - b * c ∧ a * d - b * c < 2 ^ 100 := by
  have p1 := bd_prod h0 h3
  have p2 := bd_prod h1 h2
  omega
section
variable {prog : Program} {w : World} {A₀ A : Around} {s : Shared} {base h₀ : Heap} {outer : List Env} {L : Addr} {m mg mb : Str → Option Value} {env : Env} {rest : List (Addr × Obj)} {K : Frag}
  {p : Program} {loose : List Str} {mean : ExcName → Option Value}
  {R : Result → Shared → Prop} {name qual : Str} {params : Arguments} {body : List Stmt} {scope : Scope} {dV kV doc pm cdv ct oc : Value} {an od : Option Addr} {osl : Array (Option Value)} {f : Addr} {args : Args} {binds : List (Str × Value)}
  {Post : Value → List (Addr × Obj) → Prop}
/-- as enterR, for a def that is handed objects which it only reads: what stands at the call stands in its ground -/
theorem enterL (B : Below A₀ base outer h₀) (F : Fr h₀ L s.heap m) (X₀ : K.In h₀) (N : News h₀ L s.heap rest)
    (T : Top p loose mean mg mb h₀) (hA : A.frames = some (env :: outer)) (hf : env.frame = some L) (hke : env.scope.kind = .function)
    (ho : K.lookup f = some ⟨oc, od, .func (fnOf name qual params body scope dV kV doc pm an cdv ct), osl⟩) (hcd : codeIn K cdv qual = true) (hroom : A.depth < recursionLimit)
    (hbind : BindsTo s (fnOf name qual params body scope dV kV doc pm an cdv ct) args binds) (hloc : ∀ y ∈ binds, scope.names.lookup y.1 = some .local)
    (hR : ∀ v sel' h' tk', Fr h₀ L h' m → News h₀ L h' (sel' ++ rest) → (∀ p ∈ rest, ∀ q ∈ sel', p.1 ≠ q.1) → Post v sel' → R (.ok (.ret v)) { s with heap := h', toks := tk' })
    (h : ∀ g L' h₁, Fr g L' h₁ (fun y => binds.reverse.lookup y) → News g L' h₁ [] → Below A base (env :: outer) g → K.In g → Top p loose mean mg mb g →
      (∀ b o, s.heap.get? b = some o → g.get? b = some o) →
      wpAny (model prog w) (A.deeper (envOf qual scope L' f cdv)) (execs body (envOf qual scope L' f cdv))
        (fun fl s' => BodyEnd g L' s Post (match fl with | .ret v => v | _ => .none) s') (fun _ _ => False)
        { s with heap := h₁, toks := s.toks + binds.length })
    (hco : scope.isCoroutine = false) (hgen : scope.isGenerator = false) (hk : scope.kind = .function)
    (hcell : ∀ x ∈ scope.names, x.2 ≠ .cell) : codeAny (model prog w) A (.call (.ref f) args) R s := by
  obtain ⟨FG, BG, st, lv⟩ := groundX (R := R) (news := []) B F (fun _ hp => nomatch hp) hA hf hke
  have hup : ∀ b o, s.heap.get? b = some o → (hideAll s.heap (([] : List (Addr × Obj)).map (·.1))).get? b = some o := fun b o e => hideAll_get _ e nofun
  refine codeAny_call_def (fd := fnOf name qual params body scope dV kV doc pm an cdv ct) (body := body) (binds := binds) hroom ((X₀.keeps F.keep) _ _ ho) rfl (T.nolimit.keeps F.keep)
    (codeRec_of (X₀.keeps F.keep) hcd) rfl hbind hcell hloc (fun h₁ hns hk₁ => ?_) hco hgen hk
  refine wpAny_mono (h _ s.heap.objs.size h₁ ⟨hns, fun b o e => hk₁ b o (of_hideAll _ e), Nat.le_of_eq (hideAll_size _ _)⟩
    (fun _ hp => nomatch hp) BG (X₀.keeps st) (T.keeps st) hup) (fun fl s' hl => ?_) fun _ _ y => y.elim
  obtain ⟨m', sel', h', tk', rfl, F', N', P⟩ := hl
  refine lv _ _ ⟨_, _, _, F', N', fun Fr' Nr' => hR _ sel' _ _ Fr' (fun q hq => ?_) (fun q hq r hr e => ?_) P⟩
  · rcases List.mem_append.mp hq with hq | hq
    · exact Nr' q hq
    · exact ⟨F'.keep _ _ (hup _ _ (N q hq).1), (N q hq).2⟩
  · have h1 := (N' r hr).2.2
    rw [← e, hup _ _ (N q hq).1] at h1
    cases h1
end
/-- what a def gives back that reads objects (R says what it reads) and makes new ones -/
def GivesL (w : World) (p : Program) (loose : List Str) (mean : ExcName → Option Value) (mg mb : Str → Option Value) (f : Addr) (k : Nat) (vs : List Value) (R : Heap → Prop) (Post : Value → List (Addr × Obj) → Prop) : Prop :=
  ∀ (rest : List (Addr × Obj)) (dp un : Nat) (gd : Option (List Code)) (cn : Str) (cs : Scope) (a : Addr) (ccd : Value) (cl : List (Str × Addr)) (outer : List Env) (A₀ : Around) (base h₀ : Heap) (L : Addr) (m : Str → Option Value) (s : Shared) (Q E : Value → Shared → Prop),
    Below A₀ base outer h₀ → Fr h₀ L s.heap m → (hd.heap_39 w.params).In h₀ → News h₀ L s.heap rest → R s.heap → Top p loose mean mg mb h₀ → cs.kind = .function →
    dp + k ≤ 400 → un + 8 * k ≤ 1000 →
    (∀ v sel' h' tk', Fr h₀ L h' m → News h₀ L h' (sel' ++ rest) → (∀ p ∈ rest, ∀ q ∈ sel', p.1 ≠ q.1) → Post v sel' → Q v { s with heap := h', toks := tk' }) →
    wpAny (model PySem.Challenge.rw_nt0486_01.row.prog w) (ktrTop dp un gd cn cs L a ccd cl outer) (call (.ref f) vs) Q E s
theorem isList_up {g h : Heap} {x : Addr} {arr : Array Value} (hl : h.IsList x arr) (k : ∀ b o, h.get? b = some o → g.get? b = some o) : g.IsList x arr := by
  obtain ⟨o, ho, r⟩ := hl
  exact ⟨o, k _ _ ho, r⟩
/-- the pair that a def of two ints gives -/
abbrev tup2 (i j : Int) (t u : Tok) : Obj := { cls := .type "tuple", data := .seq #[.int i t, .int j u] }
section
variable {f : Addr} {k : Nat} {vs : List Value} {R : Heap → Prop} {dp un : Nat} {gd : Option (List Code)} {cn : Str} {cs : Scope} {a : Addr} {ccd : Value} {cl : List (Str × Addr)} {outer : List Env} {A₀ : Around} {base h₀ : Heap} {L : Addr} {m : Str → Option Value} {s : Shared} {Q E : Value → Shared → Prop} {rest : List (Addr × Obj)}
theorem useL_int {x : Int} (G : GivesL w p loose mean mg mb f k vs R (fun v sel' => sel' = [] ∧ ∃ t, v = .int x t))
    (B : Below A₀ base outer h₀) (F : Fr h₀ L s.heap m) (X : (hd.heap_39 w.params).In h₀) (N : News h₀ L s.heap rest) (hr : R s.heap) (T : Top p loose mean mg mb h₀) (hk : cs.kind = .function)
    (hd : dp + k ≤ 400) (hu : un + 8 * k ≤ 1000)
    (ret : ∀ t h' tk', Fr h₀ L h' m → News h₀ L h' rest → Q (.int x t) { s with heap := h', toks := tk' }) :
    wpAny (model PySem.Challenge.rw_nt0486_01.row.prog w) (ktrTop dp un gd cn cs L a ccd cl outer) (call (.ref f) vs) Q E s :=
  G rest dp un gd cn cs a ccd cl outer A₀ base h₀ L m s Q E B F X N hr T hk hd hu fun v sel' h' tk' F' N' _ P => by
    obtain ⟨rfl, t, rfl⟩ := P
    exact ret t h' tk' F' N'
theorem useL_bool {x : Bool} (G : GivesL w p loose mean mg mb f k vs R (fun v sel' => sel' = [] ∧ v = .bool x))
    (B : Below A₀ base outer h₀) (F : Fr h₀ L s.heap m) (X : (hd.heap_39 w.params).In h₀) (N : News h₀ L s.heap rest) (hr : R s.heap) (T : Top p loose mean mg mb h₀) (hk : cs.kind = .function)
    (hd : dp + k ≤ 400) (hu : un + 8 * k ≤ 1000)
    (ret : ∀ h' tk', Fr h₀ L h' m → News h₀ L h' rest → Q (.bool x) { s with heap := h', toks := tk' }) :
    wpAny (model PySem.Challenge.rw_nt0486_01.row.prog w) (ktrTop dp un gd cn cs L a ccd cl outer) (call (.ref f) vs) Q E s :=
  G rest dp un gd cn cs a ccd cl outer A₀ base h₀ L m s Q E B F X N hr T hk hd hu fun v sel' h' tk' F' N' _ P => by
    obtain ⟨rfl, rfl⟩ := P
    exact ret h' tk' F' N'
theorem useL_tup {i j : Int} (G : GivesL w p loose mean mg mb f k vs R (fun v sel' => ∃ z t u, sel' = [(z, tup2 i j t u)] ∧ v = .ref z))
    (B : Below A₀ base outer h₀) (F : Fr h₀ L s.heap m) (X : (hd.heap_39 w.params).In h₀) (N : News h₀ L s.heap rest) (hr : R s.heap) (T : Top p loose mean mg mb h₀) (hk : cs.kind = .function)
    (hd : dp + k ≤ 400) (hu : un + 8 * k ≤ 1000)
    (ret : ∀ z t u h' tk', Fr h₀ L h' m → News h₀ L h' ((z, tup2 i j t u) :: rest) → (∀ p ∈ rest, p.1 ≠ z) → Q (.ref z) { s with heap := h', toks := tk' }) :
    wpAny (model PySem.Challenge.rw_nt0486_01.row.prog w) (ktrTop dp un gd cn cs L a ccd cl outer) (call (.ref f) vs) Q E s :=
  G rest dp un gd cn cs a ccd cl outer A₀ base h₀ L m s Q E B F X N hr T hk hd hu fun v sel' h' tk' F' N' hdis P => by
    obtain ⟨z, t, u, rfl, rfl⟩ := P
    exact ret z t u h' tk' F' N' (fun p hp => hdis p hp _ (.head _))
theorem useL_list {ns : List Int} (G : GivesL w p loose mean mg mb f k vs R (fun v sel' => ∃ z us q, sel' = [(z, W.listOf (List.toArray us) q)] ∧ v = .ref z ∧ IntsAre us ns))
    (B : Below A₀ base outer h₀) (F : Fr h₀ L s.heap m) (X : (hd.heap_39 w.params).In h₀) (N : News h₀ L s.heap rest) (hr : R s.heap) (T : Top p loose mean mg mb h₀) (hk : cs.kind = .function)
    (hd : dp + k ≤ 400) (hu : un + 8 * k ≤ 1000)
    (ret : ∀ z us q h' tk', IntsAre us ns → Fr h₀ L h' m → News h₀ L h' ((z, W.listOf us.toArray q) :: rest) → (∀ p ∈ rest, p.1 ≠ z) → Q (.ref z) { s with heap := h', toks := tk' }) :
    wpAny (model PySem.Challenge.rw_nt0486_01.row.prog w) (ktrTop dp un gd cn cs L a ccd cl outer) (call (.ref f) vs) Q E s :=
  G rest dp un gd cn cs a ccd cl outer A₀ base h₀ L m s Q E B F X N hr T hk hd hu fun v sel' h' tk' F' N' hdis P => by
    obtain ⟨z, us, q, rfl, rfl, hI⟩ := P
    exact ret z us q h' tk' hI F' N' (fun p hp => hdis p hp _ (.head _))
theorem useL_list6 {n0 n1 n2 n3 n4 n5 : Int} (G : GivesL w p loose mean mg mb f k vs R (fun v sel' => ∃ z us q, sel' = [(z, W.listOf (List.toArray us) q)] ∧ v = .ref z ∧ IntsAre us [n0, n1, n2, n3, n4, n5]))
    (B : Below A₀ base outer h₀) (F : Fr h₀ L s.heap m) (X : (hd.heap_39 w.params).In h₀) (N : News h₀ L s.heap rest) (hr : R s.heap) (T : Top p loose mean mg mb h₀) (hk : cs.kind = .function)
    (hd : dp + k ≤ 400) (hu : un + 8 * k ≤ 1000)
    (ret : ∀ z t0 t1 t2 t3 t4 t5 q h' tk', Fr h₀ L h' m → News h₀ L h' ((z, W.listOf #[.int n0 t0, .int n1 t1, .int n2 t2, .int n3 t3, .int n4 t4, .int n5 t5] q) :: rest) → (∀ p ∈ rest, p.1 ≠ z) → Q (.ref z) { s with heap := h', toks := tk' }) :
    wpAny (model PySem.Challenge.rw_nt0486_01.row.prog w) (ktrTop dp un gd cn cs L a ccd cl outer) (call (.ref f) vs) Q E s :=
  useL_list G B F X N hr T hk hd hu fun z us q h' tk' hI F' N' off => by
    cases hI with | cons _ t1 hI => cases hI with | cons _ t2 hI => cases hI with | cons _ t3 hI => cases hI with | cons _ t4 hI => cases hI with | cons _ t5 hI => cases hI with | cons _ t6 hI => cases hI with | nil =>
    exact ret z t1 t2 t3 t4 t5 t6 q h' tk' F' N' off
end
end
theorem say_15 : True := by
  (k_with "MINE enterL" => ((refine' enterL ?ze1 ?ze2 ?ze3 ?ze4 ?ze5 ?zkA ?zkF ?zkK ?zk6 ?zk7 ?zk8 ?zk9 ?zkB ?ze6 ?_ ?zc2 ?zc3 ?zc4 ?zc5); (case ze1 => assumption); (case ze2 => assumption); (case ze3 => assumption); (case ze4 => assumption); (case ze5 => assumption); (case ze6 => assumption); k_extra "MINE ca"; k_extra "MINE cs"; k_extra "MINE pl"; k_whole; intro g' L' h' F' N' B' X' T' st'; (try dsimp only); (try k_lift B'); (try k_fold)))
  (k_with "M mul_fits" => exact bd_mul2 (by assumption))
  trivial
variable {w : World} {p : Program} {loose : List Str} {mean : ExcName → Option Value} {mg mb : Str → Option Value}
section
theorem det_gives {x : Addr} {a0 a1 a2 a3 a4 a5 : Int} {t0 t1 t2 t3 t4 t5 : Tok}
    (h0 : Bd 2000000000 a0) (h1 : Bd 2000000000 a1) (h2 : Bd 2000000000 a2) (h3 : Bd 2000000000 a3) :
    GivesL w p loose mean mg mb 159 1 [.ref x] (fun h => h.IsList x #[.int a0 t0, .int a1 t1, .int a2 t2, .int a3 t3, .int a4 t4, .int a5 t5]) (fun v sel' => sel' = [] ∧ ∃ t, v = .int (a0 * a3 - a1 * a2) t) := by
  unfold GivesL
  k_fill
  intro rest dp un gd cn cs a ccd cl outer A₀ base h₀ L m s Q E B F X N hr T hk hd hu hret
  have hrl9 : 500 < recursionLimit := by decide
  refine wpAny_call ?_
  k_dflt (walk_at "MINE enterL")
  have hl9 := isList_up hr (by assumption)
  k_steps
  exact bodyEnd_of rfl (by assumption) News.nil ⟨rfl, vint rfl⟩
end
theorem say_16 : True := by
  (k_with "M call ref" => k_dflt (k_here; (with_reducible show wpAny _ _ (PySem.call (Value.ref 159) [Value.ref _]) _ _ _); (refine' useL_int (det_gives ?zb0 ?zb1 ?zb2 ?zb3) ?zB ?zF ?zX ?zN ?zR ?zT ?zk ?zd ?zu ?_); k_extra "MINE std"; (case zR => is_list); k_extra "MINE b4"; k_whole; intro t9 h9 tk9 F9 N9; k_extra "MINE end"))
  (k_with "M ite" => (k_here; k_dflt (first | refine ite_neg (bne_no _) ?_ | refine ite_pos (beq_iff_eq.mpr (by with_reducible assumption)) ?_ | refine ite_neg (fun e => absurd (beq_iff_eq.mp e) (by with_reducible assumption)) ?_)))
  (k_with "M exec Raise" => (exfalso; first | contradiction | (simp only [decide_eq_true_eq, decide_eq_false_iff_not] at *; contradiction)))
  trivial
variable {w : World} {p : Program} {loose : List Str} {mean : ExcName → Option Value} {mg mb : Str → Option Value}
section
theorem sing_gives {x : Addr} {a0 a1 a2 a3 a4 a5 : Int} {t0 t1 t2 t3 t4 t5 : Tok}
    (h0 : Bd 2000000000 a0) (h1 : Bd 2000000000 a1) (h2 : Bd 2000000000 a2) (h3 : Bd 2000000000 a3) :
    GivesL w p loose mean mg mb 166 2 [.ref x] (fun h => h.IsList x #[.int a0 t0, .int a1 t1, .int a2 t2, .int a3 t3, .int a4 t4, .int a5 t5]) (fun v sel' => sel' = [] ∧ v = .bool (decide (a0 * a3 - a1 * a2 = 0))) := by
  unfold GivesL
  k_fill
  intro rest dp un gd cn cs a ccd cl outer A₀ base h₀ L m s Q E B F X N hr T hk hd hu hret
  have hrl9 : 500 < recursionLimit := by decide
  refine wpAny_call ?_
  k_dflt (walk_at "MINE enterL")
  have hl9 := isList_up hr (by assumption)
  k_steps
  exact bodyEnd_of rfl (by assumption) News.nil ⟨rfl, rfl⟩
theorem need_gives {x : Addr} {a0 a1 a2 a3 a4 a5 : Int} {t0 t1 t2 t3 t4 t5 : Tok}
    (h0 : Bd 2000000000 a0) (h1 : Bd 2000000000 a1) (h2 : Bd 2000000000 a2) (h3 : Bd 2000000000 a3) (hz : a0 * a3 - a1 * a2 ≠ 0) :
    GivesL w p loose mean mg mb 173 2 [.ref x] (fun h => h.IsList x #[.int a0 t0, .int a1 t1, .int a2 t2, .int a3 t3, .int a4 t4, .int a5 t5]) (fun v sel' => sel' = [] ∧ ∃ t, v = .int (a0 * a3 - a1 * a2) t) := by
  unfold GivesL
  k_fill
  intro rest dp un gd cn cs a ccd cl outer A₀ base h₀ L m s Q E B F X N hr T hk hd hu hret
  have hrl9 : 500 < recursionLimit := by decide
  refine wpAny_call ?_
  k_dflt (walk_at "MINE enterL")
  have hl9 := isList_up hr (by assumption)
  k_steps
  exact bodyEnd_of rfl (by assumption) News.nil ⟨rfl, vint rfl⟩
theorem delta_gives {x : Addr} {a0 a1 a2 a3 a4 a5 X Y : Int} {t0 t1 t2 t3 t4 t5 : Tok} {tX tY : Tok}
    (h0 : Bd 2000000000 a0) (h1 : Bd 2000000000 a1) (h2 : Bd 2000000000 a2) (h3 : Bd 2000000000 a3) :
    GivesL w p loose mean mg mb 194 3 [.ref x, .int X tX, .int Y tY] (fun h => h.IsList x #[.int a0 t0, .int a1 t1, .int a2 t2, .int a3 t3, .int a4 t4, .int a5 t5]) (fun v sel' => ∃ z t u, sel' = [(z, tup2 (nearF (a0 * X + a2 * Y) 1000000) (nearF (a1 * X + a3 * Y) 1000000) t u)] ∧ v = .ref z) := by
  unfold GivesL
  k_fill
  intro rest dp un gd cn cs a ccd cl outer A₀ base h₀ L m s Q E B F X N hr T hk hd hu hret
  have hrl9 : 500 < recursionLimit := by decide
  refine wpAny_call ?_
  k_dflt (walk_at "MINE enterL")
  have hl9 := isList_up hr (by assumption)
  k_steps
  exact bodyEnd_of rfl (by assumption) (by assumption) ⟨_, _, _, rfl, rfl⟩
theorem trans_gives {x : Addr} {a0 a1 a2 a3 a4 a5 X Y : Int} {t0 t1 t2 t3 t4 t5 : Tok} {tX tY : Tok}
    (h0 : Bd 2000000000 a0) (h1 : Bd 2000000000 a1) (h2 : Bd 2000000000 a2) (h3 : Bd 2000000000 a3) :
    GivesL w p loose mean mg mb 187 3 [.ref x, .int X tX, .int Y tY] (fun h => h.IsList x #[.int a0 t0, .int a1 t1, .int a2 t2, .int a3 t3, .int a4 t4, .int a5 t5]) (fun v sel' => ∃ z t u, sel' = [(z, tup2 (nearF (a0 * X + a2 * Y) 1000000 + a4) (nearF (a1 * X + a3 * Y) 1000000 + a5) t u)] ∧ v = .ref z) := by
  unfold GivesL
  k_fill
  intro rest dp un gd cn cs a ccd cl outer A₀ base h₀ L m s Q E B F X N hr T hk hd hu hret
  have hrl9 : 500 < recursionLimit := by decide
  refine wpAny_call ?_
  k_dflt (walk_at "MINE enterL")
  have hl9 := isList_up hr (by assumption)
  k_steps
  exact bodyEnd_of rfl (by assumption) (by assumption) ⟨_, _, _, rfl, rfl⟩
end
theorem say_17 : True := by
  (k_with "M call ref" => k_dflt (k_here; (with_reducible show wpAny _ _ (PySem.call (Value.ref 166) [Value.ref _]) _ _ _); (refine' useL_bool (sing_gives ?zb0 ?zb1 ?zb2 ?zb3) ?zB ?zF ?zX ?zN ?zR ?zT ?zk ?zd ?zu ?_); k_extra "MINE std"; (case zR => is_list); k_extra "MINE b4"; k_whole; intro h9 tk9 F9 N9; k_extra "MINE end"))
  (k_with "M call ref" => k_dflt (k_here; (with_reducible show wpAny _ _ (PySem.call (Value.ref 173) [Value.ref _]) _ _ _); (refine' useL_int (need_gives ?zb0 ?zb1 ?zb2 ?zb3 ?zhz) ?zB ?zF ?zX ?zN ?zR ?zT ?zk ?zd ?zu ?_); k_extra "MINE std"; (case zR => is_list); k_extra "MINE b4"; (case zhz => assumption); k_whole; intro t9 h9 tk9 F9 N9; k_extra "MINE end"))
  (k_with "M call ref" => k_dflt (k_here; (with_reducible show wpAny _ _ (PySem.call (Value.ref 194) [Value.ref _, Value.int _ _, Value.int _ _]) _ _ _); (refine' useL_tup (delta_gives ?zb0 ?zb1 ?zb2 ?zb3) ?zB ?zF ?zX ?zN ?zR ?zT ?zk ?zd ?zu ?_); k_extra "MINE std"; (case zR => is_list); k_extra "MINE b4"; k_whole; intro z9 t9 u9 h9 tk9 F9 N9 off9; k_extra "MINE end"))
  (k_with "M call ref" => k_dflt (k_here; (with_reducible show wpAny _ _ (PySem.call (Value.ref 187) [Value.ref _, Value.int _ _, Value.int _ _]) _ _ _); (refine' useL_tup (trans_gives ?zb0 ?zb1 ?zb2 ?zb3) ?zB ?zF ?zX ?zN ?zR ?zT ?zk ?zd ?zu ?_); k_extra "MINE std"; (case zR => is_list); k_extra "MINE b4"; k_whole; intro z9 t9 u9 h9 tk9 F9 N9 off9; k_extra "MINE end"))
  trivial
variable {w : World} {p : Program} {loose : List Str} {mean : ExcName → Option Value} {mg mb : Str → Option Value}
section
theorem invd_gives {x : Addr} {a0 a1 a2 a3 a4 a5 X Y : Int} {t0 t1 t2 t3 t4 t5 : Tok} {tX tY : Tok}
    (h0 : Bd 2000000000 a0) (h1 : Bd 2000000000 a1) (h2 : Bd 2000000000 a2) (h3 : Bd 2000000000 a3) (hz : a0 * a3 - a1 * a2 ≠ 0) :
    GivesL w p loose mean mg mb 201 4 [.ref x, .int X tX, .int Y tY] (fun h => h.IsList x #[.int a0 t0, .int a1 t1, .int a2 t2, .int a3 t3, .int a4 t4, .int a5 t5]) (fun v sel' => ∃ z t u, sel' = [(z, tup2 (nearF ((a3 * X - a2 * Y) * 1000000) (a0 * a3 - a1 * a2)) (nearF ((a0 * Y - a1 * X) * 1000000) (a0 * a3 - a1 * a2)) t u)] ∧ v = .ref z) := by
  unfold GivesL
  k_fill
  intro rest dp un gd cn cs a ccd cl outer A₀ base h₀ L m s Q E B F X N hr T hk hd hu hret
  have hrl9 : 500 < recursionLimit := by decide
  obtain ⟨hd1, hd2⟩ := bd_det h0 h1 h2 h3
  refine wpAny_call ?_
  k_dflt (walk_at "MINE enterL")
  have hl9 := isList_up hr (by assumption)
  k_steps
  exact bodyEnd_of rfl (by assumption) (by assumption) ⟨_, _, _, rfl, rfl⟩
end
theorem say_18 : True := by
  (k_with "M call ref" => k_dflt (k_here; (with_reducible show wpAny _ _ (PySem.call (Value.ref 201) [Value.ref _, Value.int _ _, Value.int _ _]) _ _ _); (refine' useL_tup (invd_gives ?zb0 ?zb1 ?zb2 ?zb3 ?zhz) ?zB ?zF ?zX ?zN ?zR ?zT ?zk ?zd ?zu ?_); k_extra "MINE std"; (case zR => is_list); k_extra "MINE b4"; (case zhz => assumption); k_whole; intro z9 t9 u9 h9 tk9 F9 N9 off9; k_extra "MINE end"))
  trivial
variable {w : World} {p : Program} {loose : List Str} {mean : ExcName → Option Value} {mg mb : Str → Option Value}
section
theorem invt_gives {x : Addr} {a0 a1 a2 a3 a4 a5 X Y : Int} {t0 t1 t2 t3 t4 t5 : Tok} {tX tY : Tok}
    (h0 : Bd 2000000000 a0) (h1 : Bd 2000000000 a1) (h2 : Bd 2000000000 a2) (h3 : Bd 2000000000 a3) (hz : a0 * a3 - a1 * a2 ≠ 0) :
    GivesL w p loose mean mg mb 208 5 [.ref x, .int X tX, .int Y tY] (fun h => h.IsList x #[.int a0 t0, .int a1 t1, .int a2 t2, .int a3 t3, .int a4 t4, .int a5 t5]) (fun v sel' => ∃ z t u, sel' = [(z, tup2 (nearF ((a3 * (X - a4) - a2 * (Y - a5)) * 1000000) (a0 * a3 - a1 * a2)) (nearF ((a0 * (Y - a5) - a1 * (X - a4)) * 1000000) (a0 * a3 - a1 * a2)) t u)] ∧ v = .ref z) := by
  unfold GivesL
  k_fill
  intro rest dp un gd cn cs a ccd cl outer A₀ base h₀ L m s Q E B F X N hr T hk hd hu hret
  have hrl9 : 500 < recursionLimit := by decide
  obtain ⟨hd1, hd2⟩ := bd_det h0 h1 h2 h3
  refine wpAny_call ?_
  k_dflt (walk_at "MINE enterL")
  have hl9 := isList_up hr (by assumption)
  k_steps
  exact bodyEnd_of rfl (by assumption) (by assumption) ⟨_, _, _, rfl, rfl⟩
theorem inv_gives {x : Addr} {a0 a1 a2 a3 a4 a5 : Int} {t0 t1 t2 t3 t4 t5 : Tok}
    (h0 : Bd 2000000000 a0) (h1 : Bd 2000000000 a1) (h2 : Bd 2000000000 a2) (h3 : Bd 2000000000 a3) (hz : a0 * a3 - a1 * a2 ≠ 0) :
    GivesL w p loose mean mg mb 180 4 [.ref x] (fun h => h.IsList x #[.int a0 t0, .int a1 t1, .int a2 t2, .int a3 t3, .int a4 t4, .int a5 t5]) (fun v sel' => ∃ z us q, sel' = [(z, W.listOf (List.toArray us) q)] ∧ v = .ref z ∧ IntsAre us [nearF (a3 * (1000000 * 1000000)) (a0 * a3 - a1 * a2), nearF (-a1 * (1000000 * 1000000)) (a0 * a3 - a1 * a2), nearF (-a2 * (1000000 * 1000000)) (a0 * a3 - a1 * a2), nearF (a0 * (1000000 * 1000000)) (a0 * a3 - a1 * a2), nearF ((a2 * a5 - a3 * a4) * 1000000) (a0 * a3 - a1 * a2), nearF ((a1 * a4 - a0 * a5) * 1000000) (a0 * a3 - a1 * a2)]) := by
  unfold GivesL
  k_fill
  intro rest dp un gd cn cs a ccd cl outer A₀ base h₀ L m s Q E B F X N hr T hk hd hu hret
  have hrl9 : 500 < recursionLimit := by decide
  obtain ⟨hd1, hd2⟩ := bd_det h0 h1 h2 h3
  refine wpAny_call ?_
  k_dflt (walk_at "MINE enterL")
  have hl9 := isList_up hr (by assumption)
  k_steps
  exact list_end (by assumption) (by assumption) (by k_mem) (by l_ints)
end
end
section
theorem say_19 : True := by
  k_with_none
  (k_with "MINE ix" => first | exact nth_mem (i := 0) rfl | exact nth_mem (i := 1) rfl | exact nth_mem (i := 2) rfl | exact nth_mem (i := 3) rfl | exact nth_mem (i := 4) rfl | exact nth_mem (i := 5) rfl | exact nth_mem (i := 6) rfl | exact nth_mem (i := 7) rfl | ((refine memT rfl ?_); k_extra "MINE ix"))
  (k_with "MINE fx" => ((case zh => with_reducible assumption); (case ze => k_extra "MINE ix")))
  (k_with "MINE ne2" => first | ((refine' off_at ?zh ?ze); k_extra "MINE fx") | ((refine' ne0_at ?zh ?ze); k_extra "MINE fx") | ((refine' offD_at ?zh ?ze); k_extra "MINE fx") | ((refine' offC_at ?zh ?ze); k_extra "MINE fx") | ((refine' offI_at ?zh ?ze); k_extra "MINE fx") | ((refine' offA_at ?zh ?ze); k_extra "MINE fx") | ((refine' ne1_at ?zh ?ze); k_extra "MINE fx") | ((refine' ne2_at ?zh ?ze); k_extra "MINE fx") | ((refine' ne3_at ?zh ?ze); k_extra "MINE fx") | ((refine' ne4_at ?zh ?ze); k_extra "MINE fx") | ((refine' ne5_at ?zh ?ze); k_extra "MINE fx") | ((refine' neT_at ?zh ?ze ?zg); (case zg => with_reducible assumption); k_extra "MINE fx"))
  (k_with "MINE ne3" => first | exact And.left (by with_reducible assumption) | exact And.left (And.right (by with_reducible assumption)) | exact And.right (by with_reducible assumption) | exact And.left (And.right (And.right (by with_reducible assumption))) | exact And.right (And.right (by with_reducible assumption)) | exact And.left (And.right (And.right (And.right (by with_reducible assumption)))) | exact And.right (And.right (And.right (by with_reducible assumption))) | exact And.left (And.right (And.right (And.right (And.right (by with_reducible assumption))))) | exact And.right (And.right (And.right (And.right (by with_reducible assumption)))) | exact And.left (And.right (And.right (And.right (And.right (And.right (by with_reducible assumption)))))) | exact And.right (And.right (And.right (And.right (And.right (by with_reducible assumption))))))
  (k_with "MINE ne1" => with_reducible first | assumption | exact Ne.symm (by assumption) | exact Nat.ne_of_lt (by assumption) | exact Nat.ne_of_gt (by assumption) | exact Nat.ne_of_lt (Nat.lt_succ_of_lt (by assumption)) | exact Nat.ne_of_gt (Nat.lt_succ_of_lt (by assumption)))
  (k_with "M k_ne" => ((try dsimp only); (refine neN ?_); first | k_extra "MINE ne1" | exact Nat.ne_of_lt (Nat.lt_succ_self _) | exact Nat.ne_of_gt (Nat.lt_succ_self _) | k_extra "MINE ne2" | (refine Ne.symm ?_; k_extra "MINE ne2") | k_extra "MINE ne3" | (refine Ne.symm ?_; k_extra "MINE ne3") | k_extra "MINE nesay"))
  (k_with "MINE nesay" => (k_extra "MINE split"; first | k_extra "MINE ne1" | ((repeat ((rename (@Ne Nat _ _) => h9); clear h9)); omega)))
  (k_with "M k_all" => first | with_reducible assumption | exact List.forall_mem_nil _ | ((refine' List.forall_mem_cons.mpr ⟨?za, ?zb⟩); (case za => k_ne); (case zb => k_all)))
  (k_with "MINE split" => repeat ((rename _ ∧ _ => h9); cases h9))
  (k_with "MINE ca" => ((case zkA => exact rfl); (case zkF => exact rfl); (case zkK => first | exact rfl | assumption)))
  (k_with "MINE cs" => ((case zk6 => k_is); (case zk7 => k_is); (case zk8 => ktr_room); (case zk9 => exact BindsTo.of_eq rfl); k_extra "MINE c3"))
  (k_with "MINE c3" => ((case zc2 => exact rfl); (case zc3 => exact rfl); (case zc4 => exact rfl)))
  (k_with "MINE k5" => ((case zk1 => k_asm); (case zk2 => k_asm); (case zk3 => k_asm); (case zk4 => k_asm); (case zk5 => k_asm)))
  (k_with "MINE a7" => ((case ze1 => assumption); (case ze2 => assumption); (case ze3 => assumption); (case ze4 => assumption); (case ze5 => assumption); (case ze6 => assumption); (case ze7 => assumption)))
  (k_with "MINE pl" => ((case zc5 => decide); (case zkB => exact locs rfl)))
  (k_with "MINE ce" => ((case zkB => exact rfl); (case zkD => decide +kernel)))
  (k_with "MINE fold" => ((try dsimp only); (try k_fold)))
  (k_with "MINE end" => (k_sweep; (try dsimp only); (try k_fold)))
  (k_with "MINE ent" => (k_whole; intro g' L' h' FG' F' N' B' X' T'; (try (have hlN := Fr.lst FG' (by assumption))); (try dsimp only); (try k_lift B'); (try k_fold)))
  (k_with "MINE enter" => ((refine' enterR ?ze1 ?ze2 ?ze3 ?ze4 ?ze5 ?ze6 ?zkA ?zkF ?zkK ?zk6 ?zk7 ?zk8 ?zk9 ?zkB ?ze7 ?_ ?zc2 ?zc3 ?zc4 ?zc5); k_extra "MINE a7"; k_extra "MINE ca"; k_extra "MINE cs"; k_extra "MINE pl"; k_whole; intro g' L' h' F' N' B' X' T' l1 hrest' st'; (try dsimp only); (try k_lift B'); (try k_fold)))
  (k_with "MINE enterC" => ((refine' enterRC ?ze1 ?ze2 ?ze3 ?ze4 ?ze5 ?ze6 ?zkA ?zkF ?zkK ?zk6 ?zk7 ?zk8 ?zk9 ?zkB ?zkD ?ze7 ?_ ?zc2 ?zc3 ?zc4); k_extra "MINE a7"; k_extra "MINE ca"; k_extra "MINE cs"; k_extra "MINE ce"; k_whole; intro g' L' h' tk' cells' F' N' Y' B' X' T' l1 hrest' st'; k_cells Y'; (try simp only [List.cons_append, List.nil_append] at N'); (try dsimp only); (try k_lift B'); (try k_fold)))
  (k_with "M units_room" => (have hcL9 := cLine_is; (try simp only [units_in1, units_deeper, Around.mark_units, units_caller]); (try dsimp only [ktrTop]); omega))
  (k_with "MINE room" => first | decide | ((try simp only [depth_in1, depth_deeper, units_in1, units_deeper, Around.mark_units]); (try dsimp only [ktrTop]); omega))
  (k_with "M binaryOp FloorDiv int int" => (k_here; (with_reducible refine floordiv_int ?zne ?_ (Or.inl (noPy ?zh1 ?zh2))); (case zne => omega); (case zh1 => omega); (case zh2 => omega)))
  (k_with "M callWith ref nil nil" => (k_here; k_dflt (refine' callWith_K ?zk1 ?zk2 ?_; (case zk1 => k_asm); (case zk2 => k_is); k_whole)))
  (k_with "M call ref" => k_dflt (k_here; refine wpAny_call ?_; first | ((refine' code_def ?zk1 ?zk2 ?zk3 ?zk4 ?zk5 ?zkA ?zkF ?zkK ?zk6 ?zk7 ?zk8 ?zk9 ?zkB ?_ ?zc2 ?zc3 ?zc4 ?zc5); k_extra "MINE ca"; k_extra "MINE k5"; k_extra "MINE cs"; k_extra "MINE pl"; k_extra "MINE ent") | ((refine' code_defC ?zk1 ?zk2 ?zk3 ?zk4 ?zk5 ?zkA ?zkF ?zkK ?zk6 ?zk7 ?zk8 ?zk9 ?zkB ?zkD ?_ ?zc2 ?zc3 ?zc4); k_extra "MINE ca"; k_extra "MINE k5"; k_extra "MINE cs"; k_extra "MINE ce"; k_whole; intro g' L' h' tk' cells' FG' F' N' Y' B' X' T' l1; (try (have hlN := Fr.lst FG' (by assumption))); k_cells Y'; (try simp only [List.cons_append, List.nil_append] at N'); (try dsimp only); (try k_lift B'); (try k_fold))))
  (k_with "M call ref" => k_dflt (k_here; kn_here; refine wpAny_call ?_; (refine' kla_code ?zk1 ?zk2 ?zk3 ?zk4 ?zk5 ?zkA ?zkF ?zkK ?zk6 ?zk7 ?zk8 ?zk9 ?zkB ?_ ?zc2 ?zc3 ?zc4 ?zc5); k_extra "MINE ca"; k_extra "MINE k5"; (case zk6 => k_mem); (case zk7 => exact codeRec_news (by k_asm) (by k_mem) (by assumption) (by assumption)); (case zk8 => ktr_room); (case zk9 => exact rfl); k_extra "MINE c3"; k_extra "MINE pl"; k_extra "MINE ent"))
  (k_with "MINE std" => ((case zB => k_asm); (case zF => k_asm); (case zX => k_asm); (case zN => k_asm); (case zT => k_asm); (case zk => first | exact rfl | assumption); (case zd => k_extra "MINE room"); (case zu => k_extra "MINE room")))
  (k_with "MINE b4" => ((case zb0 => k_extra "MINE bd"); (case zb1 => k_extra "MINE bd"); (case zb2 => k_extra "MINE bd"); (case zb3 => k_extra "MINE bd")))
  (k_with "MINE b6" => (k_extra "MINE b4"; (case zb4 => k_extra "MINE bd"); (case zb5 => k_extra "MINE bd")))
  (k_with "MINE bd" => assumption)
  (k_with "MINE nz" => ((case zhb => k_extra "MINE n0"); (case zh1 => k_extra "MINE n0"); (case zh2 => k_extra "MINE n0")))
  (k_with "MINE n0" => first | decide | assumption | omega)
  (k_with "MINE rv" => first | ((refine' RdV.fr ?zvF ?zvl ?zvv ?zvk ?zvx ?zvd); (case zvx => exact rfl); (case zvF => k_asm); (case zvl => exact rfl); (case zvv => exact rfl); (case zvk => first | exact rfl | assumption); (case zvd => decide)) | ((refine' RdV.glob ?zvF ?zvX ?zvT ?zve ?zvg ?zvk ?zvx ?zvd); (case zvx => exact rfl); (case zvF => k_asm); (case zvX => k_asm); (case zvT => k_asm); (case zve => k_is); (case zvg => exact rfl); (case zvk => first | exact rfl | assumption); (case zvd => decide)) | ((refine' RdV.cell ?zvN ?zvc ?zvm ?zvo ?zvk ?zvx ?zvd); (case zvx => exact rfl); (case zvN => k_asm); (case zvc => exact rfl); (case zvm => k_mem); (case zvo => k_asm); (case zvk => first | exact rfl | assumption); (case zvd => decide)) | ((refine' RdV.free ?zvN ?zvc ?zvm ?zvo ?zvk ?zvx ?zvd ?zvh); (case zvx => exact rfl); (case zvN => k_asm); (case zvc => exact rfl); (case zvm => k_mem); (case zvo => k_asm); (case zvk => first | exact rfl | assumption); (case zvd => decide); (case zvh => decide)) | ((refine' RdV.own ?zvN ?zvm ?zvC ?zvv ?zvk ?zvx ?zvd); (case zvx => exact rfl); (case zvN => k_asm); (case zvm => k_mem); (case zvC => assumption); (case zvv => first | assumption | exact rfl); (case zvk => first | exact rfl | assumption); (case zvd => decide)))
  (k_with "MINE rds" => first | ((fail_if_success (with_reducible show Rd _ _ _)); (fail_if_success (with_reducible show IntMulOk _ _)); (fail_if_success (with_reducible show _ ≠ _))) | k_extra "MINE rd" | ((with_reducible show IntMulOk _ _); mul_fits) | ((with_reducible show _ ≠ _); first | decide | omega))
  (k_with "MINE rd" => first | exact Rd.const | ((refine' Rd.mul ?_ ?_ ?_) <;> k_extra "MINE rds") | ((refine' Rd.add ?_ ?_) <;> k_extra "MINE rds") | ((refine' Rd.sub ?_ ?_) <;> k_extra "MINE rds") | ((refine' Rd.neg ?_) <;> k_extra "MINE rds") | ((refine' Rd.mod ?_ ?_ ?_) <;> k_extra "MINE rds") | ((refine' Rd.item ?zrn ?zrl ?zrk ?zri); (case zrn => k_extra "MINE rv"); (case zrl => is_list); (case zrk => decide); (case zri => exact rfl)) | ((refine' Rd.atN ?zrn ?zrl ?zr2 ?zrk ?zri); (case zrn => k_extra "MINE rv"); (case zr2 => k_extra "MINE rd"); (case zrl => is_list); (case zrk => decide); (case zri => exact rfl)) | ((refine' Rd.atB ?zsn ?zsl ?zs2 ?zsk ?zsi); (case zsn => k_extra "MINE rv"); (case zs2 => k_extra "MINE rd"); (case zsl => is_list); (case zsk => decide); (case zsi => exact rfl)) | ((refine' Rd.of ?zrv); (case zrv => k_extra "MINE rv")))
  (k_with "M eval BinOp" => (k_here; (with_reducible show wpAny _ _ (eval (Expr.BinOp _ _ _ _) _) _ _ _); k_dflt ((refine' Rd.use ?zrR ?_); (case zrR => k_extra "MINE rd"); k_whole; intro t9 k9; k_extra "MINE fold")))
  (k_with "M eval Subscript" => (k_here; (with_reducible show wpAny _ _ (eval (Expr.Subscript (Expr.Name _ _) _ _) _) _ _ _); k_dflt ((refine' Rd.use ?zrR ?_); (case zrR => k_extra "MINE rd"); k_whole; intro t9 k9; k_extra "MINE fold")))
  (k_with "M eval Call" => (k_here; (with_reducible show wpAny _ _ (eval (Expr.Call (Expr.Name _ _) [_] [] _) _) _ _ _); k_dflt (first | ((refine' call_v ?zcf ?zca0 ?zcF ?zcX ?zcK ?_); (case zcf => k_extra "MINE rv"); (case zca0 => k_extra "MINE rv"); (case zcF => k_asm); (case zcX => k_asm); (case zcK => k_is); k_whole; intro k9; k_extra "MINE fold") | ((refine' call_i ?zcf ?zca0 ?zcF ?zcX ?zcK ?_); (case zcf => k_extra "MINE rv"); (case zca0 => k_extra "MINE rd"); (case zcF => k_asm); (case zcX => k_asm); (case zcK => k_is); k_whole; intro t9 k9; k_extra "MINE fold"))))
  (k_with "M eval Call" => (k_here; (with_reducible show wpAny _ _ (eval (Expr.Call (Expr.Name _ _) [_, _] [] _) _) _ _ _); k_dflt (first | ((refine' call_vv ?zcf ?zca0 ?zca1 ?zcF ?zcX ?zcK ?_); (case zcf => k_extra "MINE rv"); (case zca0 => k_extra "MINE rv"); (case zca1 => k_extra "MINE rv"); (case zcF => k_asm); (case zcX => k_asm); (case zcK => k_is); k_whole; intro k9; k_extra "MINE fold") | ((refine' call_vi ?zcf ?zca0 ?zca1 ?zcF ?zcX ?zcK ?_); (case zcf => k_extra "MINE rv"); (case zca0 => k_extra "MINE rv"); (case zca1 => k_extra "MINE rd"); (case zcF => k_asm); (case zcX => k_asm); (case zcK => k_is); k_whole; intro t9 k9; k_extra "MINE fold") | ((refine' call_ii ?zcf ?zca0 ?zca1 ?zcF ?zcX ?zcK ?_); (case zcf => k_extra "MINE rv"); (case zca0 => k_extra "MINE rd"); (case zca1 => k_extra "MINE rd"); (case zcF => k_asm); (case zcX => k_asm); (case zcK => k_is); k_whole; intro t9 u9 k9; k_extra "MINE fold"))))
  (k_with "M eval Call" => (k_here; (with_reducible show wpAny _ _ (eval (Expr.Call (Expr.Name _ _) [_, _, _] [] _) _) _ _ _); k_dflt (first | ((refine' call_vii ?zcf ?zca0 ?zca1 ?zca2 ?zcF ?zcX ?zcK ?_); (case zcf => k_extra "MINE rv"); (case zca0 => k_extra "MINE rv"); (case zca1 => k_extra "MINE rd"); (case zca2 => k_extra "MINE rd"); (case zcF => k_asm); (case zcX => k_asm); (case zcK => k_is); k_whole; intro t9 u9 k9; k_extra "MINE fold"))))
  (k_with "M call ref" => k_dflt (k_here; (with_reducible show wpAny _ _ (PySem.call (Value.ref 54) [Value.int _ _, Value.int _ _]) _ _ _); (refine' use_int (div_gives ?zhb ?zh1 ?zh2) ?zB ?zF ?zX ?zN ?zT ?zk ?zd ?zu ?_); k_extra "MINE std"; k_extra "MINE nz"; k_whole; intro t9 h9 tk9 F9 N9; k_extra "MINE end"))
  (k_with "M call ref" => k_dflt (k_here; (with_reducible show wpAny _ _ (PySem.call (Value.ref 234) [Value.int _ _, Value.int _ _]) _ _ _); (refine' use_int (near_gives ?zhb ?zh1 ?zh2) ?zB ?zF ?zX ?zN ?zT ?zk ?zd ?zu ?_); k_extra "MINE std"; k_extra "MINE nz"; k_whole; intro t9 h9 tk9 F9 N9; k_extra "MINE end"))
  (k_with "M call ref" => k_dflt (k_here; (with_reducible show wpAny _ _ (PySem.call (Value.ref 96) [Value.int _ _, Value.int _ _]) _ _ _); (refine' use_int (mq_gives ?zhb ?zh1 ?zh2) ?zB ?zF ?zX ?zN ?zT ?zk ?zd ?zu ?_); k_extra "MINE std"; k_extra "MINE nz"; k_whole; intro t9 h9 tk9 F9 N9; k_extra "MINE end"))
  (k_with "MINE pk" => first | ((refine' Pk.head ?za); (case za => k_all)) | ((refine' Pk.tail ?za ?zb); (case za => k_ne); (case zb => k_extra "MINE pk")))
  (k_with "MINE p2" => ((case P1 => k_extra "MINE pk"); (case P2 => k_extra "MINE pk")))
  (k_with "MINE dec" => first | decide | omega)
  (k_with "M call ref" => k_dflt (k_here; (with_reducible show wpAny _ _ (PySem.call (Value.ref 220) [Value.ref _, Value.int _ _]) _ _ _); (refine' use_deck (draw_gives' ?zD ?zhb ?zh1 ?zh2) ?zB ?zF ?zX ?zN ?P1 ?P2 ?zT ?zk ?zd ?zu ?_); (case zD => assumption); k_extra "MINE std"; k_extra "MINE p2"; (case zhb => k_extra "MINE dec"); (case zh1 => k_extra "MINE dec"); (case zh2 => k_extra "MINE dec"); k_whole; intro r9 t9 o9 l9 h9 tk9 R9 D9 F9 N9 dl9 dd9 dn9; k_extra "MINE end"))
  (k_with "M call ref" => k_dflt (k_here; (with_reducible show wpAny _ _ (PySem.call (Value.ref 227) [Value.ref _, Value.ref _]) _ _ _); (refine' use_deck (pick_gives ?zD ?zh1 ?zhx ?zhI ?zh0 ?zh2) ?zB ?zF ?zX ?zN ?P1 ?P2 ?zT ?zk ?zd ?zu ?_); (case zD => assumption); k_extra "MINE std"; k_extra "MINE p2"; (case zhx => k_mem); (case zhI => l_ints); (case zh0 => k_extra "MINE dec"); (case zh1 => k_extra "MINE dec"); (case zh2 => k_extra "MINE dec"); k_whole; intro r9 t9 o9 l9 h9 tk9 R9 D9 F9 N9 dl9 dd9 dn9; k_extra "MINE end"))
  (k_with "M CompRest" => (with_unfolding_all (refine LCg.CompRest.succ ?_; intro v' I' oI' C' oC' D' m' h' tk' E' hv' hC' hx' F' N' off' ne'; (first | lcg_open hv' | (obtain ⟨t9', hv9'⟩ := hv'; subst hv9')); (have n1' := ne'.1); (have n2' := ne'.2.1); (have n3' := ne'.2.2))))
  (k_with "M TupSrc" => (k_here; k_dflt (refine TupSrc.ledger (by rfl) (by k_asm) (by k_asm) (by k_mem) (by first | size_fits | exact Nat.le_of_ble_eq_true rfl) ?_; intro g'; lcg_lit)))
  (k_with "M CompEnd" => k_dflt ((with_reducible refine' LCg.CompEnd.intro ?zeF ?zeN _ ?zeb ?zeo ?zeS ?_); (case zeF => with_reducible assumption); (case zeo => with_reducible assumption); (case zeN => with_reducible assumption); (case zeb => exact fun _ h => h); (case zeS => lcg_src); k_whole))
  (k_with "MINE lit" => (k_here; (with_reducible show wpAny _ _ (subscriptTail _ _ (Value.ref _) (Value.int _ _)) _ _ _); (with_unfolding_all refine' item_litK ?zk1 ?zk2 ?zk3 ?zk4 ?_ ?zk6; (case zk1 => is_list); (case zk2 => decide); (case zk3 => decide); (case zk4 => rfl); (case zk6 => with_unfolding_all rfl); k_whole)))
  (k_with "M subscriptTail Name Constant ref int" => k_dflt (k_extra "MINE lit"))
  (k_with "M subscriptTail Name Name ref int" => k_dflt (k_extra "MINE lit"))
  (k_with "M subscriptTail Name BinOp ref int" => k_dflt (k_extra "MINE lit"))
  (k_with "M call ref" => k_dflt (k_here; (with_reducible show wpAny _ _ (PySem.call (Value.ref 166) [Value.ref _]) _ _ _); (refine' useL_bool (sing_gives ?zb0 ?zb1 ?zb2 ?zb3) ?zB ?zF ?zX ?zN ?zR ?zT ?zk ?zd ?zu ?_); k_extra "MINE std"; (case zR => is_list); k_extra "MINE b4"; k_whole; intro h9 tk9 F9 N9; k_extra "MINE end"))
  (k_with "M call ref" => k_dflt (k_here; (with_reducible show wpAny _ _ (PySem.call (Value.ref 173) [Value.ref _]) _ _ _); (refine' useL_int (need_gives ?zb0 ?zb1 ?zb2 ?zb3 ?zhz) ?zB ?zF ?zX ?zN ?zR ?zT ?zk ?zd ?zu ?_); k_extra "MINE std"; (case zR => is_list); k_extra "MINE b4"; (case zhz => assumption); k_whole; intro t9 h9 tk9 F9 N9; k_extra "MINE end"))
  (k_with "M call ref" => k_dflt (k_here; (with_reducible show wpAny _ _ (PySem.call (Value.ref 194) [Value.ref _, Value.int _ _, Value.int _ _]) _ _ _); (refine' useL_tup (delta_gives ?zb0 ?zb1 ?zb2 ?zb3) ?zB ?zF ?zX ?zN ?zR ?zT ?zk ?zd ?zu ?_); k_extra "MINE std"; (case zR => is_list); k_extra "MINE b4"; k_whole; intro z9 t9 u9 h9 tk9 F9 N9 off9; k_extra "MINE end"))
  (k_with "M call ref" => k_dflt (k_here; (with_reducible show wpAny _ _ (PySem.call (Value.ref 187) [Value.ref _, Value.int _ _, Value.int _ _]) _ _ _); (refine' useL_tup (trans_gives ?zb0 ?zb1 ?zb2 ?zb3) ?zB ?zF ?zX ?zN ?zR ?zT ?zk ?zd ?zu ?_); k_extra "MINE std"; (case zR => is_list); k_extra "MINE b4"; k_whole; intro z9 t9 u9 h9 tk9 F9 N9 off9; k_extra "MINE end"))
  (k_with "M call ref" => k_dflt (k_here; (with_reducible show wpAny _ _ (PySem.call (Value.ref 201) [Value.ref _, Value.int _ _, Value.int _ _]) _ _ _); (refine' useL_tup (invd_gives ?zb0 ?zb1 ?zb2 ?zb3 ?zhz) ?zB ?zF ?zX ?zN ?zR ?zT ?zk ?zd ?zu ?_); k_extra "MINE std"; (case zR => is_list); k_extra "MINE b4"; (case zhz => assumption); k_whole; intro z9 t9 u9 h9 tk9 F9 N9 off9; k_extra "MINE end"))
  (k_with "M call ref" => k_dflt (k_here; (with_reducible show wpAny _ _ (PySem.call (Value.ref 208) [Value.ref _, Value.int _ _, Value.int _ _]) _ _ _); (refine' useL_tup (invt_gives ?zb0 ?zb1 ?zb2 ?zb3 ?zhz) ?zB ?zF ?zX ?zN ?zR ?zT ?zk ?zd ?zu ?_); k_extra "MINE std"; (case zR => is_list); k_extra "MINE b4"; (case zhz => assumption); k_whole; intro z9 t9 u9 h9 tk9 F9 N9 off9; k_extra "MINE end"))
  (k_with "M call ref" => k_dflt (k_here; (with_reducible show wpAny _ _ (PySem.call (Value.ref 180) [Value.ref _]) _ _ _); (refine' useL_list6 (inv_gives ?zb0 ?zb1 ?zb2 ?zb3 ?zhz) ?zB ?zF ?zX ?zN ?zR ?zT ?zk ?zd ?zu ?_); k_extra "MINE std"; (case zR => is_list); k_extra "MINE b4"; (case zhz => assumption); k_whole; intro z9 t10 t11 t12 t13 t14 t15 q9 h9 tk9 F9 N9 off9; k_extra "MINE end"))
  (k_with "M eval ListComp Call cons" => (k_here; k_dflt (refine LCg.ListComp_U (F₀ := by k_asm) (by with_unfolding_all rfl) (by decide) (by rfl) (by decide) (by rfl) ?_)))
  (k_with "MINE enterC2" => ((refine' enterRC2 ?ze1 ?ze2 ?ze3 ?ze4 ?ze5 ?ze6 ?zkA ?zkF ?zkK ?zk6 ?zk7 ?zk8 ?zk9 ?zkB ?zkD ?ze7 ?_ ?zc2 ?zc3 ?zc4); k_extra "MINE a7"; k_extra "MINE ca"; k_extra "MINE cs"; k_extra "MINE ce"; k_whole; intro g' L' h' tk' cells' F' N' Y' B' X' T' l1 hrest' st' hdl'; k_cells Y'; (try simp only [List.cons_append, List.nil_append] at N'); (try dsimp only); (try k_lift B'); (try k_fold)))
  (k_with "M exec Raise some none" => (k_here; k_dflt (refine' Raise_ps ?zhh ?_; (case zhh => first | rfl | assumption); k_whole)))
  (k_with "M call ref" => k_dflt (k_here; (with_reducible show wpAny _ _ (PySem.call (Value.ref 45) [_]) _ _ _); (refine' use_ps ?zB ?zF ?zX ?zN ?zT ?zk ?zd ?zu ?_); k_extra "MINE std"; k_whole; intro e9 t9 D9 od9 h9 tk9 F9 N9 hl9 hne9 het9; (try dsimp only)))
  (k_with "M PsRaised" => k_dflt (refine' ⟨_, _, _, rfl, ?zX, ?zhe, ?_⟩; (case zX => exact Frag.In.keeps (by assumption) (Fr.keep (by assumption))); (case zhe => exact News.get (by assumption) (.head _)); k_whole; (try dsimp only)))
  (k_with "MINE lr" => ((case zK => assumption); (case zF => assumption)))
  (k_with "M leaving ref" => (k_here; k_dflt (first | ((refine' leave_raiseD ?zK ?zF ?zN rfl ?zhne ?_); k_extra "MINE lr"; (case zN => assumption); (case zhne => assumption); k_whole; intro h' R' U'; (try dsimp only at R' U' ⊢)) | ((refine' leave_onD ?zK ?zF ?zR ?zU ?zhf ?_); (case zhf => exact rfl); (case zR => assumption); k_extra "MINE lr"; (case zU => assumption); k_whole; intro h' R' U'; (try dsimp only at R' U' ⊢)))))
  (k_with "M noteFrame ref" => (k_here; k_dflt ((refine' caught_D ?zR ?zF ?zK ?zU ?zXB ?zTB ?_); (case zR => assumption); k_extra "MINE lr"; (case zU => assumption); (case zXB => assumption); (case zTB => assumption); k_whole; intro h' g' oe9 tk9 TT9 F9 N9 hc9 hd9 hn9 B' X' T'; (try k_lift B'); (try k_sweep); (try dsimp only))))
  (k_with "M eval ListComp Call cons" => (k_here; (with_reducible show wpAny _ _ (eval (Expr.ListComp (Expr.Call (Expr.Name ("_law_told" : Str) _) _ _ _) _ _ _) _) _ _ _); k_dflt ((refine' switch_comp ?zB ?zhfl ?zF ?zN ?zXB ?zTB ?zhd ?zhl ?_); (case zF => k_asm); (case zN => k_asm); (case zB => assumption); (case zhfl => exact rfl); (case zXB => assumption); (case zTB => assumption); (case zhd => assumption); (case zhl => assumption); k_whole; intro oL9 hl9 TL9 off9 hLL9 X9 T9 F9 N9; (refine LCg.ListComp_U (F₀ := by k_asm) (by with_unfolding_all rfl) (by decide) (by rfl) (by decide) (by rfl) ?_))))
  (k_with "M call ref" => k_dflt (k_here; (with_reducible show wpAny _ _ (PySem.call (Value.ref 251) [_]) _ _ _); refine wpAny_call ?_; (refine' enterT (Post := fun v => ∃ t, v = Value.bytes undefB t) ?zB ?zhfl ?zF ?zN ?zP ?zTL ?zXB ?zTB ?zkA ?zkF ?zkK ?zk6 ?zk7 ?zk8 ?zk9 ?zkB ?_ ?_ ?zc2 ?zc3 ?zc4 ?zc5); (case zkA => exact rfl); (case zkF => exact rfl); (case zkK => first | exact rfl | assumption); (case zF => k_asm); (case zN => k_asm); (case zB => assumption); (case zhfl => exact rfl); (case zTL => assumption); (case zP => k_extra "MINE pk"); (case zXB => assumption); (case zTB => assumption); (case zk6 => k_is); (case zk7 => k_is); (case zk8 => ktr_room); (case zk9 => exact BindsTo.of_eq rfl); k_extra "MINE c3"; k_extra "MINE pl"; (intro g' L' h' FG' F' N' B' X' T'; (try (have hlN := Fr.lst FG' (by assumption))); (try dsimp only); (try k_lift B'); (try k_fold)); rotate_left; (intro v9 oL9 h9 tk9 TL9 F9 N9 P9; obtain ⟨t9, P9⟩ := P9; subst P9; (try dsimp only); (try k_fold))))
  (k_with "M getAttr ref" => (k_here; k_dflt ((refine' ps_get_on ?zF ?zX ?zN ?zhc ?zhd ?zhn ?zhl ?zhh ?_); (case zN => assumption); (case zF => assumption); (case zX => assumption); (case zhc => assumption); (case zhd => assumption); (case zhn => assumption); (case zhl => assumption); (case zhh => exact rfl); k_whole)))
  (k_with "M LeaveT" => k_dflt (refine ⟨_, _, _, _, _, _, rfl, by assumption, by assumption, by assumption, by kqd_sub, ⟨_, rfl⟩⟩))
  (k_with "M BodyEnd2" => k_dflt (first | (refine pts_endR (by assumption) (by assumption) (by assumption) (by k_mem) (by k_mem) (by k_ne) ?_; exact rfl) | (refine pts_endL (by assumption) (by assumption) (by k_mem) ?_; exact congrArg Value.bool (decide_eq_true (by simp only [Int.mul_assoc])))))
  (k_with "M compareOp Eq ref ref" => (k_here; k_dflt ((refine' eq_three (b := undefB) (by k_asm) ?za ?zc ?zca ?zcc ?zda ?zdc ?zu ?_); (case za => k_mem); (case zc => k_mem); (case zca => exact rfl); (case zcc => exact rfl); (case zda => exact rfl); (case zdc => exact rfl); (case zu => first | units_room | exact Nat.le_of_ble_eq_true rfl); k_whole)))
  trivial
variable {w : World} {p : Program} {loose : List Str} {mean : ExcName → Option Value} {mg mb : Str → Option Value}
section
local macro_rules | `(tactic| walk_at "ite") => `(tactic| (k_here; k_dflt (first
  | refine ite_neg (bne_no _) ?_
  | refine ite_pos (beq_iff_eq.mpr (by with_reducible assumption)) ?_
  | refine ite_neg (fun e => absurd (beq_iff_eq.mp e) (by with_reducible assumption)) ?_)))
local macro_rules | `(tactic| walk_at "exec Raise") => `(tactic| (exfalso; first | contradiction | (simp only [decide_eq_true_eq, decide_eq_false_iff_not] at *; contradiction)))
local macro_rules | `(tactic| walk_at "CompSrc Call") => `(tactic| (k_here; k_dflt (refine LCg.CompSrc.ledger (by rfl) (by k_asm) (by k_asm) (by k_mem) (by first | size_fits | exact Nat.le_of_ble_eq_true rfl) ?_; intro g'; lcg_lit)))
local macro_rules | `(tactic| mul_fits) => `(tactic| exact bd_mul2 (by assumption))
/-- a list of two pairs of ints against another of the same ints -/
theorem ne_pairs {prog : Program} {A : Around} {E : Value → Shared → Prop} {s : Shared} {h₀ : Heap} {L a b p q p' q' : Addr} {news : List (Addr × Obj)} {na nb k1 k2 k3 k4 : Nat} {i j k l : Int} {t1 t2 t3 t4 u1 u2 u3 u4 : Tok} {Q : Value → Shared → Prop}
    (N : News h₀ L s.heap news) (ma : (a, W.listOf #[Value.ref p, Value.ref q] na) ∈ news) (mp : (p, ({ cls := .type "tuple", data := .seq #[.int i t1, .int j t2] k1 } : Obj)) ∈ news) (mq : (q, ({ cls := .type "tuple", data := .seq #[.int k t3, .int l t4] k2 } : Obj)) ∈ news)
    (mb : (b, W.listOf #[Value.ref p', Value.ref q'] nb) ∈ news) (mp' : (p', ({ cls := .type "tuple", data := .seq #[.int i u1, .int j u2] k3 } : Obj)) ∈ news) (mq' : (q', ({ cls := .type "tuple", data := .seq #[.int k u3, .int l u4] k4 } : Obj)) ∈ news)
    (hu : A.units + 64 < cLine) (h : Q (.bool false) s) : wpAny (model prog w) A (compareOp .NotEq (.ref a) (.ref b)) Q E s := by
  have D : ∀ {x y : Addr} {t1 t2 t3 t4 : Tok} {k1 k2 : Nat}, (x, ({ cls := .type "tuple", data := .seq #[.int i t1, .int j t2] k1 } : Obj)) ∈ news → (y, ({ cls := .type "tuple", data := .seq #[.int k t3, .int l t4] k2 } : Obj)) ∈ news →
      DatAll news [.ref x, .ref y] [.tuple [.int i, .int j], .tuple [.int k, .int l]] := fun h1 h2 =>
    .cons (.tuple (vs := [_, _]) h1 (.cons (.int _ _) (.cons (.int _ _) .nil))) (.cons (.tuple (vs := [_, _]) h2 (.cons (.int _ _) (.cons (.int _ _) .nil))) .nil)
  have ok : ∀ d ∈ [Dat.tuple [.int i, .int j], .tuple [.int k, .int l]], kqdOk 8 d = true := by
    intro d hd
    simp only [List.mem_cons, List.not_mem_nil, or_false] at hd
    rcases hd with rfl | rfl <;> rfl
  refine kqd_ne (xs := [_, _]) (ys := [_, _]) N ma rfl rfl (D mp mq) (fun _ x => x) mb rfl rfl (D mp' mq') (fun _ x => x) ok ok hu ?_
  simpa using h
local macro_rules | `(tactic| walk_at "compareOp NotEq ref ref") => `(tactic| (k_here; k_dflt (refine' ne_pairs (by k_asm) ?a ?p ?q ?b ?p' ?q' ?u ?_; (case a => k_mem); (case b => k_mem); (case p => k_mem); (case q => k_mem); (case p' => k_mem); (case q' => k_mem); (case u => ke_room); k_whole)))
theorem points_gives {x : Addr} {qx : Nat} {a0 a1 a2 a3 a4 a5 X Y : Int} {t0 t1 t2 t3 t4 t5 tX tY : Tok} {rest : List (Addr × Obj)}
    (hx : (x, W.listOf #[.int a0 t0, .int a1 t1, .int a2 t2, .int a3 t3, .int a4 t4, .int a5 t5] qx) ∈ rest)
    (h0 : Bd 2000000000 a0) (h1 : Bd 2000000000 a1) (h2 : Bd 2000000000 a2) (h3 : Bd 2000000000 a3) (h4 : Bd 2000000000 a4) (h5 : Bd 2000000000 a5) :
    GivesC w p loose mean mg mb 256 10 [.ref x, .int X tX, .int Y tY] [(253, tabObj #[])] rest (fun v sel' => ∃ ps, sel' = [(253, tabObj ps)] ∧ v = .bool true) := by
  unfold GivesC
  k_fill
  intro dp un gd cn cs a ccd cl A₀ base h₀ L m s Q E B F X N hdis T XB TB codeHd hk hd hu hret
  have hrl9 : 500 < recursionLimit := by decide
  have hd1 := (bd_det h0 h1 h2 h3).1
  have hd2 := (bd_det h0 h1 h2 h3).2
  refine wpAny_call ?_
  k_dflt (walk_at "MINE enterC2")
  have hl9 := isList_rest9 (by assumption) hx
  k_steps
end
end
section
theorem say_20 : True := by
  k_with_none
  (k_with "MINE ix" => first | exact nth_mem (i := 0) rfl | exact nth_mem (i := 1) rfl | exact nth_mem (i := 2) rfl | exact nth_mem (i := 3) rfl | exact nth_mem (i := 4) rfl | exact nth_mem (i := 5) rfl | exact nth_mem (i := 6) rfl | exact nth_mem (i := 7) rfl | ((refine memT rfl ?_); k_extra "MINE ix"))
  (k_with "MINE fx" => ((case zh => with_reducible assumption); (case ze => k_extra "MINE ix")))
  (k_with "MINE ne2" => first | ((refine' off_at ?zh ?ze); k_extra "MINE fx") | ((refine' ne0_at ?zh ?ze); k_extra "MINE fx") | ((refine' offD_at ?zh ?ze); k_extra "MINE fx") | ((refine' offC_at ?zh ?ze); k_extra "MINE fx") | ((refine' offI_at ?zh ?ze); k_extra "MINE fx") | ((refine' offA_at ?zh ?ze); k_extra "MINE fx") | ((refine' ne1_at ?zh ?ze); k_extra "MINE fx") | ((refine' ne2_at ?zh ?ze); k_extra "MINE fx") | ((refine' ne3_at ?zh ?ze); k_extra "MINE fx") | ((refine' ne4_at ?zh ?ze); k_extra "MINE fx") | ((refine' ne5_at ?zh ?ze); k_extra "MINE fx") | ((refine' neT_at ?zh ?ze ?zg); (case zg => with_reducible assumption); k_extra "MINE fx"))
  (k_with "MINE ne3" => first | exact And.left (by with_reducible assumption) | exact And.left (And.right (by with_reducible assumption)) | exact And.right (by with_reducible assumption) | exact And.left (And.right (And.right (by with_reducible assumption))) | exact And.right (And.right (by with_reducible assumption)) | exact And.left (And.right (And.right (And.right (by with_reducible assumption)))) | exact And.right (And.right (And.right (by with_reducible assumption))) | exact And.left (And.right (And.right (And.right (And.right (by with_reducible assumption))))) | exact And.right (And.right (And.right (And.right (by with_reducible assumption)))) | exact And.left (And.right (And.right (And.right (And.right (And.right (by with_reducible assumption)))))) | exact And.right (And.right (And.right (And.right (And.right (by with_reducible assumption))))))
  (k_with "MINE ne1" => with_reducible first | assumption | exact Ne.symm (by assumption) | exact Nat.ne_of_lt (by assumption) | exact Nat.ne_of_gt (by assumption) | exact Nat.ne_of_lt (Nat.lt_succ_of_lt (by assumption)) | exact Nat.ne_of_gt (Nat.lt_succ_of_lt (by assumption)))
  (k_with "M k_ne" => ((try dsimp only); (refine neN ?_); first | k_extra "MINE ne1" | exact Nat.ne_of_lt (Nat.lt_succ_self _) | exact Nat.ne_of_gt (Nat.lt_succ_self _) | k_extra "MINE ne2" | (refine Ne.symm ?_; k_extra "MINE ne2") | k_extra "MINE ne3" | (refine Ne.symm ?_; k_extra "MINE ne3") | k_extra "MINE nesay"))
  (k_with "MINE nesay" => (k_extra "MINE split"; first | k_extra "MINE ne1" | ((repeat ((rename (@Ne Nat _ _) => h9); clear h9)); omega)))
  (k_with "M k_all" => first | with_reducible assumption | exact List.forall_mem_nil _ | ((refine' List.forall_mem_cons.mpr ⟨?za, ?zb⟩); (case za => k_ne); (case zb => k_all)))
  (k_with "MINE split" => repeat ((rename _ ∧ _ => h9); cases h9))
  (k_with "MINE ca" => ((case zkA => exact rfl); (case zkF => exact rfl); (case zkK => first | exact rfl | assumption)))
  (k_with "MINE cs" => ((case zk6 => k_is); (case zk7 => k_is); (case zk8 => ktr_room); (case zk9 => exact BindsTo.of_eq rfl); k_extra "MINE c3"))
  (k_with "MINE c3" => ((case zc2 => exact rfl); (case zc3 => exact rfl); (case zc4 => exact rfl)))
  (k_with "MINE k5" => ((case zk1 => k_asm); (case zk2 => k_asm); (case zk3 => k_asm); (case zk4 => k_asm); (case zk5 => k_asm)))
  (k_with "MINE a7" => ((case ze1 => assumption); (case ze2 => assumption); (case ze3 => assumption); (case ze4 => assumption); (case ze5 => assumption); (case ze6 => assumption); (case ze7 => assumption)))
  (k_with "MINE pl" => ((case zc5 => decide); (case zkB => exact locs rfl)))
  (k_with "MINE ce" => ((case zkB => exact rfl); (case zkD => decide +kernel)))
  (k_with "MINE fold" => ((try dsimp only); (try k_fold)))
  (k_with "MINE end" => (k_sweep; (try dsimp only); (try k_fold)))
  (k_with "MINE ent" => (k_whole; intro g' L' h' FG' F' N' B' X' T'; (try (have hlN := Fr.lst FG' (by assumption))); (try dsimp only); (try k_lift B'); (try k_fold)))
  (k_with "MINE enter" => ((refine' enterR ?ze1 ?ze2 ?ze3 ?ze4 ?ze5 ?ze6 ?zkA ?zkF ?zkK ?zk6 ?zk7 ?zk8 ?zk9 ?zkB ?ze7 ?_ ?zc2 ?zc3 ?zc4 ?zc5); k_extra "MINE a7"; k_extra "MINE ca"; k_extra "MINE cs"; k_extra "MINE pl"; k_whole; intro g' L' h' F' N' B' X' T' l1 hrest' st'; (try dsimp only); (try k_lift B'); (try k_fold)))
  (k_with "MINE enterC" => ((refine' enterRC ?ze1 ?ze2 ?ze3 ?ze4 ?ze5 ?ze6 ?zkA ?zkF ?zkK ?zk6 ?zk7 ?zk8 ?zk9 ?zkB ?zkD ?ze7 ?_ ?zc2 ?zc3 ?zc4); k_extra "MINE a7"; k_extra "MINE ca"; k_extra "MINE cs"; k_extra "MINE ce"; k_whole; intro g' L' h' tk' cells' F' N' Y' B' X' T' l1 hrest' st'; k_cells Y'; (try simp only [List.cons_append, List.nil_append] at N'); (try dsimp only); (try k_lift B'); (try k_fold)))
  (k_with "M units_room" => (have hcL9 := cLine_is; (try simp only [units_in1, units_deeper, Around.mark_units, units_caller]); (try dsimp only [ktrTop]); omega))
  (k_with "MINE room" => first | decide | ((try simp only [depth_in1, depth_deeper, units_in1, units_deeper, Around.mark_units]); (try dsimp only [ktrTop]); omega))
  (k_with "M binaryOp FloorDiv int int" => (k_here; (with_reducible refine floordiv_int ?zne ?_ (Or.inl (noPy ?zh1 ?zh2))); (case zne => omega); (case zh1 => omega); (case zh2 => omega)))
  (k_with "M callWith ref nil nil" => (k_here; k_dflt (refine' callWith_K ?zk1 ?zk2 ?_; (case zk1 => k_asm); (case zk2 => k_is); k_whole)))
  (k_with "M call ref" => k_dflt (k_here; refine wpAny_call ?_; first | ((refine' code_def ?zk1 ?zk2 ?zk3 ?zk4 ?zk5 ?zkA ?zkF ?zkK ?zk6 ?zk7 ?zk8 ?zk9 ?zkB ?_ ?zc2 ?zc3 ?zc4 ?zc5); k_extra "MINE ca"; k_extra "MINE k5"; k_extra "MINE cs"; k_extra "MINE pl"; k_extra "MINE ent") | ((refine' code_defC ?zk1 ?zk2 ?zk3 ?zk4 ?zk5 ?zkA ?zkF ?zkK ?zk6 ?zk7 ?zk8 ?zk9 ?zkB ?zkD ?_ ?zc2 ?zc3 ?zc4); k_extra "MINE ca"; k_extra "MINE k5"; k_extra "MINE cs"; k_extra "MINE ce"; k_whole; intro g' L' h' tk' cells' FG' F' N' Y' B' X' T' l1; (try (have hlN := Fr.lst FG' (by assumption))); k_cells Y'; (try simp only [List.cons_append, List.nil_append] at N'); (try dsimp only); (try k_lift B'); (try k_fold))))
  (k_with "M call ref" => k_dflt (k_here; kn_here; refine wpAny_call ?_; (refine' kla_code ?zk1 ?zk2 ?zk3 ?zk4 ?zk5 ?zkA ?zkF ?zkK ?zk6 ?zk7 ?zk8 ?zk9 ?zkB ?_ ?zc2 ?zc3 ?zc4 ?zc5); k_extra "MINE ca"; k_extra "MINE k5"; (case zk6 => k_mem); (case zk7 => exact codeRec_news (by k_asm) (by k_mem) (by assumption) (by assumption)); (case zk8 => ktr_room); (case zk9 => exact rfl); k_extra "MINE c3"; k_extra "MINE pl"; k_extra "MINE ent"))
  (k_with "MINE std" => ((case zB => k_asm); (case zF => k_asm); (case zX => k_asm); (case zN => k_asm); (case zT => k_asm); (case zk => first | exact rfl | assumption); (case zd => k_extra "MINE room"); (case zu => k_extra "MINE room")))
  (k_with "MINE b4" => ((case zb0 => k_extra "MINE bd"); (case zb1 => k_extra "MINE bd"); (case zb2 => k_extra "MINE bd"); (case zb3 => k_extra "MINE bd")))
  (k_with "MINE b6" => (k_extra "MINE b4"; (case zb4 => k_extra "MINE bd"); (case zb5 => k_extra "MINE bd")))
  (k_with "MINE bd" => assumption)
  (k_with "MINE nz" => ((case zhb => k_extra "MINE n0"); (case zh1 => k_extra "MINE n0"); (case zh2 => k_extra "MINE n0")))
  (k_with "MINE n0" => first | decide | assumption | omega)
  (k_with "MINE rv" => first | ((refine' RdV.fr ?zvF ?zvl ?zvv ?zvk ?zvx ?zvd); (case zvx => exact rfl); (case zvF => k_asm); (case zvl => exact rfl); (case zvv => exact rfl); (case zvk => first | exact rfl | assumption); (case zvd => decide)) | ((refine' RdV.glob ?zvF ?zvX ?zvT ?zve ?zvg ?zvk ?zvx ?zvd); (case zvx => exact rfl); (case zvF => k_asm); (case zvX => k_asm); (case zvT => k_asm); (case zve => k_is); (case zvg => exact rfl); (case zvk => first | exact rfl | assumption); (case zvd => decide)) | ((refine' RdV.cell ?zvN ?zvc ?zvm ?zvo ?zvk ?zvx ?zvd); (case zvx => exact rfl); (case zvN => k_asm); (case zvc => exact rfl); (case zvm => k_mem); (case zvo => k_asm); (case zvk => first | exact rfl | assumption); (case zvd => decide)) | ((refine' RdV.free ?zvN ?zvc ?zvm ?zvo ?zvk ?zvx ?zvd ?zvh); (case zvx => exact rfl); (case zvN => k_asm); (case zvc => exact rfl); (case zvm => k_mem); (case zvo => k_asm); (case zvk => first | exact rfl | assumption); (case zvd => decide); (case zvh => decide)) | ((refine' RdV.own ?zvN ?zvm ?zvC ?zvv ?zvk ?zvx ?zvd); (case zvx => exact rfl); (case zvN => k_asm); (case zvm => k_mem); (case zvC => assumption); (case zvv => first | assumption | exact rfl); (case zvk => first | exact rfl | assumption); (case zvd => decide)))
  (k_with "MINE rds" => first | ((fail_if_success (with_reducible show Rd _ _ _)); (fail_if_success (with_reducible show IntMulOk _ _)); (fail_if_success (with_reducible show _ ≠ _))) | k_extra "MINE rd" | ((with_reducible show IntMulOk _ _); mul_fits) | ((with_reducible show _ ≠ _); first | decide | omega))
  (k_with "MINE rd" => first | exact Rd.const | ((refine' Rd.mul ?_ ?_ ?_) <;> k_extra "MINE rds") | ((refine' Rd.add ?_ ?_) <;> k_extra "MINE rds") | ((refine' Rd.sub ?_ ?_) <;> k_extra "MINE rds") | ((refine' Rd.neg ?_) <;> k_extra "MINE rds") | ((refine' Rd.mod ?_ ?_ ?_) <;> k_extra "MINE rds") | ((refine' Rd.item ?zrn ?zrl ?zrk ?zri); (case zrn => k_extra "MINE rv"); (case zrl => is_list); (case zrk => decide); (case zri => exact rfl)) | ((refine' Rd.atN ?zrn ?zrl ?zr2 ?zrk ?zri); (case zrn => k_extra "MINE rv"); (case zr2 => k_extra "MINE rd"); (case zrl => is_list); (case zrk => decide); (case zri => exact rfl)) | ((refine' Rd.atB ?zsn ?zsl ?zs2 ?zsk ?zsi); (case zsn => k_extra "MINE rv"); (case zs2 => k_extra "MINE rd"); (case zsl => is_list); (case zsk => decide); (case zsi => exact rfl)) | ((refine' Rd.of ?zrv); (case zrv => k_extra "MINE rv")))
  (k_with "M eval BinOp" => (k_here; (with_reducible show wpAny _ _ (eval (Expr.BinOp _ _ _ _) _) _ _ _); k_dflt ((refine' Rd.use ?zrR ?_); (case zrR => k_extra "MINE rd"); k_whole; intro t9 k9; k_extra "MINE fold")))
  (k_with "M eval Subscript" => (k_here; (with_reducible show wpAny _ _ (eval (Expr.Subscript (Expr.Name _ _) _ _) _) _ _ _); k_dflt ((refine' Rd.use ?zrR ?_); (case zrR => k_extra "MINE rd"); k_whole; intro t9 k9; k_extra "MINE fold")))
  (k_with "M eval Call" => (k_here; (with_reducible show wpAny _ _ (eval (Expr.Call (Expr.Name _ _) [_] [] _) _) _ _ _); k_dflt (first | ((refine' call_v ?zcf ?zca0 ?zcF ?zcX ?zcK ?_); (case zcf => k_extra "MINE rv"); (case zca0 => k_extra "MINE rv"); (case zcF => k_asm); (case zcX => k_asm); (case zcK => k_is); k_whole; intro k9; k_extra "MINE fold") | ((refine' call_i ?zcf ?zca0 ?zcF ?zcX ?zcK ?_); (case zcf => k_extra "MINE rv"); (case zca0 => k_extra "MINE rd"); (case zcF => k_asm); (case zcX => k_asm); (case zcK => k_is); k_whole; intro t9 k9; k_extra "MINE fold"))))
  (k_with "M eval Call" => (k_here; (with_reducible show wpAny _ _ (eval (Expr.Call (Expr.Name _ _) [_, _] [] _) _) _ _ _); k_dflt (first | ((refine' call_vv ?zcf ?zca0 ?zca1 ?zcF ?zcX ?zcK ?_); (case zcf => k_extra "MINE rv"); (case zca0 => k_extra "MINE rv"); (case zca1 => k_extra "MINE rv"); (case zcF => k_asm); (case zcX => k_asm); (case zcK => k_is); k_whole; intro k9; k_extra "MINE fold") | ((refine' call_vi ?zcf ?zca0 ?zca1 ?zcF ?zcX ?zcK ?_); (case zcf => k_extra "MINE rv"); (case zca0 => k_extra "MINE rv"); (case zca1 => k_extra "MINE rd"); (case zcF => k_asm); (case zcX => k_asm); (case zcK => k_is); k_whole; intro t9 k9; k_extra "MINE fold") | ((refine' call_ii ?zcf ?zca0 ?zca1 ?zcF ?zcX ?zcK ?_); (case zcf => k_extra "MINE rv"); (case zca0 => k_extra "MINE rd"); (case zca1 => k_extra "MINE rd"); (case zcF => k_asm); (case zcX => k_asm); (case zcK => k_is); k_whole; intro t9 u9 k9; k_extra "MINE fold"))))
  (k_with "M eval Call" => (k_here; (with_reducible show wpAny _ _ (eval (Expr.Call (Expr.Name _ _) [_, _, _] [] _) _) _ _ _); k_dflt (first | ((refine' call_vii ?zcf ?zca0 ?zca1 ?zca2 ?zcF ?zcX ?zcK ?_); (case zcf => k_extra "MINE rv"); (case zca0 => k_extra "MINE rv"); (case zca1 => k_extra "MINE rd"); (case zca2 => k_extra "MINE rd"); (case zcF => k_asm); (case zcX => k_asm); (case zcK => k_is); k_whole; intro t9 u9 k9; k_extra "MINE fold"))))
  trivial
variable {w : World} {p : Program} {loose : List Str} {mean : ExcName → Option Value} {mg mb : Str → Option Value}
section
theorem fold_bd (ns : List Int) : ∀ x : Int, 0 ≤ x ∧ x < 2147483587 → 0 ≤ ns.foldl (fun a n => (a * 48271 + n.fmod 2147483629 + 3030).fmod 2147483587) x ∧ ns.foldl (fun a n => (a * 48271 + n.fmod 2147483629 + 3030).fmod 2147483587) x < 2147483587 := by
  induction ns with
  | nil => intro x h; exact h
  | cons n r ih =>
    intro x _
    exact ih _ ⟨fmod_lo _ (by decide), fmod_hi _ (by decide)⟩
theorem deck_of {w : World} {d lc : Addr} {o : Obj} {ws : List Value} {ns ms : List Int} {q : Nat} {t1 t2 t3 ta tb : Tok}
    (hd : o.IsDictOf (PySem.strKind PySem.Challenge.rw_nt0486_01.row.prog w) (strPairs [(.str (Str.ofString "cells") t1, .ref lc), (.str (Str.ofString "mixed") t2, .int (ms.foldl (fun a n => (a * 48271 + n.fmod 2147483629 + 3030).fmod 2147483587) 3030) ta), (.str (Str.ofString "turn") t3, .int 0 tb)]))
    (hI : IntsAre ws ns) (hlen : ns.length ≤ 16) (lo : (d == sysModules) = false) (hne : @Ne Nat lc d) : DeckIs w d lc o (W.listOf ws.toArray q) 0 :=
  ⟨ws, ns, ta, tb, _, 0, q, rfl, hI, hlen, hd, lo, hne, (fold_bd ms 3030 (by decide)).1, (fold_bd ms 3030 (by decide)).2, by decide, by decide⟩

section
variable {dp un : Nat} {gd : Option (List Code)} {cn : Str} {cs : Scope} {a : Addr} {ccd : Value} {cl : List (Str × Addr)} {outer : List Env} {A₀ : Around} {base h₀ : Heap} {L : Addr} {m : Str → Option Value} {s : Shared} {Q E : Value → Shared → Prop}
theorem off1_of {z : Addr} : ∀ {l : List (Addr × Obj)}, (∀ p ∈ l, p.1 ≠ z) → LCg.Off1 z l
  | [], _ => trivial
  | _ :: _, h => ⟨h _ (.head _), off1_of fun p hp => h p (.tail _ hp)⟩
/-- a def that gives a new list of ints back -/
theorem use_list {f : Addr} {k : Nat} {vs : List Value} {ns : List Int} {rest : List (Addr × Obj)}
    (G : Gives w p loose mean mg mb f k vs [] rest (fun v sel' => ∃ z us q, sel' = [(z, W.listOf (List.toArray us) q)] ∧ v = .ref z ∧ IntsAre us ns))
    (B : Below A₀ base outer h₀) (F : Fr h₀ L s.heap m) (X : (hd.heap_39 w.params).In h₀) (N : News h₀ L s.heap rest) (T : Top p loose mean mg mb h₀) (hk : cs.kind = .function)
    (hd : dp + k ≤ 400) (hu : un + 8 * k ≤ 1000)
    (ret : ∀ z us q h' tk', IntsAre us ns → Fr h₀ L h' m → News h₀ L h' ((z, W.listOf us.toArray q) :: rest) → LCg.Off1 z rest → Q (.ref z) { s with heap := h', toks := tk' }) :
    wpAny (model PySem.Challenge.rw_nt0486_01.row.prog w) (ktrTop dp un gd cn cs L a ccd cl outer) (call (.ref f) vs) Q E s :=
  G dp un gd cn cs a ccd cl outer A₀ base h₀ L m s Q E B F X N (fun _ _ _ h => nomatch h) T hk hd hu fun v sel' h' tk' F' N' hdis P => by
    obtain ⟨z, us, q, rfl, rfl, hI⟩ := P
    exact ret z us q h' tk' hI F' N' (off1_of fun p hp => hdis p hp _ (.head _))

theorem use_list6 {f : Addr} {k : Nat} {vs : List Value} {n0 n1 n2 n3 n4 n5 : Int} {rest : List (Addr × Obj)}
    (G : Gives w p loose mean mg mb f k vs [] rest (fun v sel' => ∃ z us q, sel' = [(z, W.listOf (List.toArray us) q)] ∧ v = .ref z ∧ IntsAre us [n0, n1, n2, n3, n4, n5]))
    (B : Below A₀ base outer h₀) (F : Fr h₀ L s.heap m) (X : (hd.heap_39 w.params).In h₀) (N : News h₀ L s.heap rest) (T : Top p loose mean mg mb h₀) (hk : cs.kind = .function)
    (hd : dp + k ≤ 400) (hu : un + 8 * k ≤ 1000)
    (ret : ∀ z t0 t1 t2 t3 t4 t5 q h' tk', Fr h₀ L h' m → News h₀ L h' ((z, W.listOf #[.int n0 t0, .int n1 t1, .int n2 t2, .int n3 t3, .int n4 t4, .int n5 t5] q) :: rest) → LCg.Off1 z rest → Q (.ref z) { s with heap := h', toks := tk' }) :
    wpAny (model PySem.Challenge.rw_nt0486_01.row.prog w) (ktrTop dp un gd cn cs L a ccd cl outer) (call (.ref f) vs) Q E s :=
  use_list G B F X N T hk hd hu fun z us q h' tk' hI F' N' off => by
    cases hI with | cons _ t1 hI => cases hI with | cons _ t2 hI => cases hI with | cons _ t3 hI => cases hI with | cons _ t4 hI => cases hI with | cons _ t5 hI => cases hI with | cons _ t6 hI => cases hI with | nil =>
    exact ret z t1 t2 t3 t4 t5 t6 q h' tk' F' N' off

/-- _law_matrix -/
theorem use_mat {d lc : Addr} {o l : Obj} {k : Nat} {news r1 rest : List (Addr × Obj)} (D : DeckIs w d lc o l k) (hk1 : k ≤ 100)
    (B : Below A₀ base outer h₀) (F : Fr h₀ L s.heap m) (X : (hd.heap_39 w.params).In h₀) (N : News h₀ L s.heap news) (P1 : Pk lc l news r1) (P2 : Pk d o r1 rest) (T : Top p loose mean mg mb h₀) (hk : cs.kind = .function)
    (hd : dp + 4 ≤ 400) (hu : un + 32 ≤ 1000)
    (ret : ∀ o' l' x q a b c e g i t1 t2 t3 t4 t5 t6 h' tk', Fr h₀ L h' m → News h₀ L h' ((x, W.listOf #[.int a t1, .int b t2, .int c t3, .int e t4, .int g t5, .int i t6] q) :: (lc, l') :: (d, o') :: rest) → @Ne Nat x lc → @Ne Nat x d → LCg.Off1 x rest → (∀ p ∈ rest, p.1 ≠ lc) → (∀ p ∈ rest, p.1 ≠ d) → @Ne Nat d lc →
      Bd 2000000000 a → Bd 2000000000 b → Bd 2000000000 c → Bd 2000000000 e → Bd 2000000000 g → Bd 2000000000 i → DeckIs w d lc o' l' (k + 11) → Q (.ref x) { s with heap := h', toks := tk' }) :
    wpAny (model PySem.Challenge.rw_nt0486_01.row.prog w) (ktrTop dp un gd cn cs L a ccd cl outer) (call (.ref 239) [.ref d]) Q E s :=
  have S1 := P1.sub
  have S2 := P2.sub
  mat_gives D hk1 dp un gd cn cs a ccd cl outer A₀ base h₀ L m s Q E B F X (fun q hq => N q (by
      rcases List.mem_cons.mp hq with rfl | hq
      · exact S1.1
      rcases List.mem_cons.mp hq with rfl | hq
      · exact S1.2.1 _ S2.1
      · exact S1.2.1 _ (S2.2.1 _ hq)))
    (fun q hq r hr => by
      rcases List.mem_cons.mp hr with rfl | hr
      · exact S1.2.2 q (S2.2.1 q hq)
      · rw [List.mem_singleton.mp hr]; exact S2.2.2 q hq)
    T hk hd hu fun v sel' h' tk' F' N' hdis P => by
    obtain ⟨o', l', x, vs, q, a, b, c, e, g, i, rfl, rfl, hI, n1, n2, b1, b2, b3, b4, b5, b6, D'⟩ := P
    cases hI with | cons _ t1 hI => cases hI with | cons _ t2 hI => cases hI with | cons _ t3 hI => cases hI with | cons _ t4 hI => cases hI with | cons _ t5 hI => cases hI with | cons _ t6 hI => cases hI with | nil =>
    exact ret o' l' x q a b c e g i t1 t2 t3 t4 t5 t6 h' tk' F' N' n1 n2 (off1_of fun p hp => hdis p hp _ (.head _)) (fun q hq => S1.2.2 q (S2.2.1 q hq)) S2.2.2 (S1.2.2 _ S2.1) b1 b2 b3 b4 b5 b6 D'
end
section
variable {dp un : Nat} {gd : Option (List Code)} {cn : Str} {cs : Scope} {a : Addr} {ccd : Value} {cl : List (Str × Addr)} {A₀ : Around} {base h₀ : Heap} {L : Addr} {m : Str → Option Value} {s : Shared} {Q E : Value → Shared → Prop}
/-- _law_points_right -/
theorem use_pts {f : Addr} {k : Nat} {vs : List Value} {news rest : List (Addr × Obj)} (P : Pk 253 (tabObj #[]) news rest)
    (G : GivesC w p loose mean mg mb f k vs [(253, tabObj #[])] rest (fun v sel' => ∃ ps, sel' = [(253, tabObj ps)] ∧ v = .bool true))
    (B : Below A₀ base [] h₀) (F : Fr h₀ L s.heap m) (X : (hd.heap_39 w.params).In h₀) (N : News h₀ L s.heap news) (T : Top p loose mean mg mb h₀) (XB : (hd.heap_39 w.params).In base) (TB : Top p loose mean mg mb base) (C : CodeHd base (255, 253).1 (255, 253).2) (hk : cs.kind = .function)
    (hd : dp + k ≤ 400) (hu : un + 8 * k ≤ 1000)
    (ret : ∀ ps h' tk', Fr h₀ L h' m → News h₀ L h' ((253, tabObj ps) :: rest) → Q (.bool true) { s with heap := h', toks := tk' }) :
    wpAny (model PySem.Challenge.rw_nt0486_01.row.prog w) (ktrTop dp un gd cn cs L a ccd cl []) (call (.ref f) vs) Q E s :=
  have S := P.sub
  G dp un gd cn cs a ccd cl A₀ base h₀ L m s Q E B F X (fun q hq => N q (by
      rcases List.mem_cons.mp hq with rfl | hq
      · exact S.1
      · exact S.2.1 _ hq)) (fun q hq r hr => by rw [List.mem_singleton.mp hr]; exact S.2.2 q hq) T XB TB C hk hd hu fun v sel' h' tk' F' N' _ Pv => by
    obtain ⟨ps, rfl, rfl⟩ := Pv
    exact ret ps h' tk' F' N'
end
theorem bd_x {r : Int} (h : 0 ≤ r ∧ r < 2 * 10 ^ Int.toNat 9) : Bd 2000000000 (r - 10 ^ Int.toNat 9) := by
  have e : (10 : Int) ^ Int.toNat 9 = 1000000000 := by decide
  rw [e] at h ⊢
  unfold Bd; omega
theorem bd_y {r : Int} (h : r ∈ [(0 : Int), 1, -1, 500000, -72000000]) : Bd 2000000000 r := by
  simp only [List.mem_cons, List.not_mem_nil, or_false] at h
  unfold Bd; omega
theorem ne_same {prog : Program} {A : Around} {E : Value → Shared → Prop} {s : Shared} {a b : Addr} {xs ys : List Value} {ns ms : List Int} {Q : Value → Shared → Prop} (ha : s.heap.IsList a xs.toArray) (hb : s.heap.IsList b ys.toArray) (hi : IntsAre xs ns) (hj : IntsAre ys ms) (hu : A.units + 64 < cLine) (e : ns = ms)
    (h : Q (.bool false) s) : wpAny (model prog w) A (compareOp .NotEq (.ref a) (.ref b)) Q E s := by
  subst e
  exact ke_ne_ints ha hb hi hj hu (by simpa using h)
section
variable {dp un : Nat} {gd : Option (List Code)} {cn : Str} {cs : Scope} {a : Addr} {ccd : Value} {cl : List (Str × Addr)} {outer : List Env} {A₀ : Around} {base h₀ : Heap} {L : Addr} {m : Str → Option Value} {s : Shared} {Q E : Value → Shared → Prop}
end
theorem ne_two {prog : Program} {A : Around} {E : Value → Shared → Prop} {s : Shared} {h₀ : Heap} {L t u a b c d : Addr} {news : List (Addr × Obj)} {k k' : Nat} {xs ys xs' ys' : List Value} {ns ms : List Int} {Q : Value → Shared → Prop}
    (N : News h₀ L s.heap news) (mt : (t, ({ cls := .type "tuple", data := .seq #[.ref a, .ref b] k } : Obj)) ∈ news) (mu : (u, ({ cls := .type "tuple", data := .seq #[.ref c, .ref d] k' } : Obj)) ∈ news)
    (ha : s.heap.IsList a xs.toArray) (hb : s.heap.IsList b ys.toArray) (hc : s.heap.IsList c xs'.toArray) (hd : s.heap.IsList d ys'.toArray) (ia : IntsAre xs ns) (ib : IntsAre ys ms) (ic : IntsAre xs' ns) (id' : IntsAre ys' ms)
    (hu : A.units + 64 < cLine) (h : Q (.bool false) s) : wpAny (model prog w) A (compareOp .NotEq (.ref t) (.ref u)) Q E s := by
  have sh : SeqAt.shaped (.tuple [.list (ns.map PyData.int), .list (ms.map PyData.int)]) = true := by
    simp [SeqAt.shaped, PyData.canLay0, PyData.canLayAll0, PyData.depth, PyData.depthAll, ke_canLayAll0, ke_depthAll]
  refine ne_dataH (da := .tuple [.list (ns.map PyData.int), .list (ms.map PyData.int)]) (db := .tuple [.list (ns.map PyData.int), .list (ms.map PyData.int)])
    (reads_tuple_at (N.get mt) rfl rfl (ReadsAll.cons (reads_newData ha (ke_carried ia)) (ReadsAll.cons (reads_newData hb (ke_carried ib)) ReadsAll.nil)))
    (reads_tuple_at (N.get mu) rfl rfl (ReadsAll.cons (reads_newData hc (ke_carried ic)) (ReadsAll.cons (reads_newData hd (ke_carried id')) ReadsAll.nil))) sh sh hu ?_
  have e : PyData.eqv (.tuple [.list (ns.map PyData.int), .list (ms.map PyData.int)]) (.tuple [.list (ns.map PyData.int), .list (ms.map PyData.int)]) = true := by
    simp [PyData.eqv, PyData.eqvAll, ked_eqvAll]
  rw [e]
  exact h
theorem eq_pair {prog : Program} {A : Around} {E : Value → Shared → Prop} {s : Shared} {h₀ : Heap} {L t u : Addr} {news : List (Addr × Obj)} {k k' : Nat} {i j i' j' : Int} {t1 t2 t3 t4 : Tok} {Q : Value → Shared → Prop}
    (N : News h₀ L s.heap news) (mt : (t, ({ cls := .type "tuple", data := .seq #[.int i t1, .int j t2] k } : Obj)) ∈ news) (mu : (u, ({ cls := .type "tuple", data := .seq #[.int i' t3, .int j' t4] k' } : Obj)) ∈ news)
    (hu : A.units + 64 < cLine) (e1 : i = i') (e2 : j = j') (h : Q (.bool true) s) : wpAny (model prog w) A (compareOp .Eq (.ref t) (.ref u)) Q E s := by
  subst e1 e2
  have sh : SeqAt.shaped (.tuple [.int i, .int j]) = true := by
    simp [SeqAt.shaped, PyData.canLay0, PyData.canLayAll0, PyData.depth, PyData.depthAll]
  refine eq_dataH (da := .tuple [.int i, .int j]) (db := .tuple [.int i, .int j])
    (reads_tuple_at (N.get mt) rfl rfl (ReadsAll.cons (Reads.int _ _) (ReadsAll.cons (Reads.int _ _) ReadsAll.nil)))
    (reads_tuple_at (N.get mu) rfl rfl (ReadsAll.cons (Reads.int _ _) (ReadsAll.cons (Reads.int _ _) ReadsAll.nil))) sh sh hu ?_
  have e : PyData.eqv (.tuple [.int i, .int j]) (.tuple [.int i, .int j]) = true := by
    simp [PyData.eqv, PyData.eqvAll]
  rw [e]
  exact h
end
end
section
variable {w : World} {p : Program} {loose : List Str} {mean : ExcName → Option Value} {mg mb : Str → Option Value}
section
theorem noPy2 {x y : Int} (h1 : -(2 ^ 210) ≤ y) (h2 : y ≤ 2 ^ 210) : Builtin.divisionGoesByPylong x y = false := by
  refine PyProof.noPylong_of_log2 ?_
  by_cases h0 : y.natAbs = 0
  · rw [h0]; decide +kernel
  · have h30 : y.natAbs.log2 < 211 := (Nat.log2_lt h0).mpr (by omega)
    omega
end
theorem say_22 : True := by
  (k_with "M binaryOp FloorDiv int int" => (k_here; (with_reducible refine floordiv_int ?zne ?_ (Or.inl (noPy2 ?zh1 ?zh2))); (case zne => omega); (case zh1 => omega); (case zh2 => omega)))
  trivial
variable {w : World} {p : Program} {loose : List Str} {mean : ExcName → Option Value} {mg mb : Str → Option Value}
section
theorem div_big {n b : Int} {tn tb : Tok} {rest : List (Addr × Obj)} (hb : b ≠ 0) (hb1 : -(2 ^ 200) < b) (hb2 : b < 2 ^ 200) :
    Gives w p loose mean mg mb 54 1 [.int n tn, .int b tb] [] rest (fun v sel' => sel' = [] ∧ ∃ t, v = .int (nearF n b) t) := by
  unfold Gives
  k_fill
  intro dp un gd cn cs a ccd cl outer A₀ base h₀ L m s Q E B F X N hdis T hk hd hu hret
  have hrl9 : 500 < recursionLimit := by decide
  refine wpAny_call ?_
  k_dflt (walk_at "MINE enter")
  k_steps
  all_goals (refine bodyEnd_of rfl (by assumption) News.nil ⟨rfl, vint ?_⟩)
  all_goals (rw [ab, ab]; try simp only [decide_eq_true_eq, decide_eq_false_iff_not, Bool.not_eq_true, Bool.not_eq_false, beq_iff_eq, beq_eq_false_iff_ne, ne_eq, decide_eq_decide] at *)
  all_goals (first
    | exact nf_pos (by omega) (by omega) (by omega)
    | exact nf_neg (by omega) (by omega) (by omega))
theorem use_int_at {f : Addr} {k : Nat} {vs : List Value} {x y : Int} {dp un : Nat} {gd : Option (List Code)} {cn : Str} {cs : Scope} {a : Addr} {ccd : Value} {cl : List (Str × Addr)} {outer : List Env} {A₀ : Around} {base h₀ : Heap} {L : Addr} {m : Str → Option Value} {s : Shared} {Q E : Value → Shared → Prop} {rest : List (Addr × Obj)}
    (G : Gives w p loose mean mg mb f k vs [] rest (fun v sel' => sel' = [] ∧ ∃ t, v = .int x t)) (e : x = y)
    (B : Below A₀ base outer h₀) (F : Fr h₀ L s.heap m) (X : (hd.heap_39 w.params).In h₀) (N : News h₀ L s.heap rest) (T : Top p loose mean mg mb h₀) (hk : cs.kind = .function)
    (hd : dp + k ≤ 400) (hu : un + 8 * k ≤ 1000)
    (ret : ∀ t h' tk', Fr h₀ L h' m → News h₀ L h' rest → Q (.int y t) { s with heap := h', toks := tk' }) :
    wpAny (model PySem.Challenge.rw_nt0486_01.row.prog w) (ktrTop dp un gd cn cs L a ccd cl outer) (call (.ref f) vs) Q E s := by
  subst e
  exact use_int G B F X N T hk hd hu ret
end
theorem say_23 : True := by
  (k_with "M call ref" => k_dflt (k_here; (with_reducible show wpAny _ _ (PySem.call (Value.ref 54) [Value.int _ _, Value.int _ _]) _ _ _); (refine' use_int (div_big ?zhb ?zh1 ?zh2) ?zB ?zF ?zX ?zN ?zT ?zk ?zd ?zu ?_); k_extra "MINE std"; k_extra "MINE nz"; k_whole; intro t9 h9 tk9 F9 N9; k_extra "MINE end"))
  trivial
variable {w : World} {p : Program} {loose : List Str} {mean : ExcName → Option Value} {mg mb : Str → Option Value}
section
theorem fcos0 {t : Tok} {rest : List (Addr × Obj)} : Gives w p loose mean mg mb 75 4 [.int 0 t] [] rest (fun v sel' => sel' = [] ∧ ∃ t, v = .int (1000000000000000000000000000000000000) t) := by
  unfold Gives
  k_fill
  intro dp un gd cn cs a ccd cl outer A₀ base h₀ L m s Q E B F X N hdis T hk hd hu hret
  have hrl9 : 500 < recursionLimit := by decide
  refine wpAny_call ?_
  k_dflt (walk_at "MINE enter")
  k_steps
  all_goals (refine bodyEnd_of rfl (by assumption) News.nil ⟨rfl, vint ?_⟩)
  all_goals decide +kernel
theorem fcos0_at {x : Int} (e : x = 0) {t : Tok} {rest : List (Addr × Obj)} : Gives w p loose mean mg mb 75 4 [.int x t] [] rest (fun v sel' => sel' = [] ∧ ∃ t, v = .int (1000000000000000000000000000000000000) t) := by
  subst e; exact fcos0
theorem fsin0 {t : Tok} {rest : List (Addr × Obj)} : Gives w p loose mean mg mb 68 4 [.int 0 t] [] rest (fun v sel' => sel' = [] ∧ ∃ t, v = .int (0) t) := by
  unfold Gives
  k_fill
  intro dp un gd cn cs a ccd cl outer A₀ base h₀ L m s Q E B F X N hdis T hk hd hu hret
  have hrl9 : 500 < recursionLimit := by decide
  refine wpAny_call ?_
  k_dflt (walk_at "MINE enter")
  k_steps
  all_goals (refine bodyEnd_of rfl (by assumption) News.nil ⟨rfl, vint ?_⟩)
  all_goals decide +kernel
theorem fsin0_at {x : Int} (e : x = 0) {t : Tok} {rest : List (Addr × Obj)} : Gives w p loose mean mg mb 68 4 [.int x t] [] rest (fun v sel' => sel' = [] ∧ ∃ t, v = .int (0) t) := by
  subst e; exact fsin0
end
theorem say_24 : True := by
  (k_with "M call ref" => k_dflt (k_here; (with_reducible show wpAny _ _ (PySem.call (Value.ref _) [Value.int _ _]) _ _ _); (first | ((refine' use_int (fcos0_at ?ze) ?zB ?zF ?zX ?zN ?zT ?zk ?zd ?zu ?_); (case ze => decide +kernel)) | ((refine' use_int (fsin0_at ?ze) ?zB ?zF ?zX ?zN ?zT ?zk ?zd ?zu ?_); (case ze => decide +kernel))); k_extra "MINE std"; k_whole; intro t9 h9 tk9 F9 N9; k_extra "MINE end"))
  trivial
variable {w : World} {p : Program} {loose : List Str} {mean : ExcName → Option Value} {mg mb : Str → Option Value}
section
theorem sin0 {t : Tok} {rest : List (Addr × Obj)} : Gives w p loose mean mg mb 82 5 [.int 0 t] [] rest (fun v sel' => sel' = [] ∧ ∃ t, v = .int (0) t) := by
  unfold Gives
  k_fill
  intro dp un gd cn cs a ccd cl outer A₀ base h₀ L m s Q E B F X N hdis T hk hd hu hret
  have hrl9 : 500 < recursionLimit := by decide
  refine wpAny_call ?_
  k_dflt (walk_at "MINE enter")
  k_steps
  all_goals (refine bodyEnd_of rfl (by assumption) News.nil ⟨rfl, vint ?_⟩)
  all_goals decide +kernel
theorem sin0_at {x : Int} (e : x = 0) {t : Tok} {rest : List (Addr × Obj)} : Gives w p loose mean mg mb 82 5 [.int x t] [] rest (fun v sel' => sel' = [] ∧ ∃ t, v = .int (0) t) := by
  subst e; exact sin0
theorem sin1 {t : Tok} {rest : List (Addr × Obj)} : Gives w p loose mean mg mb 82 5 [.int 90000000 t] [] rest (fun v sel' => sel' = [] ∧ ∃ t, v = .int (1000000) t) := by
  unfold Gives
  k_fill
  intro dp un gd cn cs a ccd cl outer A₀ base h₀ L m s Q E B F X N hdis T hk hd hu hret
  have hrl9 : 500 < recursionLimit := by decide
  refine wpAny_call ?_
  k_dflt (walk_at "MINE enter")
  k_steps
  all_goals (refine bodyEnd_of rfl (by assumption) News.nil ⟨rfl, vint ?_⟩)
  all_goals decide +kernel
theorem sin1_at {x : Int} (e : x = 90000000) {t : Tok} {rest : List (Addr × Obj)} : Gives w p loose mean mg mb 82 5 [.int x t] [] rest (fun v sel' => sel' = [] ∧ ∃ t, v = .int (1000000) t) := by
  subst e; exact sin1
theorem sin2 {t : Tok} {rest : List (Addr × Obj)} : Gives w p loose mean mg mb 82 5 [.int 180000000 t] [] rest (fun v sel' => sel' = [] ∧ ∃ t, v = .int (0) t) := by
  unfold Gives
  k_fill
  intro dp un gd cn cs a ccd cl outer A₀ base h₀ L m s Q E B F X N hdis T hk hd hu hret
  have hrl9 : 500 < recursionLimit := by decide
  refine wpAny_call ?_
  k_dflt (walk_at "MINE enter")
  k_steps
  all_goals (refine bodyEnd_of rfl (by assumption) News.nil ⟨rfl, vint ?_⟩)
  all_goals decide +kernel
theorem sin2_at {x : Int} (e : x = 180000000) {t : Tok} {rest : List (Addr × Obj)} : Gives w p loose mean mg mb 82 5 [.int x t] [] rest (fun v sel' => sel' = [] ∧ ∃ t, v = .int (0) t) := by
  subst e; exact sin2
theorem sin3 {t : Tok} {rest : List (Addr × Obj)} : Gives w p loose mean mg mb 82 5 [.int 270000000 t] [] rest (fun v sel' => sel' = [] ∧ ∃ t, v = .int (-1000000) t) := by
  unfold Gives
  k_fill
  intro dp un gd cn cs a ccd cl outer A₀ base h₀ L m s Q E B F X N hdis T hk hd hu hret
  have hrl9 : 500 < recursionLimit := by decide
  refine wpAny_call ?_
  k_dflt (walk_at "MINE enter")
  k_steps
  all_goals (refine bodyEnd_of rfl (by assumption) News.nil ⟨rfl, vint ?_⟩)
  all_goals decide +kernel
theorem sin3_at {x : Int} (e : x = 270000000) {t : Tok} {rest : List (Addr × Obj)} : Gives w p loose mean mg mb 82 5 [.int x t] [] rest (fun v sel' => sel' = [] ∧ ∃ t, v = .int (-1000000) t) := by
  subst e; exact sin3
theorem sin4 {t : Tok} {rest : List (Addr × Obj)} : Gives w p loose mean mg mb 82 5 [.int 360000000 t] [] rest (fun v sel' => sel' = [] ∧ ∃ t, v = .int (0) t) := by
  unfold Gives
  k_fill
  intro dp un gd cn cs a ccd cl outer A₀ base h₀ L m s Q E B F X N hdis T hk hd hu hret
  have hrl9 : 500 < recursionLimit := by decide
  refine wpAny_call ?_
  k_dflt (walk_at "MINE enter")
  k_steps
  all_goals (refine bodyEnd_of rfl (by assumption) News.nil ⟨rfl, vint ?_⟩)
  all_goals decide +kernel
theorem sin4_at {x : Int} (e : x = 360000000) {t : Tok} {rest : List (Addr × Obj)} : Gives w p loose mean mg mb 82 5 [.int x t] [] rest (fun v sel' => sel' = [] ∧ ∃ t, v = .int (0) t) := by
  subst e; exact sin4
end
end
section
theorem say_25 : True := by
  k_with_none
  (k_with "MINE ix" => first | exact nth_mem (i := 0) rfl | exact nth_mem (i := 1) rfl | exact nth_mem (i := 2) rfl | exact nth_mem (i := 3) rfl | exact nth_mem (i := 4) rfl | exact nth_mem (i := 5) rfl | exact nth_mem (i := 6) rfl | exact nth_mem (i := 7) rfl | ((refine memT rfl ?_); k_extra "MINE ix"))
  (k_with "MINE fx" => ((case zh => with_reducible assumption); (case ze => k_extra "MINE ix")))
  (k_with "MINE ne2" => first | ((refine' off_at ?zh ?ze); k_extra "MINE fx") | ((refine' ne0_at ?zh ?ze); k_extra "MINE fx") | ((refine' offD_at ?zh ?ze); k_extra "MINE fx") | ((refine' offC_at ?zh ?ze); k_extra "MINE fx") | ((refine' offI_at ?zh ?ze); k_extra "MINE fx") | ((refine' offA_at ?zh ?ze); k_extra "MINE fx") | ((refine' ne1_at ?zh ?ze); k_extra "MINE fx") | ((refine' ne2_at ?zh ?ze); k_extra "MINE fx") | ((refine' ne3_at ?zh ?ze); k_extra "MINE fx") | ((refine' ne4_at ?zh ?ze); k_extra "MINE fx") | ((refine' ne5_at ?zh ?ze); k_extra "MINE fx") | ((refine' neT_at ?zh ?ze ?zg); (case zg => with_reducible assumption); k_extra "MINE fx"))
  (k_with "MINE ne3" => first | exact And.left (by with_reducible assumption) | exact And.left (And.right (by with_reducible assumption)) | exact And.right (by with_reducible assumption) | exact And.left (And.right (And.right (by with_reducible assumption))) | exact And.right (And.right (by with_reducible assumption)) | exact And.left (And.right (And.right (And.right (by with_reducible assumption)))) | exact And.right (And.right (And.right (by with_reducible assumption))) | exact And.left (And.right (And.right (And.right (And.right (by with_reducible assumption))))) | exact And.right (And.right (And.right (And.right (by with_reducible assumption)))) | exact And.left (And.right (And.right (And.right (And.right (And.right (by with_reducible assumption)))))) | exact And.right (And.right (And.right (And.right (And.right (by with_reducible assumption))))))
  (k_with "MINE ne1" => with_reducible first | assumption | exact Ne.symm (by assumption) | exact Nat.ne_of_lt (by assumption) | exact Nat.ne_of_gt (by assumption) | exact Nat.ne_of_lt (Nat.lt_succ_of_lt (by assumption)) | exact Nat.ne_of_gt (Nat.lt_succ_of_lt (by assumption)))
  (k_with "M k_ne" => ((try dsimp only); (refine neN ?_); first | k_extra "MINE ne1" | exact Nat.ne_of_lt (Nat.lt_succ_self _) | exact Nat.ne_of_gt (Nat.lt_succ_self _) | k_extra "MINE ne2" | (refine Ne.symm ?_; k_extra "MINE ne2") | k_extra "MINE ne3" | (refine Ne.symm ?_; k_extra "MINE ne3") | k_extra "MINE nesay"))
  (k_with "MINE nesay" => (k_extra "MINE split"; first | k_extra "MINE ne1" | ((repeat ((rename (@Ne Nat _ _) => h9); clear h9)); omega)))
  (k_with "M k_all" => first | with_reducible assumption | exact List.forall_mem_nil _ | ((refine' List.forall_mem_cons.mpr ⟨?za, ?zb⟩); (case za => k_ne); (case zb => k_all)))
  (k_with "MINE split" => repeat ((rename _ ∧ _ => h9); cases h9))
  (k_with "MINE ca" => ((case zkA => exact rfl); (case zkF => exact rfl); (case zkK => first | exact rfl | assumption)))
  (k_with "MINE cs" => ((case zk6 => k_is); (case zk7 => k_is); (case zk8 => ktr_room); (case zk9 => exact BindsTo.of_eq rfl); k_extra "MINE c3"))
  (k_with "MINE c3" => ((case zc2 => exact rfl); (case zc3 => exact rfl); (case zc4 => exact rfl)))
  (k_with "MINE k5" => ((case zk1 => k_asm); (case zk2 => k_asm); (case zk3 => k_asm); (case zk4 => k_asm); (case zk5 => k_asm)))
  (k_with "MINE a7" => ((case ze1 => assumption); (case ze2 => assumption); (case ze3 => assumption); (case ze4 => assumption); (case ze5 => assumption); (case ze6 => assumption); (case ze7 => assumption)))
  (k_with "MINE pl" => ((case zc5 => decide); (case zkB => exact locs rfl)))
  (k_with "MINE ce" => ((case zkB => exact rfl); (case zkD => decide +kernel)))
  (k_with "MINE fold" => ((try dsimp only); (try k_fold)))
  (k_with "MINE end" => (k_sweep; (try dsimp only); (try k_fold)))
  (k_with "MINE ent" => (k_whole; intro g' L' h' FG' F' N' B' X' T'; (try (have hlN := Fr.lst FG' (by assumption))); (try dsimp only); (try k_lift B'); (try k_fold)))
  (k_with "MINE enter" => ((refine' enterR ?ze1 ?ze2 ?ze3 ?ze4 ?ze5 ?ze6 ?zkA ?zkF ?zkK ?zk6 ?zk7 ?zk8 ?zk9 ?zkB ?ze7 ?_ ?zc2 ?zc3 ?zc4 ?zc5); k_extra "MINE a7"; k_extra "MINE ca"; k_extra "MINE cs"; k_extra "MINE pl"; k_whole; intro g' L' h' F' N' B' X' T' l1 hrest' st'; (try dsimp only); (try k_lift B'); (try k_fold)))
  (k_with "MINE enterC" => ((refine' enterRC ?ze1 ?ze2 ?ze3 ?ze4 ?ze5 ?ze6 ?zkA ?zkF ?zkK ?zk6 ?zk7 ?zk8 ?zk9 ?zkB ?zkD ?ze7 ?_ ?zc2 ?zc3 ?zc4); k_extra "MINE a7"; k_extra "MINE ca"; k_extra "MINE cs"; k_extra "MINE ce"; k_whole; intro g' L' h' tk' cells' F' N' Y' B' X' T' l1 hrest' st'; k_cells Y'; (try simp only [List.cons_append, List.nil_append] at N'); (try dsimp only); (try k_lift B'); (try k_fold)))
  (k_with "M units_room" => (have hcL9 := cLine_is; (try simp only [units_in1, units_deeper, Around.mark_units, units_caller]); (try dsimp only [ktrTop]); omega))
  (k_with "MINE room" => first | decide | ((try simp only [depth_in1, depth_deeper, units_in1, units_deeper, Around.mark_units]); (try dsimp only [ktrTop]); omega))
  (k_with "M binaryOp FloorDiv int int" => (k_here; (with_reducible refine floordiv_int ?zne ?_ (Or.inl (noPy ?zh1 ?zh2))); (case zne => omega); (case zh1 => omega); (case zh2 => omega)))
  (k_with "M callWith ref nil nil" => (k_here; k_dflt (refine' callWith_K ?zk1 ?zk2 ?_; (case zk1 => k_asm); (case zk2 => k_is); k_whole)))
  (k_with "M call ref" => k_dflt (k_here; refine wpAny_call ?_; first | ((refine' code_def ?zk1 ?zk2 ?zk3 ?zk4 ?zk5 ?zkA ?zkF ?zkK ?zk6 ?zk7 ?zk8 ?zk9 ?zkB ?_ ?zc2 ?zc3 ?zc4 ?zc5); k_extra "MINE ca"; k_extra "MINE k5"; k_extra "MINE cs"; k_extra "MINE pl"; k_extra "MINE ent") | ((refine' code_defC ?zk1 ?zk2 ?zk3 ?zk4 ?zk5 ?zkA ?zkF ?zkK ?zk6 ?zk7 ?zk8 ?zk9 ?zkB ?zkD ?_ ?zc2 ?zc3 ?zc4); k_extra "MINE ca"; k_extra "MINE k5"; k_extra "MINE cs"; k_extra "MINE ce"; k_whole; intro g' L' h' tk' cells' FG' F' N' Y' B' X' T' l1; (try (have hlN := Fr.lst FG' (by assumption))); k_cells Y'; (try simp only [List.cons_append, List.nil_append] at N'); (try dsimp only); (try k_lift B'); (try k_fold))))
  (k_with "M call ref" => k_dflt (k_here; kn_here; refine wpAny_call ?_; (refine' kla_code ?zk1 ?zk2 ?zk3 ?zk4 ?zk5 ?zkA ?zkF ?zkK ?zk6 ?zk7 ?zk8 ?zk9 ?zkB ?_ ?zc2 ?zc3 ?zc4 ?zc5); k_extra "MINE ca"; k_extra "MINE k5"; (case zk6 => k_mem); (case zk7 => exact codeRec_news (by k_asm) (by k_mem) (by assumption) (by assumption)); (case zk8 => ktr_room); (case zk9 => exact rfl); k_extra "MINE c3"; k_extra "MINE pl"; k_extra "MINE ent"))
  (k_with "MINE std" => ((case zB => k_asm); (case zF => k_asm); (case zX => k_asm); (case zN => k_asm); (case zT => k_asm); (case zk => first | exact rfl | assumption); (case zd => k_extra "MINE room"); (case zu => k_extra "MINE room")))
  (k_with "MINE b4" => ((case zb0 => k_extra "MINE bd"); (case zb1 => k_extra "MINE bd"); (case zb2 => k_extra "MINE bd"); (case zb3 => k_extra "MINE bd")))
  (k_with "MINE b6" => (k_extra "MINE b4"; (case zb4 => k_extra "MINE bd"); (case zb5 => k_extra "MINE bd")))
  (k_with "MINE bd" => assumption)
  (k_with "MINE nz" => ((case zhb => k_extra "MINE n0"); (case zh1 => k_extra "MINE n0"); (case zh2 => k_extra "MINE n0")))
  (k_with "MINE n0" => first | decide | assumption | omega)
  (k_with "MINE rv" => first | ((refine' RdV.fr ?zvF ?zvl ?zvv ?zvk ?zvx ?zvd); (case zvx => exact rfl); (case zvF => k_asm); (case zvl => exact rfl); (case zvv => exact rfl); (case zvk => first | exact rfl | assumption); (case zvd => decide)) | ((refine' RdV.glob ?zvF ?zvX ?zvT ?zve ?zvg ?zvk ?zvx ?zvd); (case zvx => exact rfl); (case zvF => k_asm); (case zvX => k_asm); (case zvT => k_asm); (case zve => k_is); (case zvg => exact rfl); (case zvk => first | exact rfl | assumption); (case zvd => decide)) | ((refine' RdV.cell ?zvN ?zvc ?zvm ?zvo ?zvk ?zvx ?zvd); (case zvx => exact rfl); (case zvN => k_asm); (case zvc => exact rfl); (case zvm => k_mem); (case zvo => k_asm); (case zvk => first | exact rfl | assumption); (case zvd => decide)) | ((refine' RdV.free ?zvN ?zvc ?zvm ?zvo ?zvk ?zvx ?zvd ?zvh); (case zvx => exact rfl); (case zvN => k_asm); (case zvc => exact rfl); (case zvm => k_mem); (case zvo => k_asm); (case zvk => first | exact rfl | assumption); (case zvd => decide); (case zvh => decide)) | ((refine' RdV.own ?zvN ?zvm ?zvC ?zvv ?zvk ?zvx ?zvd); (case zvx => exact rfl); (case zvN => k_asm); (case zvm => k_mem); (case zvC => assumption); (case zvv => first | assumption | exact rfl); (case zvk => first | exact rfl | assumption); (case zvd => decide)))
  (k_with "MINE rds" => first | ((fail_if_success (with_reducible show Rd _ _ _)); (fail_if_success (with_reducible show IntMulOk _ _)); (fail_if_success (with_reducible show _ ≠ _))) | k_extra "MINE rd" | ((with_reducible show IntMulOk _ _); mul_fits) | ((with_reducible show _ ≠ _); first | decide | omega))
  (k_with "MINE rd" => first | exact Rd.const | ((refine' Rd.mul ?_ ?_ ?_) <;> k_extra "MINE rds") | ((refine' Rd.add ?_ ?_) <;> k_extra "MINE rds") | ((refine' Rd.sub ?_ ?_) <;> k_extra "MINE rds") | ((refine' Rd.neg ?_) <;> k_extra "MINE rds") | ((refine' Rd.mod ?_ ?_ ?_) <;> k_extra "MINE rds") | ((refine' Rd.item ?zrn ?zrl ?zrk ?zri); (case zrn => k_extra "MINE rv"); (case zrl => is_list); (case zrk => decide); (case zri => exact rfl)) | ((refine' Rd.atN ?zrn ?zrl ?zr2 ?zrk ?zri); (case zrn => k_extra "MINE rv"); (case zr2 => k_extra "MINE rd"); (case zrl => is_list); (case zrk => decide); (case zri => exact rfl)) | ((refine' Rd.atB ?zsn ?zsl ?zs2 ?zsk ?zsi); (case zsn => k_extra "MINE rv"); (case zs2 => k_extra "MINE rd"); (case zsl => is_list); (case zsk => decide); (case zsi => exact rfl)) | ((refine' Rd.of ?zrv); (case zrv => k_extra "MINE rv")))
  (k_with "M eval BinOp" => (k_here; (with_reducible show wpAny _ _ (eval (Expr.BinOp _ _ _ _) _) _ _ _); k_dflt ((refine' Rd.use ?zrR ?_); (case zrR => k_extra "MINE rd"); k_whole; intro t9 k9; k_extra "MINE fold")))
  (k_with "M eval Subscript" => (k_here; (with_reducible show wpAny _ _ (eval (Expr.Subscript (Expr.Name _ _) _ _) _) _ _ _); k_dflt ((refine' Rd.use ?zrR ?_); (case zrR => k_extra "MINE rd"); k_whole; intro t9 k9; k_extra "MINE fold")))
  (k_with "M eval Call" => (k_here; (with_reducible show wpAny _ _ (eval (Expr.Call (Expr.Name _ _) [_] [] _) _) _ _ _); k_dflt (first | ((refine' call_v ?zcf ?zca0 ?zcF ?zcX ?zcK ?_); (case zcf => k_extra "MINE rv"); (case zca0 => k_extra "MINE rv"); (case zcF => k_asm); (case zcX => k_asm); (case zcK => k_is); k_whole; intro k9; k_extra "MINE fold") | ((refine' call_i ?zcf ?zca0 ?zcF ?zcX ?zcK ?_); (case zcf => k_extra "MINE rv"); (case zca0 => k_extra "MINE rd"); (case zcF => k_asm); (case zcX => k_asm); (case zcK => k_is); k_whole; intro t9 k9; k_extra "MINE fold"))))
  (k_with "M eval Call" => (k_here; (with_reducible show wpAny _ _ (eval (Expr.Call (Expr.Name _ _) [_, _] [] _) _) _ _ _); k_dflt (first | ((refine' call_vv ?zcf ?zca0 ?zca1 ?zcF ?zcX ?zcK ?_); (case zcf => k_extra "MINE rv"); (case zca0 => k_extra "MINE rv"); (case zca1 => k_extra "MINE rv"); (case zcF => k_asm); (case zcX => k_asm); (case zcK => k_is); k_whole; intro k9; k_extra "MINE fold") | ((refine' call_vi ?zcf ?zca0 ?zca1 ?zcF ?zcX ?zcK ?_); (case zcf => k_extra "MINE rv"); (case zca0 => k_extra "MINE rv"); (case zca1 => k_extra "MINE rd"); (case zcF => k_asm); (case zcX => k_asm); (case zcK => k_is); k_whole; intro t9 k9; k_extra "MINE fold") | ((refine' call_ii ?zcf ?zca0 ?zca1 ?zcF ?zcX ?zcK ?_); (case zcf => k_extra "MINE rv"); (case zca0 => k_extra "MINE rd"); (case zca1 => k_extra "MINE rd"); (case zcF => k_asm); (case zcX => k_asm); (case zcK => k_is); k_whole; intro t9 u9 k9; k_extra "MINE fold"))))
  (k_with "M eval Call" => (k_here; (with_reducible show wpAny _ _ (eval (Expr.Call (Expr.Name _ _) [_, _, _] [] _) _) _ _ _); k_dflt (first | ((refine' call_vii ?zcf ?zca0 ?zca1 ?zca2 ?zcF ?zcX ?zcK ?_); (case zcf => k_extra "MINE rv"); (case zca0 => k_extra "MINE rv"); (case zca1 => k_extra "MINE rd"); (case zca2 => k_extra "MINE rd"); (case zcF => k_asm); (case zcX => k_asm); (case zcK => k_is); k_whole; intro t9 u9 k9; k_extra "MINE fold"))))
  (k_with "M call ref" => k_dflt (k_here; (with_reducible show wpAny _ _ (PySem.call (Value.ref 54) [Value.int _ _, Value.int _ _]) _ _ _); (refine' use_int (div_gives ?zhb ?zh1 ?zh2) ?zB ?zF ?zX ?zN ?zT ?zk ?zd ?zu ?_); k_extra "MINE std"; k_extra "MINE nz"; k_whole; intro t9 h9 tk9 F9 N9; k_extra "MINE end"))
  (k_with "M call ref" => k_dflt (k_here; (with_reducible show wpAny _ _ (PySem.call (Value.ref 234) [Value.int _ _, Value.int _ _]) _ _ _); (refine' use_int (near_gives ?zhb ?zh1 ?zh2) ?zB ?zF ?zX ?zN ?zT ?zk ?zd ?zu ?_); k_extra "MINE std"; k_extra "MINE nz"; k_whole; intro t9 h9 tk9 F9 N9; k_extra "MINE end"))
  (k_with "M call ref" => k_dflt (k_here; (with_reducible show wpAny _ _ (PySem.call (Value.ref 96) [Value.int _ _, Value.int _ _]) _ _ _); (refine' use_int (mq_gives ?zhb ?zh1 ?zh2) ?zB ?zF ?zX ?zN ?zT ?zk ?zd ?zu ?_); k_extra "MINE std"; k_extra "MINE nz"; k_whole; intro t9 h9 tk9 F9 N9; k_extra "MINE end"))
  (k_with "M binaryOp FloorDiv int int" => (k_here; (with_reducible refine floordiv_int ?zne ?_ (Or.inl (noPy2 ?zh1 ?zh2))); (case zne => omega); (case zh1 => omega); (case zh2 => omega)))
  (k_with "M call ref" => k_dflt (k_here; (with_reducible show wpAny _ _ (PySem.call (Value.ref 54) [Value.int _ _, Value.int _ _]) _ _ _); (refine' use_int (div_big ?zhb ?zh1 ?zh2) ?zB ?zF ?zX ?zN ?zT ?zk ?zd ?zu ?_); k_extra "MINE std"; k_extra "MINE nz"; k_whole; intro t9 h9 tk9 F9 N9; k_extra "MINE end"))
  (k_with "M call ref" => k_dflt (k_here; (with_reducible show wpAny _ _ (PySem.call (Value.ref _) [Value.int _ _]) _ _ _); (first | ((refine' use_int (fcos0_at ?ze) ?zB ?zF ?zX ?zN ?zT ?zk ?zd ?zu ?_); (case ze => decide +kernel)) | ((refine' use_int (fsin0_at ?ze) ?zB ?zF ?zX ?zN ?zT ?zk ?zd ?zu ?_); (case ze => decide +kernel))); k_extra "MINE std"; k_whole; intro t9 h9 tk9 F9 N9; k_extra "MINE end"))
  (k_with "M call ref" => k_dflt (k_here; (with_reducible show wpAny _ _ (PySem.call (Value.ref 82) [Value.int _ _]) _ _ _); (first | ((refine' use_int (sin0_at ?ze) ?zB ?zF ?zX ?zN ?zT ?zk ?zd ?zu ?_); (case ze => decide +kernel)) | ((refine' use_int (sin1_at ?ze) ?zB ?zF ?zX ?zN ?zT ?zk ?zd ?zu ?_); (case ze => decide +kernel)) | ((refine' use_int (sin2_at ?ze) ?zB ?zF ?zX ?zN ?zT ?zk ?zd ?zu ?_); (case ze => decide +kernel)) | ((refine' use_int (sin3_at ?ze) ?zB ?zF ?zX ?zN ?zT ?zk ?zd ?zu ?_); (case ze => decide +kernel)) | ((refine' use_int (sin4_at ?ze) ?zB ?zF ?zX ?zN ?zT ?zk ?zd ?zu ?_); (case ze => decide +kernel))); k_extra "MINE std"; k_whole; intro t9 h9 tk9 F9 N9; k_extra "MINE end"))
  trivial
variable {w : World} {p : Program} {loose : List Str} {mean : ExcName → Option Value} {mg mb : Str → Option Value}
section
theorem ints_is {us : List Value} {ns ms : List Int} (h : IntsAre us ns) (e : ns = ms) : IntsAre us ms := e ▸ h
theorem rot0 {t : Tok} {rest : List (Addr × Obj)} : Gives w p loose mean mg mb 124 8 [.int 0 t] [] rest (fun v sel' => ∃ z us q, sel' = [(z, W.listOf (List.toArray us) q)] ∧ v = .ref z ∧ IntsAre us [1000000, 0, 0, 1000000, 0, 0]) := by
  unfold Gives
  k_fill
  intro dp un gd cn cs a ccd cl outer A₀ base h₀ L m s Q E B F X N hdis T hk hd hu hret
  have hrl9 : 500 < recursionLimit := by decide
  refine wpAny_call ?_
  k_dflt (walk_at "MINE enter")
  k_steps
  exact list_end (by assumption) (by assumption) (by k_mem) (ints_is (by l_ints) (by decide))
theorem rot0_at {x : Int} (e : x = 0) {t : Tok} {rest : List (Addr × Obj)} : Gives w p loose mean mg mb 124 8 [.int x t] [] rest (fun v sel' => ∃ z us q, sel' = [(z, W.listOf (List.toArray us) q)] ∧ v = .ref z ∧ IntsAre us [1000000, 0, 0, 1000000, 0, 0]) := by
  subst e; exact rot0
theorem rot1 {t : Tok} {rest : List (Addr × Obj)} : Gives w p loose mean mg mb 124 8 [.int 90000000 t] [] rest (fun v sel' => ∃ z us q, sel' = [(z, W.listOf (List.toArray us) q)] ∧ v = .ref z ∧ IntsAre us [0, 1000000, -1000000, 0, 0, 0]) := by
  unfold Gives
  k_fill
  intro dp un gd cn cs a ccd cl outer A₀ base h₀ L m s Q E B F X N hdis T hk hd hu hret
  have hrl9 : 500 < recursionLimit := by decide
  refine wpAny_call ?_
  k_dflt (walk_at "MINE enter")
  k_steps
  exact list_end (by assumption) (by assumption) (by k_mem) (ints_is (by l_ints) (by decide))
theorem rot1_at {x : Int} (e : x = 90000000) {t : Tok} {rest : List (Addr × Obj)} : Gives w p loose mean mg mb 124 8 [.int x t] [] rest (fun v sel' => ∃ z us q, sel' = [(z, W.listOf (List.toArray us) q)] ∧ v = .ref z ∧ IntsAre us [0, 1000000, -1000000, 0, 0, 0]) := by
  subst e; exact rot1
theorem rot2 {t : Tok} {rest : List (Addr × Obj)} : Gives w p loose mean mg mb 124 8 [.int 180000000 t] [] rest (fun v sel' => ∃ z us q, sel' = [(z, W.listOf (List.toArray us) q)] ∧ v = .ref z ∧ IntsAre us [-1000000, 0, 0, -1000000, 0, 0]) := by
  unfold Gives
  k_fill
  intro dp un gd cn cs a ccd cl outer A₀ base h₀ L m s Q E B F X N hdis T hk hd hu hret
  have hrl9 : 500 < recursionLimit := by decide
  refine wpAny_call ?_
  k_dflt (walk_at "MINE enter")
  k_steps
  exact list_end (by assumption) (by assumption) (by k_mem) (ints_is (by l_ints) (by decide))
theorem rot2_at {x : Int} (e : x = 180000000) {t : Tok} {rest : List (Addr × Obj)} : Gives w p loose mean mg mb 124 8 [.int x t] [] rest (fun v sel' => ∃ z us q, sel' = [(z, W.listOf (List.toArray us) q)] ∧ v = .ref z ∧ IntsAre us [-1000000, 0, 0, -1000000, 0, 0]) := by
  subst e; exact rot2
theorem rot3 {t : Tok} {rest : List (Addr × Obj)} : Gives w p loose mean mg mb 124 8 [.int 270000000 t] [] rest (fun v sel' => ∃ z us q, sel' = [(z, W.listOf (List.toArray us) q)] ∧ v = .ref z ∧ IntsAre us [0, -1000000, 1000000, 0, 0, 0]) := by
  unfold Gives
  k_fill
  intro dp un gd cn cs a ccd cl outer A₀ base h₀ L m s Q E B F X N hdis T hk hd hu hret
  have hrl9 : 500 < recursionLimit := by decide
  refine wpAny_call ?_
  k_dflt (walk_at "MINE enter")
  k_steps
  exact list_end (by assumption) (by assumption) (by k_mem) (ints_is (by l_ints) (by decide))
theorem rot3_at {x : Int} (e : x = 270000000) {t : Tok} {rest : List (Addr × Obj)} : Gives w p loose mean mg mb 124 8 [.int x t] [] rest (fun v sel' => ∃ z us q, sel' = [(z, W.listOf (List.toArray us) q)] ∧ v = .ref z ∧ IntsAre us [0, -1000000, 1000000, 0, 0, 0]) := by
  subst e; exact rot3
end
end
section
variable {w : World} {p : Program} {loose : List Str} {mean : ExcName → Option Value} {mg mb : Str → Option Value}
section
/-- the quarter, its cosine and its sine -/
def Quart (r c s : Int) : Prop := (r = 0 ∧ c = 1 ∧ s = 0) ∨ (r = 1 ∧ c = 0 ∧ s = 1) ∨ (r = 2 ∧ c = -1 ∧ s = 0) ∨ (r = 3 ∧ c = 0 ∧ s = -1)
theorem mul_small {a b : Int} (h1 : -4000000 ≤ a) (h2 : a ≤ 4000000) : IntMulOk a b := PySem.IntMulOk.of_left (PySem.intBits_le_64 (by omega) (by omega))
theorem mul_qr {r c s b : Int} (q : Quart r c s) : IntMulOk (90 * r) b := mul_small (by unfold Quart at q; omega) (by unfold Quart at q; omega)
theorem mul_qc {r c s b : Int} (q : Quart r c s) : IntMulOk c b := mul_small (by unfold Quart at q; omega) (by unfold Quart at q; omega)
theorem mul_qs {r c s b : Int} (q : Quart r c s) : IntMulOk s b := mul_small (by unfold Quart at q; omega) (by unfold Quart at q; omega)
theorem mul_qn {r c s b : Int} (q : Quart r c s) : IntMulOk (-s) b := mul_small (by unfold Quart at q; omega) (by unfold Quart at q; omega)
theorem bd_qc {r c s : Int} (q : Quart r c s) : Bd 2000000000 (c * 1000000) := by unfold Quart at q; unfold Bd; omega
theorem bd_qs {r c s : Int} (q : Quart r c s) : Bd 2000000000 (s * 1000000) := by unfold Quart at q; unfold Bd; omega
theorem bd_qn {r c s : Int} (q : Quart r c s) : Bd 2000000000 (-s * 1000000) := by unfold Quart at q; unfold Bd; omega
theorem gives_ints {f : Addr} {k : Nat} {vs : List Value} {ns ms : List Int} {rest : List (Addr × Obj)} (e : ns = ms)
    (G : Gives w p loose mean mg mb f k vs [] rest (fun v sel' => ∃ z us q, sel' = [(z, W.listOf (List.toArray us) q)] ∧ v = .ref z ∧ IntsAre us ns)) :
    Gives w p loose mean mg mb f k vs [] rest (fun v sel' => ∃ z us q, sel' = [(z, W.listOf (List.toArray us) q)] ∧ v = .ref z ∧ IntsAre us ms) := e ▸ G
theorem rotQ {r c sn : Int} (q : Quart r c sn) {t : Tok} {rest : List (Addr × Obj)} :
    Gives w p loose mean mg mb 124 8 [.int (90 * r * 1000000) t] [] rest (fun v sel' => ∃ z us q, sel' = [(z, W.listOf (List.toArray us) q)] ∧ v = .ref z ∧ IntsAre us [c * 1000000, sn * 1000000, -sn * 1000000, c * 1000000, 0, 0]) := by
  rcases q with ⟨h1, h2, h3⟩ | ⟨h1, h2, h3⟩ | ⟨h1, h2, h3⟩ | ⟨h1, h2, h3⟩ <;> subst h1 h2 h3
  · exact gives_ints (by decide) (rot0_at (by decide))
  · exact gives_ints (by decide) (rot1_at (by decide))
  · exact gives_ints (by decide) (rot2_at (by decide))
  · exact gives_ints (by decide) (rot3_at (by decide))
/-- behind the row that names the cosine and the sine: the four ways meet; the ledger's first n entries are dropped -/
def QuartE (h₀ : Heap) (L : Addr) (m : Str → Option Value) (s : Shared) (r : Int) (news : List (Addr × Obj)) (fl : Flow) (s' : Shared) : Prop :=
  fl = .next ∧ ∃ c sn tc ts h' tk', Quart r c sn ∧ s' = { s with heap := h', toks := tk' } ∧
    Fr h₀ L h' (fun z => if z = Str.ofString "sin" then some (.int sn ts) else if z = Str.ofString "cos" then some (.int c tc) else m z) ∧ News h₀ L h' news
theorem news_drop {h₀ : Heap} {L : Addr} {h : Heap} {x : Addr × Obj} {news new : List (Addr × Obj)} {n : Nat} (N : News h₀ L h (new ++ news)) (hx : x ∈ news) : News h₀ L h (x :: news.drop n) := fun q hq => N q (by
  rcases List.mem_cons.mp hq with rfl | hq
  · exact List.mem_append_right _ hx
  · exact List.mem_append_right _ (List.mem_of_mem_drop hq))
theorem asg_quart {M : Model} {A : Around} {st : Stmt} {env : Env} {h₀ : Heap} {L : Addr} {m : Str → Option Value} {s : Shared} {Q : Flow → Shared → Prop} {E : Value → Shared → Prop} {r : Int} {news : List (Addr × Obj)}
    (n : Nat) {ps : Array Value} (h253 : (253, tabObj ps) ∈ news) (R : 0 ≤ r ∧ r < 4) (_F : Fr h₀ L s.heap m) (_N : News h₀ L s.heap news)
    (h0 : r = 0 → wpAny M A (exec st env) (QuartE h₀ L m s r ((253, tabObj ps) :: news.drop n)) E s) (h1 : r = 1 → wpAny M A (exec st env) (QuartE h₀ L m s r ((253, tabObj ps) :: news.drop n)) E s)
    (h2 : r = 2 → wpAny M A (exec st env) (QuartE h₀ L m s r ((253, tabObj ps) :: news.drop n)) E s) (h3 : r = 3 → wpAny M A (exec st env) (QuartE h₀ L m s r ((253, tabObj ps) :: news.drop n)) E s)
    (h : ∀ c sn tc ts h' tk', Quart r c sn → Fr h₀ L h' (fun z => if z = Str.ofString "sin" then some (.int sn ts) else if z = Str.ofString "cos" then some (.int c tc) else m z) → News h₀ L h' ((253, tabObj ps) :: news.drop n) →
      Q .next { s with heap := h', toks := tk' }) : wpAny M A (exec st env) Q E s := by
  have x : wpAny M A (exec st env) (QuartE h₀ L m s r ((253, tabObj ps) :: news.drop n)) E s := by
    have hc : r = 0 ∨ r = 1 ∨ r = 2 ∨ r = 3 := by omega
    rcases hc with e | e | e | e
    · exact h0 e
    · exact h1 e
    · exact h2 e
    · exact h3 e
  refine wpAny_mono x (fun fl s' y => ?_) fun _ _ z => z
  obtain ⟨rfl, c, sn, tc, ts, h', tk', q, rfl, F', N'⟩ := y
  exact h c sn tc ts h' tk' q F' N'
end
end
section
theorem say_26 : True := by
  k_with_none
  (k_with "MINE ix" => first | exact nth_mem (i := 0) rfl | exact nth_mem (i := 1) rfl | exact nth_mem (i := 2) rfl | exact nth_mem (i := 3) rfl | exact nth_mem (i := 4) rfl | exact nth_mem (i := 5) rfl | exact nth_mem (i := 6) rfl | exact nth_mem (i := 7) rfl | ((refine memT rfl ?_); k_extra "MINE ix"))
  (k_with "MINE fx" => ((case zh => with_reducible assumption); (case ze => k_extra "MINE ix")))
  (k_with "MINE ne2" => first | ((refine' off_at ?zh ?ze); k_extra "MINE fx") | ((refine' ne0_at ?zh ?ze); k_extra "MINE fx") | ((refine' offD_at ?zh ?ze); k_extra "MINE fx") | ((refine' offC_at ?zh ?ze); k_extra "MINE fx") | ((refine' offI_at ?zh ?ze); k_extra "MINE fx") | ((refine' offA_at ?zh ?ze); k_extra "MINE fx") | ((refine' ne1_at ?zh ?ze); k_extra "MINE fx") | ((refine' ne2_at ?zh ?ze); k_extra "MINE fx") | ((refine' ne3_at ?zh ?ze); k_extra "MINE fx") | ((refine' ne4_at ?zh ?ze); k_extra "MINE fx") | ((refine' ne5_at ?zh ?ze); k_extra "MINE fx") | ((refine' neT_at ?zh ?ze ?zg); (case zg => with_reducible assumption); k_extra "MINE fx"))
  (k_with "MINE ne3" => first | exact And.left (by with_reducible assumption) | exact And.left (And.right (by with_reducible assumption)) | exact And.right (by with_reducible assumption) | exact And.left (And.right (And.right (by with_reducible assumption))) | exact And.right (And.right (by with_reducible assumption)) | exact And.left (And.right (And.right (And.right (by with_reducible assumption)))) | exact And.right (And.right (And.right (by with_reducible assumption))) | exact And.left (And.right (And.right (And.right (And.right (by with_reducible assumption))))) | exact And.right (And.right (And.right (And.right (by with_reducible assumption)))) | exact And.left (And.right (And.right (And.right (And.right (And.right (by with_reducible assumption)))))) | exact And.right (And.right (And.right (And.right (And.right (by with_reducible assumption))))))
  (k_with "MINE ne1" => with_reducible first | assumption | exact Ne.symm (by assumption) | exact Nat.ne_of_lt (by assumption) | exact Nat.ne_of_gt (by assumption) | exact Nat.ne_of_lt (Nat.lt_succ_of_lt (by assumption)) | exact Nat.ne_of_gt (Nat.lt_succ_of_lt (by assumption)))
  (k_with "M k_ne" => ((try dsimp only); (refine neN ?_); first | k_extra "MINE ne1" | exact Nat.ne_of_lt (Nat.lt_succ_self _) | exact Nat.ne_of_gt (Nat.lt_succ_self _) | k_extra "MINE ne2" | (refine Ne.symm ?_; k_extra "MINE ne2") | k_extra "MINE ne3" | (refine Ne.symm ?_; k_extra "MINE ne3") | k_extra "MINE nesay"))
  (k_with "MINE nesay" => (k_extra "MINE split"; first | k_extra "MINE ne1" | ((repeat ((rename (@Ne Nat _ _) => h9); clear h9)); omega)))
  (k_with "M k_all" => first | with_reducible assumption | exact List.forall_mem_nil _ | ((refine' List.forall_mem_cons.mpr ⟨?za, ?zb⟩); (case za => k_ne); (case zb => k_all)))
  (k_with "MINE split" => repeat ((rename _ ∧ _ => h9); cases h9))
  (k_with "MINE ca" => ((case zkA => exact rfl); (case zkF => exact rfl); (case zkK => first | exact rfl | assumption)))
  (k_with "MINE cs" => ((case zk6 => k_is); (case zk7 => k_is); (case zk8 => ktr_room); (case zk9 => exact BindsTo.of_eq rfl); k_extra "MINE c3"))
  (k_with "MINE c3" => ((case zc2 => exact rfl); (case zc3 => exact rfl); (case zc4 => exact rfl)))
  (k_with "MINE k5" => ((case zk1 => k_asm); (case zk2 => k_asm); (case zk3 => k_asm); (case zk4 => k_asm); (case zk5 => k_asm)))
  (k_with "MINE a7" => ((case ze1 => assumption); (case ze2 => assumption); (case ze3 => assumption); (case ze4 => assumption); (case ze5 => assumption); (case ze6 => assumption); (case ze7 => assumption)))
  (k_with "MINE pl" => ((case zc5 => decide); (case zkB => exact locs rfl)))
  (k_with "MINE ce" => ((case zkB => exact rfl); (case zkD => decide +kernel)))
  (k_with "MINE fold" => ((try dsimp only); (try k_fold)))
  (k_with "MINE end" => (k_sweep; (try dsimp only); (try k_fold)))
  (k_with "MINE ent" => (k_whole; intro g' L' h' FG' F' N' B' X' T'; (try (have hlN := Fr.lst FG' (by assumption))); (try dsimp only); (try k_lift B'); (try k_fold)))
  (k_with "MINE enter" => ((refine' enterR ?ze1 ?ze2 ?ze3 ?ze4 ?ze5 ?ze6 ?zkA ?zkF ?zkK ?zk6 ?zk7 ?zk8 ?zk9 ?zkB ?ze7 ?_ ?zc2 ?zc3 ?zc4 ?zc5); k_extra "MINE a7"; k_extra "MINE ca"; k_extra "MINE cs"; k_extra "MINE pl"; k_whole; intro g' L' h' F' N' B' X' T' l1 hrest' st'; (try dsimp only); (try k_lift B'); (try k_fold)))
  (k_with "MINE enterC" => ((refine' enterRC ?ze1 ?ze2 ?ze3 ?ze4 ?ze5 ?ze6 ?zkA ?zkF ?zkK ?zk6 ?zk7 ?zk8 ?zk9 ?zkB ?zkD ?ze7 ?_ ?zc2 ?zc3 ?zc4); k_extra "MINE a7"; k_extra "MINE ca"; k_extra "MINE cs"; k_extra "MINE ce"; k_whole; intro g' L' h' tk' cells' F' N' Y' B' X' T' l1 hrest' st'; k_cells Y'; (try simp only [List.cons_append, List.nil_append] at N'); (try dsimp only); (try k_lift B'); (try k_fold)))
  (k_with "M units_room" => (have hcL9 := cLine_is; (try simp only [units_in1, units_deeper, Around.mark_units, units_caller]); (try dsimp only [ktrTop]); omega))
  (k_with "MINE room" => first | decide | ((try simp only [depth_in1, depth_deeper, units_in1, units_deeper, Around.mark_units]); (try dsimp only [ktrTop]); omega))
  (k_with "M binaryOp FloorDiv int int" => (k_here; (with_reducible refine floordiv_int ?zne ?_ (Or.inl (noPy ?zh1 ?zh2))); (case zne => omega); (case zh1 => omega); (case zh2 => omega)))
  (k_with "M callWith ref nil nil" => (k_here; k_dflt (refine' callWith_K ?zk1 ?zk2 ?_; (case zk1 => k_asm); (case zk2 => k_is); k_whole)))
  (k_with "M call ref" => k_dflt (k_here; refine wpAny_call ?_; first | ((refine' code_def ?zk1 ?zk2 ?zk3 ?zk4 ?zk5 ?zkA ?zkF ?zkK ?zk6 ?zk7 ?zk8 ?zk9 ?zkB ?_ ?zc2 ?zc3 ?zc4 ?zc5); k_extra "MINE ca"; k_extra "MINE k5"; k_extra "MINE cs"; k_extra "MINE pl"; k_extra "MINE ent") | ((refine' code_defC ?zk1 ?zk2 ?zk3 ?zk4 ?zk5 ?zkA ?zkF ?zkK ?zk6 ?zk7 ?zk8 ?zk9 ?zkB ?zkD ?_ ?zc2 ?zc3 ?zc4); k_extra "MINE ca"; k_extra "MINE k5"; k_extra "MINE cs"; k_extra "MINE ce"; k_whole; intro g' L' h' tk' cells' FG' F' N' Y' B' X' T' l1; (try (have hlN := Fr.lst FG' (by assumption))); k_cells Y'; (try simp only [List.cons_append, List.nil_append] at N'); (try dsimp only); (try k_lift B'); (try k_fold))))
  (k_with "M call ref" => k_dflt (k_here; kn_here; refine wpAny_call ?_; (refine' kla_code ?zk1 ?zk2 ?zk3 ?zk4 ?zk5 ?zkA ?zkF ?zkK ?zk6 ?zk7 ?zk8 ?zk9 ?zkB ?_ ?zc2 ?zc3 ?zc4 ?zc5); k_extra "MINE ca"; k_extra "MINE k5"; (case zk6 => k_mem); (case zk7 => exact codeRec_news (by k_asm) (by k_mem) (by assumption) (by assumption)); (case zk8 => ktr_room); (case zk9 => exact rfl); k_extra "MINE c3"; k_extra "MINE pl"; k_extra "MINE ent"))
  (k_with "MINE std" => ((case zB => k_asm); (case zF => k_asm); (case zX => k_asm); (case zN => k_asm); (case zT => k_asm); (case zk => first | exact rfl | assumption); (case zd => k_extra "MINE room"); (case zu => k_extra "MINE room")))
  (k_with "MINE b4" => ((case zb0 => k_extra "MINE bd"); (case zb1 => k_extra "MINE bd"); (case zb2 => k_extra "MINE bd"); (case zb3 => k_extra "MINE bd")))
  (k_with "MINE b6" => (k_extra "MINE b4"; (case zb4 => k_extra "MINE bd"); (case zb5 => k_extra "MINE bd")))
  (k_with "MINE bd" => assumption)
  (k_with "MINE nz" => ((case zhb => k_extra "MINE n0"); (case zh1 => k_extra "MINE n0"); (case zh2 => k_extra "MINE n0")))
  (k_with "MINE n0" => first | decide | assumption | omega)
  (k_with "MINE rv" => first | ((refine' RdV.fr ?zvF ?zvl ?zvv ?zvk ?zvx ?zvd); (case zvx => exact rfl); (case zvF => k_asm); (case zvl => exact rfl); (case zvv => exact rfl); (case zvk => first | exact rfl | assumption); (case zvd => decide)) | ((refine' RdV.glob ?zvF ?zvX ?zvT ?zve ?zvg ?zvk ?zvx ?zvd); (case zvx => exact rfl); (case zvF => k_asm); (case zvX => k_asm); (case zvT => k_asm); (case zve => k_is); (case zvg => exact rfl); (case zvk => first | exact rfl | assumption); (case zvd => decide)) | ((refine' RdV.cell ?zvN ?zvc ?zvm ?zvo ?zvk ?zvx ?zvd); (case zvx => exact rfl); (case zvN => k_asm); (case zvc => exact rfl); (case zvm => k_mem); (case zvo => k_asm); (case zvk => first | exact rfl | assumption); (case zvd => decide)) | ((refine' RdV.free ?zvN ?zvc ?zvm ?zvo ?zvk ?zvx ?zvd ?zvh); (case zvx => exact rfl); (case zvN => k_asm); (case zvc => exact rfl); (case zvm => k_mem); (case zvo => k_asm); (case zvk => first | exact rfl | assumption); (case zvd => decide); (case zvh => decide)) | ((refine' RdV.own ?zvN ?zvm ?zvC ?zvv ?zvk ?zvx ?zvd); (case zvx => exact rfl); (case zvN => k_asm); (case zvm => k_mem); (case zvC => assumption); (case zvv => first | assumption | exact rfl); (case zvk => first | exact rfl | assumption); (case zvd => decide)))
  (k_with "MINE rds" => first | ((fail_if_success (with_reducible show Rd _ _ _)); (fail_if_success (with_reducible show IntMulOk _ _)); (fail_if_success (with_reducible show _ ≠ _))) | k_extra "MINE rd" | ((with_reducible show IntMulOk _ _); mul_fits) | ((with_reducible show _ ≠ _); first | decide | omega))
  (k_with "MINE rd" => first | exact Rd.const | ((refine' Rd.mul ?_ ?_ ?_) <;> k_extra "MINE rds") | ((refine' Rd.add ?_ ?_) <;> k_extra "MINE rds") | ((refine' Rd.sub ?_ ?_) <;> k_extra "MINE rds") | ((refine' Rd.neg ?_) <;> k_extra "MINE rds") | ((refine' Rd.mod ?_ ?_ ?_) <;> k_extra "MINE rds") | ((refine' Rd.item ?zrn ?zrl ?zrk ?zri); (case zrn => k_extra "MINE rv"); (case zrl => is_list); (case zrk => decide); (case zri => exact rfl)) | ((refine' Rd.atN ?zrn ?zrl ?zr2 ?zrk ?zri); (case zrn => k_extra "MINE rv"); (case zr2 => k_extra "MINE rd"); (case zrl => is_list); (case zrk => decide); (case zri => exact rfl)) | ((refine' Rd.atB ?zsn ?zsl ?zs2 ?zsk ?zsi); (case zsn => k_extra "MINE rv"); (case zs2 => k_extra "MINE rd"); (case zsl => is_list); (case zsk => decide); (case zsi => exact rfl)) | ((refine' Rd.of ?zrv); (case zrv => k_extra "MINE rv")))
  (k_with "M eval BinOp" => (k_here; (with_reducible show wpAny _ _ (eval (Expr.BinOp _ _ _ _) _) _ _ _); k_dflt ((refine' Rd.use ?zrR ?_); (case zrR => k_extra "MINE rd"); k_whole; intro t9 k9; k_extra "MINE fold")))
  (k_with "M eval Subscript" => (k_here; (with_reducible show wpAny _ _ (eval (Expr.Subscript (Expr.Name _ _) _ _) _) _ _ _); k_dflt ((refine' Rd.use ?zrR ?_); (case zrR => k_extra "MINE rd"); k_whole; intro t9 k9; k_extra "MINE fold")))
  (k_with "M eval Call" => (k_here; (with_reducible show wpAny _ _ (eval (Expr.Call (Expr.Name _ _) [_] [] _) _) _ _ _); k_dflt (first | ((refine' call_v ?zcf ?zca0 ?zcF ?zcX ?zcK ?_); (case zcf => k_extra "MINE rv"); (case zca0 => k_extra "MINE rv"); (case zcF => k_asm); (case zcX => k_asm); (case zcK => k_is); k_whole; intro k9; k_extra "MINE fold") | ((refine' call_i ?zcf ?zca0 ?zcF ?zcX ?zcK ?_); (case zcf => k_extra "MINE rv"); (case zca0 => k_extra "MINE rd"); (case zcF => k_asm); (case zcX => k_asm); (case zcK => k_is); k_whole; intro t9 k9; k_extra "MINE fold"))))
  (k_with "M eval Call" => (k_here; (with_reducible show wpAny _ _ (eval (Expr.Call (Expr.Name _ _) [_, _] [] _) _) _ _ _); k_dflt (first | ((refine' call_vv ?zcf ?zca0 ?zca1 ?zcF ?zcX ?zcK ?_); (case zcf => k_extra "MINE rv"); (case zca0 => k_extra "MINE rv"); (case zca1 => k_extra "MINE rv"); (case zcF => k_asm); (case zcX => k_asm); (case zcK => k_is); k_whole; intro k9; k_extra "MINE fold") | ((refine' call_vi ?zcf ?zca0 ?zca1 ?zcF ?zcX ?zcK ?_); (case zcf => k_extra "MINE rv"); (case zca0 => k_extra "MINE rv"); (case zca1 => k_extra "MINE rd"); (case zcF => k_asm); (case zcX => k_asm); (case zcK => k_is); k_whole; intro t9 k9; k_extra "MINE fold") | ((refine' call_ii ?zcf ?zca0 ?zca1 ?zcF ?zcX ?zcK ?_); (case zcf => k_extra "MINE rv"); (case zca0 => k_extra "MINE rd"); (case zca1 => k_extra "MINE rd"); (case zcF => k_asm); (case zcX => k_asm); (case zcK => k_is); k_whole; intro t9 u9 k9; k_extra "MINE fold"))))
  (k_with "M eval Call" => (k_here; (with_reducible show wpAny _ _ (eval (Expr.Call (Expr.Name _ _) [_, _, _] [] _) _) _ _ _); k_dflt (first | ((refine' call_vii ?zcf ?zca0 ?zca1 ?zca2 ?zcF ?zcX ?zcK ?_); (case zcf => k_extra "MINE rv"); (case zca0 => k_extra "MINE rv"); (case zca1 => k_extra "MINE rd"); (case zca2 => k_extra "MINE rd"); (case zcF => k_asm); (case zcX => k_asm); (case zcK => k_is); k_whole; intro t9 u9 k9; k_extra "MINE fold"))))
  (k_with "M call ref" => k_dflt (k_here; (with_reducible show wpAny _ _ (PySem.call (Value.ref 54) [Value.int _ _, Value.int _ _]) _ _ _); (refine' use_int (div_gives ?zhb ?zh1 ?zh2) ?zB ?zF ?zX ?zN ?zT ?zk ?zd ?zu ?_); k_extra "MINE std"; k_extra "MINE nz"; k_whole; intro t9 h9 tk9 F9 N9; k_extra "MINE end"))
  (k_with "M call ref" => k_dflt (k_here; (with_reducible show wpAny _ _ (PySem.call (Value.ref 234) [Value.int _ _, Value.int _ _]) _ _ _); (refine' use_int (near_gives ?zhb ?zh1 ?zh2) ?zB ?zF ?zX ?zN ?zT ?zk ?zd ?zu ?_); k_extra "MINE std"; k_extra "MINE nz"; k_whole; intro t9 h9 tk9 F9 N9; k_extra "MINE end"))
  (k_with "M call ref" => k_dflt (k_here; (with_reducible show wpAny _ _ (PySem.call (Value.ref 96) [Value.int _ _, Value.int _ _]) _ _ _); (refine' use_int (mq_gives ?zhb ?zh1 ?zh2) ?zB ?zF ?zX ?zN ?zT ?zk ?zd ?zu ?_); k_extra "MINE std"; k_extra "MINE nz"; k_whole; intro t9 h9 tk9 F9 N9; k_extra "MINE end"))
  (k_with "MINE pk" => first | ((refine' Pk.head ?za); (case za => k_all)) | ((refine' Pk.tail ?za ?zb); (case za => k_ne); (case zb => k_extra "MINE pk")))
  (k_with "MINE p2" => ((case P1 => k_extra "MINE pk"); (case P2 => k_extra "MINE pk")))
  (k_with "MINE dec" => first | decide | omega)
  (k_with "M call ref" => k_dflt (k_here; (with_reducible show wpAny _ _ (PySem.call (Value.ref 220) [Value.ref _, Value.int _ _]) _ _ _); (refine' use_deck (draw_gives' ?zD ?zhb ?zh1 ?zh2) ?zB ?zF ?zX ?zN ?P1 ?P2 ?zT ?zk ?zd ?zu ?_); (case zD => assumption); k_extra "MINE std"; k_extra "MINE p2"; (case zhb => k_extra "MINE dec"); (case zh1 => k_extra "MINE dec"); (case zh2 => k_extra "MINE dec"); k_whole; intro r9 t9 o9 l9 h9 tk9 R9 D9 F9 N9 dl9 dd9 dn9; k_extra "MINE end"))
  (k_with "M call ref" => k_dflt (k_here; (with_reducible show wpAny _ _ (PySem.call (Value.ref 227) [Value.ref _, Value.ref _]) _ _ _); (refine' use_deck (pick_gives ?zD ?zh1 ?zhx ?zhI ?zh0 ?zh2) ?zB ?zF ?zX ?zN ?P1 ?P2 ?zT ?zk ?zd ?zu ?_); (case zD => assumption); k_extra "MINE std"; k_extra "MINE p2"; (case zhx => k_mem); (case zhI => l_ints); (case zh0 => k_extra "MINE dec"); (case zh1 => k_extra "MINE dec"); (case zh2 => k_extra "MINE dec"); k_whole; intro r9 t9 o9 l9 h9 tk9 R9 D9 F9 N9 dl9 dd9 dn9; k_extra "MINE end"))
  (k_with "M CompRest" => (with_unfolding_all (refine LCg.CompRest.succ ?_; intro v' I' oI' C' oC' D' m' h' tk' E' hv' hC' hx' F' N' off' ne'; (first | lcg_open hv' | (obtain ⟨t9', hv9'⟩ := hv'; subst hv9')); (have n1' := ne'.1); (have n2' := ne'.2.1); (have n3' := ne'.2.2))))
  (k_with "M TupSrc" => (k_here; k_dflt (refine TupSrc.ledger (by rfl) (by k_asm) (by k_asm) (by k_mem) (by first | size_fits | exact Nat.le_of_ble_eq_true rfl) ?_; intro g'; lcg_lit)))
  (k_with "M call ref" => k_dflt (k_here; (with_reducible show wpAny _ _ (PySem.call (Value.ref 166) [Value.ref _]) _ _ _); (refine' useL_bool (sing_gives ?zb0 ?zb1 ?zb2 ?zb3) ?zB ?zF ?zX ?zN ?zR ?zT ?zk ?zd ?zu ?_); k_extra "MINE std"; (case zR => is_list); k_extra "MINE b4"; k_whole; intro h9 tk9 F9 N9; k_extra "MINE end"))
  (k_with "M call ref" => k_dflt (k_here; (with_reducible show wpAny _ _ (PySem.call (Value.ref 173) [Value.ref _]) _ _ _); (refine' useL_int (need_gives ?zb0 ?zb1 ?zb2 ?zb3 ?zhz) ?zB ?zF ?zX ?zN ?zR ?zT ?zk ?zd ?zu ?_); k_extra "MINE std"; (case zR => is_list); k_extra "MINE b4"; (case zhz => assumption); k_whole; intro t9 h9 tk9 F9 N9; k_extra "MINE end"))
  (k_with "M call ref" => k_dflt (k_here; (with_reducible show wpAny _ _ (PySem.call (Value.ref 194) [Value.ref _, Value.int _ _, Value.int _ _]) _ _ _); (refine' useL_tup (delta_gives ?zb0 ?zb1 ?zb2 ?zb3) ?zB ?zF ?zX ?zN ?zR ?zT ?zk ?zd ?zu ?_); k_extra "MINE std"; (case zR => is_list); k_extra "MINE b4"; k_whole; intro z9 t9 u9 h9 tk9 F9 N9 off9; k_extra "MINE end"))
  (k_with "M call ref" => k_dflt (k_here; (with_reducible show wpAny _ _ (PySem.call (Value.ref 187) [Value.ref _, Value.int _ _, Value.int _ _]) _ _ _); (refine' useL_tup (trans_gives ?zb0 ?zb1 ?zb2 ?zb3) ?zB ?zF ?zX ?zN ?zR ?zT ?zk ?zd ?zu ?_); k_extra "MINE std"; (case zR => is_list); k_extra "MINE b4"; k_whole; intro z9 t9 u9 h9 tk9 F9 N9 off9; k_extra "MINE end"))
  (k_with "MINE room" => exact Nat.le_of_ble_eq_true rfl)
  (k_with "MINE bd" => first | assumption | decide | exact bd_x (by assumption) | exact bd_y (by assumption) | exact bd_qc (by assumption) | exact bd_qs (by assumption) | exact bd_qn (by assumption) | (unfold Bd; omega))
  (k_with "MINE deck" => first | assumption | exact deck_of (q := 0) (by assumption) (by l_ints) (by (simp only [List.length_reverse, List.length_map, List.length_take]; omega)) (by assumption) (by k_ne))
  (k_with "M call ref" => k_dflt (k_here; (with_reducible show wpAny _ _ (PySem.call (Value.ref 239) [Value.ref _]) _ _ _); (refine' use_mat ?zD ?zhk1 ?zB ?zF ?zX ?zN ?P1 ?P2 ?zT ?zk ?zd ?zu ?_); (case zD => k_extra "MINE deck"); k_extra "MINE std"; k_extra "MINE p2"; (case zhk1 => k_extra "MINE dec"); k_whole; intro o9 l9 x9 q9 a9 b9 c9 e9 g9 i9 t1 t2 t3 t4 t5 t6 h9 tk9 F9 N9 n9 n8 off9 dl9 dd9 dn9 B1 B2 B3 B4 B5 B6 D9; k_extra "MINE end"))
  (k_with "M call ref" => k_dflt (k_here; (with_reducible show wpAny _ _ (PySem.call (Value.ref _) [Value.ref _, Value.ref _]) _ _ _); (first | (refine' use_list6 (concat_gives ?zhx ?zhy ?zb0 ?zb1 ?zb2 ?zb3 ?zb4 ?zb5) ?zB ?zF ?zX ?zN ?zT ?zk ?zd ?zu ?_) | (refine' use_list6 (put_gives ?zhx ?zhy ?zb0 ?zb1 ?zb2 ?zb3 ?zb4 ?zb5) ?zB ?zF ?zX ?zN ?zT ?zk ?zd ?zu ?_)); k_extra "MINE std"; (case zhx => k_mem); (case zhy => k_mem); k_extra "MINE b6"; k_whole; intro z9 t10 t11 t12 t13 t14 t15 q9 h9 tk9 F9 N9 off9; k_extra "MINE end"))
  (k_with "M call ref" => k_dflt (k_here; (with_reducible show wpAny _ _ (PySem.call (Value.ref 124) [Value.int _ _]) _ _ _); (refine' use_list6 (rotQ ?zq) ?zB ?zF ?zX ?zN ?zT ?zk ?zd ?zu ?_); k_extra "MINE std"; (case zq => assumption); k_whole; intro z9 t10 t11 t12 t13 t14 t15 q9 h9 tk9 F9 N9 off9; k_extra "MINE end"))
  (k_with "M call ref" => k_dflt (k_here; (with_reducible show wpAny _ _ (PySem.call (Value.ref 256) [Value.ref _, Value.int _ _, Value.int _ _]) _ _ _); (refine' use_pts ?zP (points_gives ?zhx ?zb0 ?zb1 ?zb2 ?zb3 ?zb4 ?zb5) ?zB ?zF ?zX ?zN ?zT ?zXB ?zTB ?zC ?zk ?zd ?zu ?_); k_extra "MINE std"; (case zP => k_extra "MINE pk"); (case zhx => k_mem); (case zXB => assumption); (case zTB => assumption); (case zC => assumption); k_extra "MINE b6"; k_whole; intro ps9 h9 tk9 F9 N9; k_extra "MINE end"))
  (k_with "M compareOp NotEq ref ref" => (k_here; k_dflt ((refine' ne_same ?za ?zb ?zi ?zj ?zu ?ze ?_); (case za => is_list); (case zb => is_list); (case zi => l_ints); (case zj => l_ints); (case zu => first | units_room | exact Nat.le_of_ble_eq_true rfl); (case ze => first | rfl | decide); k_whole)))
  (k_with "M compareOp NotEq ref ref" => (k_here; k_dflt ((refine' ne_two ?zN ?zmt ?zmu ?za ?zb ?zc ?zd ?zi ?zj ?zk ?zl ?zu ?_); (case zN => k_asm); (case zmt => k_mem); (case zmu => k_mem); (case za => is_list); (case zb => is_list); (case zc => is_list); (case zd => is_list); (case zi => l_ints); (case zj => l_ints); (case zk => l_ints); (case zl => l_ints); (case zu => first | units_room | exact Nat.le_of_ble_eq_true rfl); k_whole)))
  (k_with "M callWith ref nil nil" => (k_here; (with_reducible show wpAny _ _ (callWith _ (Value.ref 103) [] (backTo _ (starEach [] _)) []) _ _ _); k_dflt (refine' callWith_K0 ?zX ?zhk ?_; (case zX => exact Frag.In.keeps (by assumption) (Fr.keep (by assumption))); (case zhk => k_is); k_whole)))
  (k_with "M ite" => with_reducible first | refine ite_neg Bool.false_ne_true ?_ | refine ite_pos (rfl : true = true) ?_ | refine ite_pos True.intro ?_)
  (k_with "M mul_fits" => first | exact mul_qr (by assumption) | exact mul_qc (by assumption) | exact mul_qn (by assumption) | exact mul_qs (by assumption) | exact PySem.IntMulOk.of_left (PySem.intBits_le_64 (by decide) (by decide)))
  (k_with "M compareOp Eq ref ref" => (k_here; k_dflt ((refine' eq_pair ?zN ?zmt ?zmu ?zu ?ze1 ?ze2 ?_); (case zN => k_asm); (case zmt => k_mem); (case zmu => k_mem); (case zu => first | units_room | exact Nat.le_of_ble_eq_true rfl); (case ze1 => first | rfl | decide); (case ze2 => first | rfl | decide); k_whole)))
  (k_with "M exec Assign" => k_dflt (k_here; (fail_if_success (with_reducible show wpAny _ _ _ (QuartE _ _ _ _ _ _) _ _)); (with_reducible show wpAny _ _ (exec (Stmt.Assign [Expr.Tuple [Expr.Name (Str.ofString "cos") _, _] _ _] _ _) _) _ _ _); (refine' asg_quart 16 ?zh2 ?zR ?zF ?zN ?_ ?_ ?_ ?_ ?_); (case zR => assumption); (case zF => k_asm); (case zN => k_asm); (case zh2 => k_mem); (iterate 4 ((intro e9; subst e9); rotate_left)); (intro c9 s9 t8 t9 h9 tk9 q9 F9 N9; (try simp only [List.drop_succ_cons, List.drop_zero] at N9); k_extra "MINE end")))
  (k_with "M QuartE" => k_dflt (refine' ⟨rfl, _, _, _, _, _, _, ?zq, rfl, ?zF, ?zN⟩; (case zF => assumption); (case zq => first | exact Or.inl ⟨rfl, rfl, rfl⟩ | exact Or.inr (Or.inl ⟨rfl, rfl, rfl⟩) | exact Or.inr (Or.inr (Or.inl ⟨rfl, rfl, rfl⟩)) | exact Or.inr (Or.inr (Or.inr ⟨rfl, rfl, rfl⟩))); (case zN => (first | exact news_drop (new := [_, _, _, _, _]) (by assumption) (by k_mem) | exact news_drop (new := [_, _, _, _]) (by assumption) (by k_mem) | exact news_drop (new := [_, _, _, _, _, _]) (by assumption) (by k_mem)))))
  trivial
variable {w : World} {p : Program} {loose : List Str} {mean : ExcName → Option Value} {mg mb : Str → Option Value}
section
set_option maxHeartbeats 0 in
theorem lawd : PySem.Challenge.rw_nt0486_01.Holds := by
  refine hd (by rfl) (by rfl) (by rfl) ?_
  k_go
end
end
end Mine
theorem PySem.Challenge.cw_nt0486_01_holds : PySem.Challenge.rw_nt0486_01.Holds := by
  exact Mine.lawd
