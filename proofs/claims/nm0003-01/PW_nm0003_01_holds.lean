import PyProof.Rows.All
import Wide.All
import OpenK.AllK
import Wide.FinOn
import PySem.Challenge.RW_nm0003_01
open PySem PySem.W PyProof.Rows
set_option Elab.async false
set_option linter.unusedVariables false
set_option rowWalk.seconds 0
set_option compiler.extract_closed false
namespace Nm
noncomputable def nthS : Nat → List Stmt → Stmt
  | _, [] => .Pass ⟨0, 0, 0, 0⟩
  | 0, s :: _ => s
  | n + 1, _ :: r => nthS n r
noncomputable def st (k : Nat) : Stmt := nthS k PySem.Challenge.pw_nm0003_01.main.body
noncomputable def inClass (s : Stmt) : Stmt := match s with
  | .ClassDef _ _ _ body _ _ _ _ _ _ _ => body.find? (fun t => match t with | .FunctionDef .. => true | _ => false) |>.getD s
  | _ => s
noncomputable def fnD (s : Stmt) (q : Str) (pm : Value) (cd : Nat) : Data := match s with
  | .FunctionDef name args body _ _ _ scope _ _ _ => .func { name := name, qualname := q, params := args, body := .stmts body, scope := scope, globals := 3, closure := [], defaults := .none, kwdefaults := .none, pyModule := pm, code := .ref cd }
  | _ => .plain
noncomputable def fnK (s : Stmt) (q : Str) : Data := match s with
  | .FunctionDef name args body _ _ _ scope _ _ _ => .func { name := name, qualname := q, params := args, body := .stmts body, scope := scope, globals := 0, closure := [], defaults := .none, kwdefaults := .none, pyModule := .none, code := .none }
  | _ => .plain
noncomputable def hd.view_39 : Program :=
  { PySem.Challenge.pw_nm0003_01 with main := { PySem.Challenge.pw_nm0003_01.main with body := [st 1, st 3, st 4, st 6, st 7, st 8, st 10, st 11, st 12, st 13, st 14, st 15, st 16, st 17, st 18, st 19, st 20] } }
set_option maxRecDepth 100000 in
noncomputable def hd.heap_39 : Params → Frag := fun P =>
  (nat_lit 2, ({ cls := Value.none, data := Data.dict #[{ hash := PyData.keyHash P (Str.ofString "type.__subclasses__.Exception.0"), key := Value.str (Str.ofString "type.__subclasses__.Exception.0") 214, val := Value.int 31 0 }, { hash := PyData.keyHash P (Str.ofString "type.__subclasses__.Exception.n"), key := Value.str (Str.ofString "type.__subclasses__.Exception.n") 215, val := Value.int 1 0 }] 2 } : Obj)) ::
  (nat_lit 3, ({ cls := Value.type "dict", data := Data.dict #[{ hash := PyData.keyHash P (Str.ofString "__name__"), key := Value.str (Str.ofString "__name__") 165, val := Value.str (Str.ofString "law_nm0003_01") 254 }, { hash := PyData.keyHash P (Str.ofString "__doc__"), key := Value.str (Str.ofString "__doc__") 166, val := Value.none }, { hash := PyData.keyHash P (Str.ofString "__package__"), key := Value.str (Str.ofString "__package__") 167, val := Value.none }, { hash := PyData.keyHash P (Str.ofString "__loader__"), key := Value.str (Str.ofString "__loader__") 168, val := Value.builtin "__main__.__loader__#opaque" }, { hash := PyData.keyHash P (Str.ofString "__spec__"), key := Value.str (Str.ofString "__spec__") 169, val := Value.none }, { hash := PyData.keyHash P (Str.ofString "__annotations__"), key := Value.str (Str.ofString "__annotations__") 170, val := Value.ref 6 }, { hash := PyData.keyHash P (Str.ofString "__builtins__"), key := Value.str (Str.ofString "__builtins__") 171, val := Value.ref 4 }, { hash := PyData.keyHash P (Str.ofString "__file__"), key := Value.str (Str.ofString "__file__") 173, val := Value.str (Str.ofString "/claim/cut.py") 172 }, { hash := PyData.keyHash P (Str.ofString "__cached__"), key := Value.str (Str.ofString "__cached__") 174, val := Value.none }, { hash := PyData.keyHash P (Str.ofString "CodeFault"), key := Value.str (Str.ofString "CodeFault") 217, val := Value.ref 31 }, { hash := PyData.keyHash P (Str.ofString "signed"), key := Value.str (Str.ofString "signed") 226, val := Value.ref 41 }, { hash := PyData.keyHash P (Str.ofString "symbol_text"), key := Value.str (Str.ofString "symbol_text") 235, val := Value.ref 48 }, { hash := PyData.keyHash P (Str.ofString "PLAIN"), key := Value.str (Str.ofString "PLAIN") 239, val := Value.str (Str.ofString " !$%&'()*+,-./0123456789:;<=>?@ABCDEFGHIJKLMNOPQRSTUVWXYZ[]^_`abcdefghijklmnopqrstuvwxyz{|}~") 238 }, { hash := PyData.keyHash P (Str.ofString "octet_rows"), key := Value.str (Str.ofString "octet_rows") 245, val := Value.ref 53 }, { hash := PyData.keyHash P (Str.ofString "piece_rows"), key := Value.str (Str.ofString "piece_rows") 253, val := Value.ref 60 }, { hash := PyData.keyHash P (Str.ofString "_law_well"), key := Value.str (Str.ofString "_law_well") 261, val := Value.ref 65 }, { hash := PyData.keyHash P (Str.ofString "_law_draw"), key := Value.str (Str.ofString "_law_draw") 271, val := Value.ref 72 }, { hash := PyData.keyHash P (Str.ofString "_law_signs"), key := Value.str (Str.ofString "_law_signs") 277, val := Value.ref 77 }, { hash := PyData.keyHash P (Str.ofString "_law_piece"), key := Value.str (Str.ofString "_law_piece") 283, val := Value.ref 82 }, { hash := PyData.keyHash P (Str.ofString "_law_quoted"), key := Value.str (Str.ofString "_law_quoted") 296, val := Value.ref 89 }, { hash := PyData.keyHash P (Str.ofString "_law_number"), key := Value.str (Str.ofString "_law_number") 302, val := Value.ref 94 }, { hash := PyData.keyHash P (Str.ofString "_law_address"), key := Value.str (Str.ofString "_law_address") 315, val := Value.ref 101 }, { hash := PyData.keyHash P (Str.ofString "_law_row"), key := Value.str (Str.ofString "_law_row") 321, val := Value.ref 106 }, { hash := PyData.keyHash P (Str.ofString "_law_rows"), key := Value.str (Str.ofString "_law_rows") 331, val := Value.ref 113 }, { hash := PyData.keyHash P (Str.ofString "_law_refused"), key := Value.str (Str.ofString "_law_refused") 338, val := Value.ref 120 }, { hash := PyData.keyHash P (Str.ofString "law"), key := Value.str (Str.ofString "law") 350, val := Value.ref 127 }] 26 } : Obj)) ::
  (nat_lit 6, ({ cls := Value.type "dict", data := Data.dict #[] } : Obj)) ::
  (nat_lit 15, ({ cls := Value.type "tuple", data := Data.seq #[Value.type "Exception"] } : Obj)) ::
  (nat_lit 22, ({ cls := Value.type "tuple", data := Data.seq #[] } : Obj)) ::
  (nat_lit 24, ({ cls := Value.type "tuple", data := Data.seq #[Value.str (Str.ofString "self") 204, Value.str (Str.ofString "word") 205] } : Obj)) ::
  (nat_lit 25, ({ cls := Value.type "tuple", data := Data.seq #[] } : Obj)) ::
  (nat_lit 27, ({ cls := Value.type "code", data := Data.fields #[Value.str (Str.ofString "__init__") 201, Value.str (Str.ofString "CodeFault.__init__") 202, Value.str (Str.ofString "/claim/cut.py") 203, Value.int 4 0, Value.int 2 0, Value.int 0 0, Value.int 0 0, Value.int 3 0, Value.ref 22, Value.bool true, Value.int 181 0, Value.ref 23, Value.none, Value.ref 24, Value.ref 25, Value.ref 26, Value.int 206 0, Value.int 4 0, Value.str (Str.ofString "/claim/cut.py") 207] } : Obj)) ::
  (nat_lit 28, (⟨.type "function", none, fnD (inClass (st 1)) (Str.ofString "CodeFault.__init__") (Value.str (Str.ofString "corecc.errors") 187) 27, #[]⟩ : Obj)) ::
  (nat_lit 29, ({ cls := Value.type "tuple", data := Data.seq #[Value.str (Str.ofString "word") 209] } : Obj)) ::
  (nat_lit 30, ({ cls := Value.type "dict", data := Data.dict #[{ hash := PyData.keyHash P (Str.ofString "__module__"), key := Value.str (Str.ofString "__module__") 196, val := Value.str (Str.ofString "corecc.errors") 187 }, { hash := PyData.keyHash P (Str.ofString "__firstlineno__"), key := Value.str (Str.ofString "__firstlineno__") 200, val := Value.int 2 199 }, { hash := PyData.keyHash P (Str.ofString "__init__"), key := Value.str (Str.ofString "__init__") 208, val := Value.ref 28 }, { hash := PyData.keyHash P (Str.ofString "__static_attributes__"), key := Value.str (Str.ofString "__static_attributes__") 210, val := Value.ref 29 }, { hash := PyData.keyHash P (Str.ofString "__weakref__"), key := Value.str (Str.ofString "__weakref__") 212, val := Value.ref 32 }, { hash := PyData.keyHash P (Str.ofString "__doc__"), key := Value.str (Str.ofString "__doc__") 213, val := Value.none }] 3 } : Obj)) ::
  (nat_lit 31, ({ cls := Value.type "type", data := Data.cls { name := Str.ofString "CodeFault", bases := [Value.type "Exception"], mro := [Value.ref 31, Value.type "Exception", Value.type "BaseException", Value.type "object"], ns := 30, qualname := Str.ofString "CodeFault" }, slots := #[some (Value.ref 15), none, some (Value.str (Str.ofString "CodeFault") 189), some (Value.str (Str.ofString "CodeFault") 197), some (Value.builtin "Exception.__new__"), some (Value.bool true)] } : Obj)) ::
  (nat_lit 32, ({ cls := Value.type "getset_descriptor", data := Data.fields #[Value.str (Str.ofString "__weakref__") 211, Value.ref 31, Value.builtin "ExceptionGroup.__weakref__", Value.none] } : Obj)) ::
  (nat_lit 35, ({ cls := Value.type "tuple", data := Data.seq #[] } : Obj)) ::
  (nat_lit 37, ({ cls := Value.type "tuple", data := Data.seq #[Value.str (Str.ofString "value") 223] } : Obj)) ::
  (nat_lit 38, ({ cls := Value.type "tuple", data := Data.seq #[] } : Obj)) ::
  (nat_lit 40, ({ cls := Value.type "code", data := Data.fields #[Value.str (Str.ofString "signed") 220, Value.str (Str.ofString "signed") 221, Value.str (Str.ofString "/claim/cut.py") 222, Value.int 8 0, Value.int 1 0, Value.int 0 0, Value.int 0 0, Value.int 3 0, Value.ref 35, Value.bool true, Value.int 181 0, Value.ref 36, Value.none, Value.ref 37, Value.ref 38, Value.ref 39, Value.int 224 0, Value.int 8 0, Value.str (Str.ofString "/claim/cut.py") 225] } : Obj)) ::
  (nat_lit 41, (⟨.type "function", none, fnD (st 3) (Str.ofString "signed") (Value.str (Str.ofString "corecc.frames") 218) 40, #[]⟩ : Obj)) ::
  (nat_lit 42, ({ cls := Value.type "tuple", data := Data.seq #[] } : Obj)) ::
  (nat_lit 44, ({ cls := Value.type "tuple", data := Data.seq #[Value.str (Str.ofString "name") 230, Value.str (Str.ofString "offset") 231, Value.str (Str.ofString "distance") 232] } : Obj)) ::
  (nat_lit 45, ({ cls := Value.type "tuple", data := Data.seq #[] } : Obj)) ::
  (nat_lit 47, ({ cls := Value.type "code", data := Data.fields #[Value.str (Str.ofString "symbol_text") 227, Value.str (Str.ofString "symbol_text") 228, Value.str (Str.ofString "/claim/cut.py") 229, Value.int 11 0, Value.int 2 0, Value.int 0 0, Value.int 0 0, Value.int 3 0, Value.ref 42, Value.bool true, Value.int 181 0, Value.ref 43, Value.none, Value.ref 44, Value.ref 45, Value.ref 46, Value.int 233 0, Value.int 11 0, Value.str (Str.ofString "/claim/cut.py") 234] } : Obj)) ::
  (nat_lit 48, (⟨.type "function", none, fnD (st 4) (Str.ofString "symbol_text") (Value.str (Str.ofString "corecc.frames") 218) 47, #[]⟩ : Obj)) ::
  (nat_lit 49, ({ cls := Value.type "tuple", data := Data.seq #[] } : Obj)) ::
  (nat_lit 52, ({ cls := Value.type "code", data := Data.fields #[Value.str (Str.ofString "octet_rows") 240, Value.str (Str.ofString "octet_rows") 241, Value.str (Str.ofString "/claim/cut.py") 242, Value.int 18 0, Value.int 1 0, Value.int 0 0, Value.int 0 0, Value.int 3 0, Value.ref 49, Value.bool true, Value.int 181 0, Value.ref 50, Value.none, Value.none, Value.none, Value.ref 51, Value.int 243 0, Value.int 18 0, Value.str (Str.ofString "/claim/cut.py") 244] } : Obj)) ::
  (nat_lit 53, (⟨.type "function", none, fnD (st 7) (Str.ofString "octet_rows") (Value.str (Str.ofString "corecc.emit") 236) 52, #[]⟩ : Obj)) ::
  (nat_lit 54, ({ cls := Value.type "tuple", data := Data.seq #[] } : Obj)) ::
  (nat_lit 56, ({ cls := Value.type "tuple", data := Data.seq #[Value.str (Str.ofString "piece") 249, Value.str (Str.ofString "kind") 250] } : Obj)) ::
  (nat_lit 57, ({ cls := Value.type "tuple", data := Data.seq #[] } : Obj)) ::
  (nat_lit 59, ({ cls := Value.type "code", data := Data.fields #[Value.str (Str.ofString "piece_rows") 246, Value.str (Str.ofString "piece_rows") 247, Value.str (Str.ofString "/claim/cut.py") 248, Value.int 27 0, Value.int 1 0, Value.int 0 0, Value.int 0 0, Value.int 3 0, Value.ref 54, Value.bool true, Value.int 181 0, Value.ref 55, Value.none, Value.ref 56, Value.ref 57, Value.ref 58, Value.int 251 0, Value.int 27 0, Value.str (Str.ofString "/claim/cut.py") 252] } : Obj)) ::
  (nat_lit 60, (⟨.type "function", none, fnD (st 8) (Str.ofString "piece_rows") (Value.str (Str.ofString "corecc.emit") 236) 59, #[]⟩ : Obj)) ::
  (nat_lit 61, ({ cls := Value.type "tuple", data := Data.seq #[] } : Obj)) ::
  (nat_lit 64, ({ cls := Value.type "code", data := Data.fields #[Value.str (Str.ofString "_law_well") 256, Value.str (Str.ofString "_law_well") 257, Value.str (Str.ofString "/claim/cut.py") 258, Value.int 39 0, Value.int 1 0, Value.int 0 0, Value.int 0 0, Value.int 3 0, Value.ref 61, Value.bool true, Value.int 181 0, Value.ref 62, Value.none, Value.none, Value.none, Value.ref 63, Value.int 259 0, Value.int 39 0, Value.str (Str.ofString "/claim/cut.py") 260] } : Obj)) ::
  (nat_lit 65, (⟨.type "function", none, fnD (st 10) (Str.ofString "_law_well") (Value.str (Str.ofString "law_nm0003_01") 254) 64, #[]⟩ : Obj)) ::
  (nat_lit 66, ({ cls := Value.type "tuple", data := Data.seq #[] } : Obj)) ::
  (nat_lit 68, ({ cls := Value.type "tuple", data := Data.seq #[Value.str (Str.ofString "well") 265, Value.str (Str.ofString "size") 266, Value.str (Str.ofString "place") 267, Value.str (Str.ofString "number") 268] } : Obj)) ::
  (nat_lit 69, ({ cls := Value.type "tuple", data := Data.seq #[] } : Obj)) ::
  (nat_lit 71, ({ cls := Value.type "code", data := Data.fields #[Value.str (Str.ofString "_law_draw") 262, Value.str (Str.ofString "_law_draw") 263, Value.str (Str.ofString "/claim/cut.py") 264, Value.int 41 0, Value.int 2 0, Value.int 0 0, Value.int 0 0, Value.int 3 0, Value.ref 66, Value.bool true, Value.int 181 0, Value.ref 67, Value.none, Value.ref 68, Value.ref 69, Value.ref 70, Value.int 269 0, Value.int 41 0, Value.str (Str.ofString "/claim/cut.py") 270] } : Obj)) ::
  (nat_lit 72, (⟨.type "function", none, fnD (st 11) (Str.ofString "_law_draw") (Value.str (Str.ofString "law_nm0003_01") 254) 71, #[]⟩ : Obj)) ::
  (nat_lit 73, ({ cls := Value.type "tuple", data := Data.seq #[] } : Obj)) ::
  (nat_lit 76, ({ cls := Value.type "code", data := Data.fields #[Value.str (Str.ofString "_law_signs") 272, Value.str (Str.ofString "_law_signs") 273, Value.str (Str.ofString "/claim/cut.py") 274, Value.int 47 0, Value.int 1 0, Value.int 0 0, Value.int 0 0, Value.int 3 0, Value.ref 73, Value.bool true, Value.int 181 0, Value.ref 74, Value.none, Value.none, Value.none, Value.ref 75, Value.int 275 0, Value.int 47 0, Value.str (Str.ofString "/claim/cut.py") 276] } : Obj)) ::
  (nat_lit 77, (⟨.type "function", none, fnD (st 12) (Str.ofString "_law_signs") (Value.str (Str.ofString "law_nm0003_01") 254) 76, #[]⟩ : Obj)) ::
  (nat_lit 78, ({ cls := Value.type "tuple", data := Data.seq #[] } : Obj)) ::
  (nat_lit 81, ({ cls := Value.type "code", data := Data.fields #[Value.str (Str.ofString "_law_piece") 278, Value.str (Str.ofString "_law_piece") 279, Value.str (Str.ofString "/claim/cut.py") 280, Value.int 55 0, Value.int 1 0, Value.int 0 0, Value.int 0 0, Value.int 3 0, Value.ref 78, Value.bool true, Value.int 181 0, Value.ref 79, Value.none, Value.none, Value.none, Value.ref 80, Value.int 281 0, Value.int 55 0, Value.str (Str.ofString "/claim/cut.py") 282] } : Obj)) ::
  (nat_lit 82, (⟨.type "function", none, fnD (st 13) (Str.ofString "_law_piece") (Value.str (Str.ofString "law_nm0003_01") 254) 81, #[]⟩ : Obj)) ::
  (nat_lit 83, ({ cls := Value.type "tuple", data := Data.seq #[] } : Obj)) ::
  (nat_lit 85, ({ cls := Value.type "tuple", data := Data.seq #[Value.str (Str.ofString "text") 287, Value.str (Str.ofString "found") 288, Value.str (Str.ofString "at") 289, Value.str (Str.ofString "sign") 290, Value.str (Str.ofString "plain") 291, Value.str (Str.ofString "value") 292, Value.str (Str.ofString "many") 293] } : Obj)) ::
  (nat_lit 86, ({ cls := Value.type "tuple", data := Data.seq #[] } : Obj)) ::
  (nat_lit 88, ({ cls := Value.type "code", data := Data.fields #[Value.str (Str.ofString "_law_quoted") 284, Value.str (Str.ofString "_law_quoted") 285, Value.str (Str.ofString "/claim/cut.py") 286, Value.int 71 0, Value.int 1 0, Value.int 0 0, Value.int 0 0, Value.int 3 0, Value.ref 83, Value.bool true, Value.int 181 0, Value.ref 84, Value.none, Value.ref 85, Value.ref 86, Value.ref 87, Value.int 294 0, Value.int 71 0, Value.str (Str.ofString "/claim/cut.py") 295] } : Obj)) ::
  (nat_lit 89, (⟨.type "function", none, fnD (st 14) (Str.ofString "_law_quoted") (Value.str (Str.ofString "law_nm0003_01") 254) 88, #[]⟩ : Obj)) ::
  (nat_lit 90, ({ cls := Value.type "tuple", data := Data.seq #[] } : Obj)) ::
  (nat_lit 93, ({ cls := Value.type "code", data := Data.fields #[Value.str (Str.ofString "_law_number") 297, Value.str (Str.ofString "_law_number") 298, Value.str (Str.ofString "/claim/cut.py") 299, Value.int 97 0, Value.int 1 0, Value.int 0 0, Value.int 0 0, Value.int 3 0, Value.ref 90, Value.bool true, Value.int 181 0, Value.ref 91, Value.none, Value.none, Value.none, Value.ref 92, Value.int 300 0, Value.int 97 0, Value.str (Str.ofString "/claim/cut.py") 301] } : Obj)) ::
  (nat_lit 94, (⟨.type "function", none, fnD (st 15) (Str.ofString "_law_number") (Value.str (Str.ofString "law_nm0003_01") 254) 93, #[]⟩ : Obj)) ::
  (nat_lit 95, ({ cls := Value.type "tuple", data := Data.seq #[] } : Obj)) ::
  (nat_lit 97, ({ cls := Value.type "tuple", data := Data.seq #[Value.str (Str.ofString "text") 306, Value.str (Str.ofString "name") 307, Value.str (Str.ofString "far") 308, Value.str (Str.ofString "sign") 309, Value.str (Str.ofString "head") 310, Value.str (Str.ofString "mark") 311, Value.str (Str.ofString "behind") 312] } : Obj)) ::
  (nat_lit 98, ({ cls := Value.type "tuple", data := Data.seq #[] } : Obj)) ::
  (nat_lit 100, ({ cls := Value.type "code", data := Data.fields #[Value.str (Str.ofString "_law_address") 303, Value.str (Str.ofString "_law_address") 304, Value.str (Str.ofString "/claim/cut.py") 305, Value.int 102 0, Value.int 1 0, Value.int 0 0, Value.int 0 0, Value.int 3 0, Value.ref 95, Value.bool true, Value.int 181 0, Value.ref 96, Value.none, Value.ref 97, Value.ref 98, Value.ref 99, Value.int 313 0, Value.int 102 0, Value.str (Str.ofString "/claim/cut.py") 314] } : Obj)) ::
  (nat_lit 101, (⟨.type "function", none, fnD (st 16) (Str.ofString "_law_address") (Value.str (Str.ofString "law_nm0003_01") 254) 100, #[]⟩ : Obj)) ::
  (nat_lit 102, ({ cls := Value.type "tuple", data := Data.seq #[] } : Obj)) ::
  (nat_lit 105, ({ cls := Value.type "code", data := Data.fields #[Value.str (Str.ofString "_law_row") 316, Value.str (Str.ofString "_law_row") 317, Value.str (Str.ofString "/claim/cut.py") 318, Value.int 114 0, Value.int 1 0, Value.int 0 0, Value.int 0 0, Value.int 3 0, Value.ref 102, Value.bool true, Value.int 181 0, Value.ref 103, Value.none, Value.none, Value.none, Value.ref 104, Value.int 319 0, Value.int 114 0, Value.str (Str.ofString "/claim/cut.py") 320] } : Obj)) ::
  (nat_lit 106, (⟨.type "function", none, fnD (st 17) (Str.ofString "_law_row") (Value.str (Str.ofString "law_nm0003_01") 254) 105, #[]⟩ : Obj)) ::
  (nat_lit 107, ({ cls := Value.type "tuple", data := Data.seq #[] } : Obj)) ::
  (nat_lit 109, ({ cls := Value.type "tuple", data := Data.seq #[Value.str (Str.ofString "rows") 325, Value.str (Str.ofString "found") 326, Value.str (Str.ofString "row") 327, Value.str (Str.ofString "here") 328] } : Obj)) ::
  (nat_lit 110, ({ cls := Value.type "tuple", data := Data.seq #[] } : Obj)) ::
  (nat_lit 112, ({ cls := Value.type "code", data := Data.fields #[Value.str (Str.ofString "_law_rows") 322, Value.str (Str.ofString "_law_rows") 323, Value.str (Str.ofString "/claim/cut.py") 324, Value.int 133 0, Value.int 1 0, Value.int 0 0, Value.int 0 0, Value.int 3 0, Value.ref 107, Value.bool true, Value.int 181 0, Value.ref 108, Value.none, Value.ref 109, Value.ref 110, Value.ref 111, Value.int 329 0, Value.int 133 0, Value.str (Str.ofString "/claim/cut.py") 330] } : Obj)) ::
  (nat_lit 113, (⟨.type "function", none, fnD (st 18) (Str.ofString "_law_rows") (Value.str (Str.ofString "law_nm0003_01") 254) 112, #[]⟩ : Obj)) ::
  (nat_lit 114, ({ cls := Value.type "tuple", data := Data.seq #[] } : Obj)) ::
  (nat_lit 116, ({ cls := Value.type "tuple", data := Data.seq #[Value.str (Str.ofString "piece") 335] } : Obj)) ::
  (nat_lit 117, ({ cls := Value.type "tuple", data := Data.seq #[] } : Obj)) ::
  (nat_lit 119, ({ cls := Value.type "code", data := Data.fields #[Value.str (Str.ofString "_law_refused") 332, Value.str (Str.ofString "_law_refused") 333, Value.str (Str.ofString "/claim/cut.py") 334, Value.int 143 0, Value.int 1 0, Value.int 0 0, Value.int 0 0, Value.int 3 0, Value.ref 114, Value.bool true, Value.int 181 0, Value.ref 115, Value.none, Value.ref 116, Value.ref 117, Value.ref 118, Value.int 336 0, Value.int 143 0, Value.str (Str.ofString "/claim/cut.py") 337] } : Obj)) ::
  (nat_lit 120, (⟨.type "function", none, fnD (st 19) (Str.ofString "_law_refused") (Value.str (Str.ofString "law_nm0003_01") 254) 119, #[]⟩ : Obj)) ::
  (nat_lit 121, ({ cls := Value.type "tuple", data := Data.seq #[] } : Obj)) ::
  (nat_lit 123, ({ cls := Value.type "tuple", data := Data.seq #[Value.str (Str.ofString "script") 342, Value.str (Str.ofString "well") 343, Value.str (Str.ofString "turn") 344, Value.str (Str.ofString "piece") 345, Value.str (Str.ofString "due") 346, Value.str (Str.ofString "octets") 347] } : Obj)) ::
  (nat_lit 124, ({ cls := Value.type "tuple", data := Data.seq #[] } : Obj)) ::
  (nat_lit 126, ({ cls := Value.type "code", data := Data.fields #[Value.str (Str.ofString "law") 339, Value.str (Str.ofString "law") 340, Value.str (Str.ofString "/claim/cut.py") 341, Value.int 149 0, Value.int 1 0, Value.int 0 0, Value.int 0 0, Value.int 3 0, Value.ref 121, Value.bool true, Value.int 181 0, Value.ref 122, Value.none, Value.ref 123, Value.ref 124, Value.ref 125, Value.int 348 0, Value.int 149 0, Value.str (Str.ofString "/claim/cut.py") 349] } : Obj)) ::
  (nat_lit 127, (⟨.type "function", none, fnD (st 20) (Str.ofString "law") (Value.str (Str.ofString "law_nm0003_01") 254) 126, #[]⟩ : Obj)) :: []
noncomputable def addrs : List Addr := [2, 3, 6, 15, 22, 24, 25, 27, 28, 29, 30, 31, 32, 35, 37, 38, 40, 41, 42, 44, 45, 47, 48, 49, 52, 53, 54, 56, 57, 59, 60, 61, 64, 65, 66, 68, 69, 71, 72, 73, 76, 77, 78, 81, 82, 83, 85, 86, 88, 89, 90, 93, 94, 95, 97, 98, 100, 101, 102, 105, 106, 107, 109, 110, 112, 113, 114, 116, 117, 119, 120, 121, 123, 124, 126, 127]
theorem addrs_eq : ∀ P, addrs = (hd.heap_39 P).map (·.1) := fun P => by kernel_rfl
noncomputable def o2 : Params → Obj := fun P => ({ cls := Value.none, data := Data.dict #[{ hash := PyData.keyHash P (Str.ofString "type.__subclasses__.Exception.0"), key := Value.str (Str.ofString "type.__subclasses__.Exception.0") 214, val := Value.int 31 0 }, { hash := PyData.keyHash P (Str.ofString "type.__subclasses__.Exception.n"), key := Value.str (Str.ofString "type.__subclasses__.Exception.n") 215, val := Value.int 1 0 }] 2 } : Obj)
noncomputable def o3 : Params → Obj := fun P => ({ cls := Value.type "dict", data := Data.dict #[{ hash := PyData.keyHash P (Str.ofString "__name__"), key := Value.str (Str.ofString "__name__") 165, val := Value.str (Str.ofString "law_nm0003_01") 254 }, { hash := PyData.keyHash P (Str.ofString "__doc__"), key := Value.str (Str.ofString "__doc__") 166, val := Value.none }, { hash := PyData.keyHash P (Str.ofString "__package__"), key := Value.str (Str.ofString "__package__") 167, val := Value.none }, { hash := PyData.keyHash P (Str.ofString "__loader__"), key := Value.str (Str.ofString "__loader__") 168, val := Value.builtin "__main__.__loader__#opaque" }, { hash := PyData.keyHash P (Str.ofString "__spec__"), key := Value.str (Str.ofString "__spec__") 169, val := Value.none }, { hash := PyData.keyHash P (Str.ofString "__annotations__"), key := Value.str (Str.ofString "__annotations__") 170, val := Value.ref 6 }, { hash := PyData.keyHash P (Str.ofString "__builtins__"), key := Value.str (Str.ofString "__builtins__") 171, val := Value.ref 4 }, { hash := PyData.keyHash P (Str.ofString "__file__"), key := Value.str (Str.ofString "__file__") 173, val := Value.str (Str.ofString "/claim/cut.py") 172 }, { hash := PyData.keyHash P (Str.ofString "__cached__"), key := Value.str (Str.ofString "__cached__") 174, val := Value.none }, { hash := PyData.keyHash P (Str.ofString "CodeFault"), key := Value.str (Str.ofString "CodeFault") 217, val := Value.ref 31 }, { hash := PyData.keyHash P (Str.ofString "signed"), key := Value.str (Str.ofString "signed") 226, val := Value.ref 41 }, { hash := PyData.keyHash P (Str.ofString "symbol_text"), key := Value.str (Str.ofString "symbol_text") 235, val := Value.ref 48 }, { hash := PyData.keyHash P (Str.ofString "PLAIN"), key := Value.str (Str.ofString "PLAIN") 239, val := Value.str (Str.ofString " !$%&'()*+,-./0123456789:;<=>?@ABCDEFGHIJKLMNOPQRSTUVWXYZ[]^_`abcdefghijklmnopqrstuvwxyz{|}~") 238 }, { hash := PyData.keyHash P (Str.ofString "octet_rows"), key := Value.str (Str.ofString "octet_rows") 245, val := Value.ref 53 }, { hash := PyData.keyHash P (Str.ofString "piece_rows"), key := Value.str (Str.ofString "piece_rows") 253, val := Value.ref 60 }, { hash := PyData.keyHash P (Str.ofString "_law_well"), key := Value.str (Str.ofString "_law_well") 261, val := Value.ref 65 }, { hash := PyData.keyHash P (Str.ofString "_law_draw"), key := Value.str (Str.ofString "_law_draw") 271, val := Value.ref 72 }, { hash := PyData.keyHash P (Str.ofString "_law_signs"), key := Value.str (Str.ofString "_law_signs") 277, val := Value.ref 77 }, { hash := PyData.keyHash P (Str.ofString "_law_piece"), key := Value.str (Str.ofString "_law_piece") 283, val := Value.ref 82 }, { hash := PyData.keyHash P (Str.ofString "_law_quoted"), key := Value.str (Str.ofString "_law_quoted") 296, val := Value.ref 89 }, { hash := PyData.keyHash P (Str.ofString "_law_number"), key := Value.str (Str.ofString "_law_number") 302, val := Value.ref 94 }, { hash := PyData.keyHash P (Str.ofString "_law_address"), key := Value.str (Str.ofString "_law_address") 315, val := Value.ref 101 }, { hash := PyData.keyHash P (Str.ofString "_law_row"), key := Value.str (Str.ofString "_law_row") 321, val := Value.ref 106 }, { hash := PyData.keyHash P (Str.ofString "_law_rows"), key := Value.str (Str.ofString "_law_rows") 331, val := Value.ref 113 }, { hash := PyData.keyHash P (Str.ofString "_law_refused"), key := Value.str (Str.ofString "_law_refused") 338, val := Value.ref 120 }, { hash := PyData.keyHash P (Str.ofString "law"), key := Value.str (Str.ofString "law") 350, val := Value.ref 127 }] 26 } : Obj)
noncomputable def o11 : Params → Obj := fun P => ({ cls := Value.type "tuple", data := Data.seq #[] } : Obj)
noncomputable def o12 : Params → Obj := fun P => ({ cls := Value.none, data := Data.fields #[Value.int 2 0, Value.int 0 0, Value.ref 20, Value.int 8 0, Value.int 0 0, Value.ref 40, Value.int 11 0, Value.int 0 0, Value.ref 47, Value.int 18 0, Value.int 0 0, Value.ref 52, Value.int 27 0, Value.int 0 0, Value.ref 59, Value.int 39 0, Value.int 0 0, Value.ref 64, Value.int 41 0, Value.int 0 0, Value.ref 71, Value.int 47 0, Value.int 0 0, Value.ref 76, Value.int 55 0, Value.int 0 0, Value.ref 81, Value.int 71 0, Value.int 0 0, Value.ref 88, Value.int 97 0, Value.int 0 0, Value.ref 93, Value.int 102 0, Value.int 0 0, Value.ref 100, Value.int 114 0, Value.int 0 0, Value.ref 105, Value.int 133 0, Value.int 0 0, Value.ref 112, Value.int 143 0, Value.int 0 0, Value.ref 119, Value.int 149 0, Value.int 0 0, Value.ref 126] } : Obj)
noncomputable def o13 : Params → Obj := fun P => ({ cls := Value.type "code", data := Data.fields #[Value.str (Str.ofString "<module>") 182, Value.str (Str.ofString "<module>") 183, Value.str (Str.ofString "/claim/cut.py") 184, Value.int 1 0, Value.int 0 0, Value.int 0 0, Value.int 0 0, Value.int 0 0, Value.ref 11, Value.bool false, Value.int 181 0, Value.ref 12, Value.none, Value.none, Value.none, Value.none, Value.int 185 0, Value.int 1 0, Value.str (Str.ofString "/claim/cut.py") 186] } : Obj)
noncomputable def o14 : Params → Obj := fun P => ({ cls := Value.type "frame", slots := #[some (Value.ref 13), some (Value.ref 3), some (Value.ref 3), none, some (Value.str (Str.ofString "__main__") 164), none, some (Value.ref 0)] } : Obj)
noncomputable def o15 : Params → Obj := fun P => ({ cls := Value.type "tuple", data := Data.seq #[Value.type "Exception"] } : Obj)
noncomputable def o16 : Params → Obj := fun P => ({ cls := Value.type "builtin_function_or_method", data := Data.fields #[Value.builtin "type.__prepare__", Value.type "type"] } : Obj)
noncomputable def o17 : Params → Obj := fun P => ({ cls := Value.type "dict", data := Data.dict #[{ hash := PyData.keyHash P (Str.ofString "__module__"), key := Value.str (Str.ofString "__module__") 196, val := Value.str (Str.ofString "corecc.errors") 187 }, { hash := PyData.keyHash P (Str.ofString "__qualname__"), key := Value.str (Str.ofString "__qualname__") 198, val := Value.str (Str.ofString "CodeFault") 197 }, { hash := PyData.keyHash P (Str.ofString "__firstlineno__"), key := Value.str (Str.ofString "__firstlineno__") 200, val := Value.int 2 199 }, { hash := PyData.keyHash P (Str.ofString "__init__"), key := Value.str (Str.ofString "__init__") 208, val := Value.ref 28 }, { hash := PyData.keyHash P (Str.ofString "__static_attributes__"), key := Value.str (Str.ofString "__static_attributes__") 210, val := Value.ref 29 }] 5 } : Obj)
noncomputable def o18 : Params → Obj := fun P => ({ cls := Value.type "tuple", data := Data.seq #[] } : Obj)
noncomputable def o19 : Params → Obj := fun P => ({ cls := Value.none, data := Data.fields #[Value.int 4 0, Value.int 4 0, Value.ref 27] } : Obj)
noncomputable def o20 : Params → Obj := fun P => ({ cls := Value.type "code", data := Data.fields #[Value.str (Str.ofString "CodeFault") 191, Value.str (Str.ofString "CodeFault") 192, Value.str (Str.ofString "/claim/cut.py") 193, Value.int 2 0, Value.int 0 0, Value.int 0 0, Value.int 0 0, Value.int 0 0, Value.ref 18, Value.bool false, Value.int 181 0, Value.ref 19, Value.none, Value.none, Value.none, Value.none, Value.int 194 0, Value.int 2 0, Value.str (Str.ofString "/claim/cut.py") 195] } : Obj)
noncomputable def o21 : Params → Obj := fun P => ({ cls := Value.type "frame", slots := #[some (Value.ref 20), some (Value.ref 3), some (Value.ref 17), none, some (Value.str (Str.ofString "corecc.errors") 187), none, some (Value.ref 0)] } : Obj)
noncomputable def o22 : Params → Obj := fun P => ({ cls := Value.type "tuple", data := Data.seq #[] } : Obj)
noncomputable def o23 : Params → Obj := fun P => ({ cls := Value.none, data := Data.fields #[] } : Obj)
noncomputable def o24 : Params → Obj := fun P => ({ cls := Value.type "tuple", data := Data.seq #[Value.str (Str.ofString "self") 204, Value.str (Str.ofString "word") 205] } : Obj)
noncomputable def o25 : Params → Obj := fun P => ({ cls := Value.type "tuple", data := Data.seq #[] } : Obj)
noncomputable def o26 : Params → Obj := fun P => (⟨.none, none, fnK (inClass (st 1)) (Str.ofString "CodeFault.__init__"), #[]⟩ : Obj)
noncomputable def o27 : Params → Obj := fun P => ({ cls := Value.type "code", data := Data.fields #[Value.str (Str.ofString "__init__") 201, Value.str (Str.ofString "CodeFault.__init__") 202, Value.str (Str.ofString "/claim/cut.py") 203, Value.int 4 0, Value.int 2 0, Value.int 0 0, Value.int 0 0, Value.int 3 0, Value.ref 22, Value.bool true, Value.int 181 0, Value.ref 23, Value.none, Value.ref 24, Value.ref 25, Value.ref 26, Value.int 206 0, Value.int 4 0, Value.str (Str.ofString "/claim/cut.py") 207] } : Obj)
noncomputable def o28 : Params → Obj := fun P => (⟨.type "function", none, fnD (inClass (st 1)) (Str.ofString "CodeFault.__init__") (Value.str (Str.ofString "corecc.errors") 187) 27, #[]⟩ : Obj)
noncomputable def o29 : Params → Obj := fun P => ({ cls := Value.type "tuple", data := Data.seq #[Value.str (Str.ofString "word") 209] } : Obj)
noncomputable def o30 : Params → Obj := fun P => ({ cls := Value.type "dict", data := Data.dict #[{ hash := PyData.keyHash P (Str.ofString "__module__"), key := Value.str (Str.ofString "__module__") 196, val := Value.str (Str.ofString "corecc.errors") 187 }, { hash := PyData.keyHash P (Str.ofString "__firstlineno__"), key := Value.str (Str.ofString "__firstlineno__") 200, val := Value.int 2 199 }, { hash := PyData.keyHash P (Str.ofString "__init__"), key := Value.str (Str.ofString "__init__") 208, val := Value.ref 28 }, { hash := PyData.keyHash P (Str.ofString "__static_attributes__"), key := Value.str (Str.ofString "__static_attributes__") 210, val := Value.ref 29 }, { hash := PyData.keyHash P (Str.ofString "__weakref__"), key := Value.str (Str.ofString "__weakref__") 212, val := Value.ref 32 }, { hash := PyData.keyHash P (Str.ofString "__doc__"), key := Value.str (Str.ofString "__doc__") 213, val := Value.none }] 3 } : Obj)
noncomputable def o31 : Params → Obj := fun P => ({ cls := Value.type "type", data := Data.cls { name := Str.ofString "CodeFault", bases := [Value.type "Exception"], mro := [Value.ref 31, Value.type "Exception", Value.type "BaseException", Value.type "object"], ns := 30, qualname := Str.ofString "CodeFault" }, slots := #[some (Value.ref 15), none, some (Value.str (Str.ofString "CodeFault") 189), some (Value.str (Str.ofString "CodeFault") 197), some (Value.builtin "Exception.__new__"), some (Value.bool true)] } : Obj)
noncomputable def o32 : Params → Obj := fun P => ({ cls := Value.type "getset_descriptor", data := Data.fields #[Value.str (Str.ofString "__weakref__") 211, Value.ref 31, Value.builtin "ExceptionGroup.__weakref__", Value.none] } : Obj)
noncomputable def o33 : Params → Obj := fun P => ({ cls := Value.type "super", data := Data.fields #[Value.ref 31, Value.ref 31, Value.ref 31] } : Obj)
noncomputable def o34 : Params → Obj := fun P => ({ cls := Value.type "builtin_function_or_method", data := Data.fields #[Value.builtin "object.__init_subclass__", Value.ref 31] } : Obj)
noncomputable def o35 : Params → Obj := fun P => ({ cls := Value.type "tuple", data := Data.seq #[] } : Obj)
noncomputable def o36 : Params → Obj := fun P => ({ cls := Value.none, data := Data.fields #[] } : Obj)
noncomputable def o37 : Params → Obj := fun P => ({ cls := Value.type "tuple", data := Data.seq #[Value.str (Str.ofString "value") 223] } : Obj)
noncomputable def o38 : Params → Obj := fun P => ({ cls := Value.type "tuple", data := Data.seq #[] } : Obj)
noncomputable def o39 : Params → Obj := fun P => (⟨.none, none, fnK (st 3) (Str.ofString "signed"), #[]⟩ : Obj)
noncomputable def o40 : Params → Obj := fun P => ({ cls := Value.type "code", data := Data.fields #[Value.str (Str.ofString "signed") 220, Value.str (Str.ofString "signed") 221, Value.str (Str.ofString "/claim/cut.py") 222, Value.int 8 0, Value.int 1 0, Value.int 0 0, Value.int 0 0, Value.int 3 0, Value.ref 35, Value.bool true, Value.int 181 0, Value.ref 36, Value.none, Value.ref 37, Value.ref 38, Value.ref 39, Value.int 224 0, Value.int 8 0, Value.str (Str.ofString "/claim/cut.py") 225] } : Obj)
noncomputable def o41 : Params → Obj := fun P => (⟨.type "function", none, fnD (st 3) (Str.ofString "signed") (Value.str (Str.ofString "corecc.frames") 218) 40, #[]⟩ : Obj)
noncomputable def o42 : Params → Obj := fun P => ({ cls := Value.type "tuple", data := Data.seq #[] } : Obj)
noncomputable def o43 : Params → Obj := fun P => ({ cls := Value.none, data := Data.fields #[] } : Obj)
noncomputable def o44 : Params → Obj := fun P => ({ cls := Value.type "tuple", data := Data.seq #[Value.str (Str.ofString "name") 230, Value.str (Str.ofString "offset") 231, Value.str (Str.ofString "distance") 232] } : Obj)
noncomputable def o45 : Params → Obj := fun P => ({ cls := Value.type "tuple", data := Data.seq #[] } : Obj)
noncomputable def o46 : Params → Obj := fun P => (⟨.none, none, fnK (st 4) (Str.ofString "symbol_text"), #[]⟩ : Obj)
noncomputable def o47 : Params → Obj := fun P => ({ cls := Value.type "code", data := Data.fields #[Value.str (Str.ofString "symbol_text") 227, Value.str (Str.ofString "symbol_text") 228, Value.str (Str.ofString "/claim/cut.py") 229, Value.int 11 0, Value.int 2 0, Value.int 0 0, Value.int 0 0, Value.int 3 0, Value.ref 42, Value.bool true, Value.int 181 0, Value.ref 43, Value.none, Value.ref 44, Value.ref 45, Value.ref 46, Value.int 233 0, Value.int 11 0, Value.str (Str.ofString "/claim/cut.py") 234] } : Obj)
noncomputable def o48 : Params → Obj := fun P => (⟨.type "function", none, fnD (st 4) (Str.ofString "symbol_text") (Value.str (Str.ofString "corecc.frames") 218) 47, #[]⟩ : Obj)
noncomputable def o49 : Params → Obj := fun P => ({ cls := Value.type "tuple", data := Data.seq #[] } : Obj)
noncomputable def o50 : Params → Obj := fun P => ({ cls := Value.none, data := Data.fields #[] } : Obj)
noncomputable def o51 : Params → Obj := fun P => (⟨.none, none, fnK (st 7) (Str.ofString "octet_rows"), #[]⟩ : Obj)
noncomputable def o52 : Params → Obj := fun P => ({ cls := Value.type "code", data := Data.fields #[Value.str (Str.ofString "octet_rows") 240, Value.str (Str.ofString "octet_rows") 241, Value.str (Str.ofString "/claim/cut.py") 242, Value.int 18 0, Value.int 1 0, Value.int 0 0, Value.int 0 0, Value.int 3 0, Value.ref 49, Value.bool true, Value.int 181 0, Value.ref 50, Value.none, Value.none, Value.none, Value.ref 51, Value.int 243 0, Value.int 18 0, Value.str (Str.ofString "/claim/cut.py") 244] } : Obj)
noncomputable def o53 : Params → Obj := fun P => (⟨.type "function", none, fnD (st 7) (Str.ofString "octet_rows") (Value.str (Str.ofString "corecc.emit") 236) 52, #[]⟩ : Obj)
noncomputable def o54 : Params → Obj := fun P => ({ cls := Value.type "tuple", data := Data.seq #[] } : Obj)
noncomputable def o55 : Params → Obj := fun P => ({ cls := Value.none, data := Data.fields #[] } : Obj)
noncomputable def o56 : Params → Obj := fun P => ({ cls := Value.type "tuple", data := Data.seq #[Value.str (Str.ofString "piece") 249, Value.str (Str.ofString "kind") 250] } : Obj)
noncomputable def o57 : Params → Obj := fun P => ({ cls := Value.type "tuple", data := Data.seq #[] } : Obj)
noncomputable def o58 : Params → Obj := fun P => (⟨.none, none, fnK (st 8) (Str.ofString "piece_rows"), #[]⟩ : Obj)
noncomputable def o59 : Params → Obj := fun P => ({ cls := Value.type "code", data := Data.fields #[Value.str (Str.ofString "piece_rows") 246, Value.str (Str.ofString "piece_rows") 247, Value.str (Str.ofString "/claim/cut.py") 248, Value.int 27 0, Value.int 1 0, Value.int 0 0, Value.int 0 0, Value.int 3 0, Value.ref 54, Value.bool true, Value.int 181 0, Value.ref 55, Value.none, Value.ref 56, Value.ref 57, Value.ref 58, Value.int 251 0, Value.int 27 0, Value.str (Str.ofString "/claim/cut.py") 252] } : Obj)
noncomputable def o60 : Params → Obj := fun P => (⟨.type "function", none, fnD (st 8) (Str.ofString "piece_rows") (Value.str (Str.ofString "corecc.emit") 236) 59, #[]⟩ : Obj)
noncomputable def o61 : Params → Obj := fun P => ({ cls := Value.type "tuple", data := Data.seq #[] } : Obj)
noncomputable def o62 : Params → Obj := fun P => ({ cls := Value.none, data := Data.fields #[] } : Obj)
noncomputable def o63 : Params → Obj := fun P => (⟨.none, none, fnK (st 10) (Str.ofString "_law_well"), #[]⟩ : Obj)
noncomputable def o64 : Params → Obj := fun P => ({ cls := Value.type "code", data := Data.fields #[Value.str (Str.ofString "_law_well") 256, Value.str (Str.ofString "_law_well") 257, Value.str (Str.ofString "/claim/cut.py") 258, Value.int 39 0, Value.int 1 0, Value.int 0 0, Value.int 0 0, Value.int 3 0, Value.ref 61, Value.bool true, Value.int 181 0, Value.ref 62, Value.none, Value.none, Value.none, Value.ref 63, Value.int 259 0, Value.int 39 0, Value.str (Str.ofString "/claim/cut.py") 260] } : Obj)
noncomputable def o65 : Params → Obj := fun P => (⟨.type "function", none, fnD (st 10) (Str.ofString "_law_well") (Value.str (Str.ofString "law_nm0003_01") 254) 64, #[]⟩ : Obj)
noncomputable def o66 : Params → Obj := fun P => ({ cls := Value.type "tuple", data := Data.seq #[] } : Obj)
noncomputable def o67 : Params → Obj := fun P => ({ cls := Value.none, data := Data.fields #[] } : Obj)
noncomputable def o68 : Params → Obj := fun P => ({ cls := Value.type "tuple", data := Data.seq #[Value.str (Str.ofString "well") 265, Value.str (Str.ofString "size") 266, Value.str (Str.ofString "place") 267, Value.str (Str.ofString "number") 268] } : Obj)
noncomputable def o69 : Params → Obj := fun P => ({ cls := Value.type "tuple", data := Data.seq #[] } : Obj)
noncomputable def o70 : Params → Obj := fun P => (⟨.none, none, fnK (st 11) (Str.ofString "_law_draw"), #[]⟩ : Obj)
noncomputable def o71 : Params → Obj := fun P => ({ cls := Value.type "code", data := Data.fields #[Value.str (Str.ofString "_law_draw") 262, Value.str (Str.ofString "_law_draw") 263, Value.str (Str.ofString "/claim/cut.py") 264, Value.int 41 0, Value.int 2 0, Value.int 0 0, Value.int 0 0, Value.int 3 0, Value.ref 66, Value.bool true, Value.int 181 0, Value.ref 67, Value.none, Value.ref 68, Value.ref 69, Value.ref 70, Value.int 269 0, Value.int 41 0, Value.str (Str.ofString "/claim/cut.py") 270] } : Obj)
noncomputable def o72 : Params → Obj := fun P => (⟨.type "function", none, fnD (st 11) (Str.ofString "_law_draw") (Value.str (Str.ofString "law_nm0003_01") 254) 71, #[]⟩ : Obj)
noncomputable def o73 : Params → Obj := fun P => ({ cls := Value.type "tuple", data := Data.seq #[] } : Obj)
noncomputable def o74 : Params → Obj := fun P => ({ cls := Value.none, data := Data.fields #[] } : Obj)
noncomputable def o75 : Params → Obj := fun P => (⟨.none, none, fnK (st 12) (Str.ofString "_law_signs"), #[]⟩ : Obj)
noncomputable def o76 : Params → Obj := fun P => ({ cls := Value.type "code", data := Data.fields #[Value.str (Str.ofString "_law_signs") 272, Value.str (Str.ofString "_law_signs") 273, Value.str (Str.ofString "/claim/cut.py") 274, Value.int 47 0, Value.int 1 0, Value.int 0 0, Value.int 0 0, Value.int 3 0, Value.ref 73, Value.bool true, Value.int 181 0, Value.ref 74, Value.none, Value.none, Value.none, Value.ref 75, Value.int 275 0, Value.int 47 0, Value.str (Str.ofString "/claim/cut.py") 276] } : Obj)
noncomputable def o77 : Params → Obj := fun P => (⟨.type "function", none, fnD (st 12) (Str.ofString "_law_signs") (Value.str (Str.ofString "law_nm0003_01") 254) 76, #[]⟩ : Obj)
noncomputable def o78 : Params → Obj := fun P => ({ cls := Value.type "tuple", data := Data.seq #[] } : Obj)
noncomputable def o79 : Params → Obj := fun P => ({ cls := Value.none, data := Data.fields #[] } : Obj)
noncomputable def o80 : Params → Obj := fun P => (⟨.none, none, fnK (st 13) (Str.ofString "_law_piece"), #[]⟩ : Obj)
noncomputable def o81 : Params → Obj := fun P => ({ cls := Value.type "code", data := Data.fields #[Value.str (Str.ofString "_law_piece") 278, Value.str (Str.ofString "_law_piece") 279, Value.str (Str.ofString "/claim/cut.py") 280, Value.int 55 0, Value.int 1 0, Value.int 0 0, Value.int 0 0, Value.int 3 0, Value.ref 78, Value.bool true, Value.int 181 0, Value.ref 79, Value.none, Value.none, Value.none, Value.ref 80, Value.int 281 0, Value.int 55 0, Value.str (Str.ofString "/claim/cut.py") 282] } : Obj)
noncomputable def o82 : Params → Obj := fun P => (⟨.type "function", none, fnD (st 13) (Str.ofString "_law_piece") (Value.str (Str.ofString "law_nm0003_01") 254) 81, #[]⟩ : Obj)
noncomputable def o83 : Params → Obj := fun P => ({ cls := Value.type "tuple", data := Data.seq #[] } : Obj)
noncomputable def o84 : Params → Obj := fun P => ({ cls := Value.none, data := Data.fields #[] } : Obj)
noncomputable def o85 : Params → Obj := fun P => ({ cls := Value.type "tuple", data := Data.seq #[Value.str (Str.ofString "text") 287, Value.str (Str.ofString "found") 288, Value.str (Str.ofString "at") 289, Value.str (Str.ofString "sign") 290, Value.str (Str.ofString "plain") 291, Value.str (Str.ofString "value") 292, Value.str (Str.ofString "many") 293] } : Obj)
noncomputable def o86 : Params → Obj := fun P => ({ cls := Value.type "tuple", data := Data.seq #[] } : Obj)
noncomputable def o87 : Params → Obj := fun P => (⟨.none, none, fnK (st 14) (Str.ofString "_law_quoted"), #[]⟩ : Obj)
noncomputable def o88 : Params → Obj := fun P => ({ cls := Value.type "code", data := Data.fields #[Value.str (Str.ofString "_law_quoted") 284, Value.str (Str.ofString "_law_quoted") 285, Value.str (Str.ofString "/claim/cut.py") 286, Value.int 71 0, Value.int 1 0, Value.int 0 0, Value.int 0 0, Value.int 3 0, Value.ref 83, Value.bool true, Value.int 181 0, Value.ref 84, Value.none, Value.ref 85, Value.ref 86, Value.ref 87, Value.int 294 0, Value.int 71 0, Value.str (Str.ofString "/claim/cut.py") 295] } : Obj)
noncomputable def o89 : Params → Obj := fun P => (⟨.type "function", none, fnD (st 14) (Str.ofString "_law_quoted") (Value.str (Str.ofString "law_nm0003_01") 254) 88, #[]⟩ : Obj)
noncomputable def o90 : Params → Obj := fun P => ({ cls := Value.type "tuple", data := Data.seq #[] } : Obj)
noncomputable def o91 : Params → Obj := fun P => ({ cls := Value.none, data := Data.fields #[] } : Obj)
noncomputable def o92 : Params → Obj := fun P => (⟨.none, none, fnK (st 15) (Str.ofString "_law_number"), #[]⟩ : Obj)
noncomputable def o93 : Params → Obj := fun P => ({ cls := Value.type "code", data := Data.fields #[Value.str (Str.ofString "_law_number") 297, Value.str (Str.ofString "_law_number") 298, Value.str (Str.ofString "/claim/cut.py") 299, Value.int 97 0, Value.int 1 0, Value.int 0 0, Value.int 0 0, Value.int 3 0, Value.ref 90, Value.bool true, Value.int 181 0, Value.ref 91, Value.none, Value.none, Value.none, Value.ref 92, Value.int 300 0, Value.int 97 0, Value.str (Str.ofString "/claim/cut.py") 301] } : Obj)
noncomputable def o94 : Params → Obj := fun P => (⟨.type "function", none, fnD (st 15) (Str.ofString "_law_number") (Value.str (Str.ofString "law_nm0003_01") 254) 93, #[]⟩ : Obj)
noncomputable def o95 : Params → Obj := fun P => ({ cls := Value.type "tuple", data := Data.seq #[] } : Obj)
noncomputable def o96 : Params → Obj := fun P => ({ cls := Value.none, data := Data.fields #[] } : Obj)
noncomputable def o97 : Params → Obj := fun P => ({ cls := Value.type "tuple", data := Data.seq #[Value.str (Str.ofString "text") 306, Value.str (Str.ofString "name") 307, Value.str (Str.ofString "far") 308, Value.str (Str.ofString "sign") 309, Value.str (Str.ofString "head") 310, Value.str (Str.ofString "mark") 311, Value.str (Str.ofString "behind") 312] } : Obj)
noncomputable def o98 : Params → Obj := fun P => ({ cls := Value.type "tuple", data := Data.seq #[] } : Obj)
noncomputable def o99 : Params → Obj := fun P => (⟨.none, none, fnK (st 16) (Str.ofString "_law_address"), #[]⟩ : Obj)
noncomputable def o100 : Params → Obj := fun P => ({ cls := Value.type "code", data := Data.fields #[Value.str (Str.ofString "_law_address") 303, Value.str (Str.ofString "_law_address") 304, Value.str (Str.ofString "/claim/cut.py") 305, Value.int 102 0, Value.int 1 0, Value.int 0 0, Value.int 0 0, Value.int 3 0, Value.ref 95, Value.bool true, Value.int 181 0, Value.ref 96, Value.none, Value.ref 97, Value.ref 98, Value.ref 99, Value.int 313 0, Value.int 102 0, Value.str (Str.ofString "/claim/cut.py") 314] } : Obj)
noncomputable def o101 : Params → Obj := fun P => (⟨.type "function", none, fnD (st 16) (Str.ofString "_law_address") (Value.str (Str.ofString "law_nm0003_01") 254) 100, #[]⟩ : Obj)
noncomputable def o102 : Params → Obj := fun P => ({ cls := Value.type "tuple", data := Data.seq #[] } : Obj)
noncomputable def o103 : Params → Obj := fun P => ({ cls := Value.none, data := Data.fields #[] } : Obj)
noncomputable def o104 : Params → Obj := fun P => (⟨.none, none, fnK (st 17) (Str.ofString "_law_row"), #[]⟩ : Obj)
noncomputable def o105 : Params → Obj := fun P => ({ cls := Value.type "code", data := Data.fields #[Value.str (Str.ofString "_law_row") 316, Value.str (Str.ofString "_law_row") 317, Value.str (Str.ofString "/claim/cut.py") 318, Value.int 114 0, Value.int 1 0, Value.int 0 0, Value.int 0 0, Value.int 3 0, Value.ref 102, Value.bool true, Value.int 181 0, Value.ref 103, Value.none, Value.none, Value.none, Value.ref 104, Value.int 319 0, Value.int 114 0, Value.str (Str.ofString "/claim/cut.py") 320] } : Obj)
noncomputable def o106 : Params → Obj := fun P => (⟨.type "function", none, fnD (st 17) (Str.ofString "_law_row") (Value.str (Str.ofString "law_nm0003_01") 254) 105, #[]⟩ : Obj)
noncomputable def o107 : Params → Obj := fun P => ({ cls := Value.type "tuple", data := Data.seq #[] } : Obj)
noncomputable def o108 : Params → Obj := fun P => ({ cls := Value.none, data := Data.fields #[] } : Obj)
noncomputable def o109 : Params → Obj := fun P => ({ cls := Value.type "tuple", data := Data.seq #[Value.str (Str.ofString "rows") 325, Value.str (Str.ofString "found") 326, Value.str (Str.ofString "row") 327, Value.str (Str.ofString "here") 328] } : Obj)
noncomputable def o110 : Params → Obj := fun P => ({ cls := Value.type "tuple", data := Data.seq #[] } : Obj)
noncomputable def o111 : Params → Obj := fun P => (⟨.none, none, fnK (st 18) (Str.ofString "_law_rows"), #[]⟩ : Obj)
noncomputable def o112 : Params → Obj := fun P => ({ cls := Value.type "code", data := Data.fields #[Value.str (Str.ofString "_law_rows") 322, Value.str (Str.ofString "_law_rows") 323, Value.str (Str.ofString "/claim/cut.py") 324, Value.int 133 0, Value.int 1 0, Value.int 0 0, Value.int 0 0, Value.int 3 0, Value.ref 107, Value.bool true, Value.int 181 0, Value.ref 108, Value.none, Value.ref 109, Value.ref 110, Value.ref 111, Value.int 329 0, Value.int 133 0, Value.str (Str.ofString "/claim/cut.py") 330] } : Obj)
noncomputable def o113 : Params → Obj := fun P => (⟨.type "function", none, fnD (st 18) (Str.ofString "_law_rows") (Value.str (Str.ofString "law_nm0003_01") 254) 112, #[]⟩ : Obj)
noncomputable def o114 : Params → Obj := fun P => ({ cls := Value.type "tuple", data := Data.seq #[] } : Obj)
noncomputable def o115 : Params → Obj := fun P => ({ cls := Value.none, data := Data.fields #[] } : Obj)
noncomputable def o116 : Params → Obj := fun P => ({ cls := Value.type "tuple", data := Data.seq #[Value.str (Str.ofString "piece") 335] } : Obj)
noncomputable def o117 : Params → Obj := fun P => ({ cls := Value.type "tuple", data := Data.seq #[] } : Obj)
noncomputable def o118 : Params → Obj := fun P => (⟨.none, none, fnK (st 19) (Str.ofString "_law_refused"), #[]⟩ : Obj)
noncomputable def o119 : Params → Obj := fun P => ({ cls := Value.type "code", data := Data.fields #[Value.str (Str.ofString "_law_refused") 332, Value.str (Str.ofString "_law_refused") 333, Value.str (Str.ofString "/claim/cut.py") 334, Value.int 143 0, Value.int 1 0, Value.int 0 0, Value.int 0 0, Value.int 3 0, Value.ref 114, Value.bool true, Value.int 181 0, Value.ref 115, Value.none, Value.ref 116, Value.ref 117, Value.ref 118, Value.int 336 0, Value.int 143 0, Value.str (Str.ofString "/claim/cut.py") 337] } : Obj)
noncomputable def o120 : Params → Obj := fun P => (⟨.type "function", none, fnD (st 19) (Str.ofString "_law_refused") (Value.str (Str.ofString "law_nm0003_01") 254) 119, #[]⟩ : Obj)
noncomputable def o121 : Params → Obj := fun P => ({ cls := Value.type "tuple", data := Data.seq #[] } : Obj)
noncomputable def o122 : Params → Obj := fun P => ({ cls := Value.none, data := Data.fields #[] } : Obj)
noncomputable def o123 : Params → Obj := fun P => ({ cls := Value.type "tuple", data := Data.seq #[Value.str (Str.ofString "script") 342, Value.str (Str.ofString "well") 343, Value.str (Str.ofString "turn") 344, Value.str (Str.ofString "piece") 345, Value.str (Str.ofString "due") 346, Value.str (Str.ofString "octets") 347] } : Obj)
noncomputable def o124 : Params → Obj := fun P => ({ cls := Value.type "tuple", data := Data.seq #[] } : Obj)
noncomputable def o125 : Params → Obj := fun P => (⟨.none, none, fnK (st 20) (Str.ofString "law"), #[]⟩ : Obj)
noncomputable def o126 : Params → Obj := fun P => ({ cls := Value.type "code", data := Data.fields #[Value.str (Str.ofString "law") 339, Value.str (Str.ofString "law") 340, Value.str (Str.ofString "/claim/cut.py") 341, Value.int 149 0, Value.int 1 0, Value.int 0 0, Value.int 0 0, Value.int 3 0, Value.ref 121, Value.bool true, Value.int 181 0, Value.ref 122, Value.none, Value.ref 123, Value.ref 124, Value.ref 125, Value.int 348 0, Value.int 149 0, Value.str (Str.ofString "/claim/cut.py") 349] } : Obj)
noncomputable def o127 : Params → Obj := fun P => (⟨.type "function", none, fnD (st 20) (Str.ofString "law") (Value.str (Str.ofString "law_nm0003_01") 254) 126, #[]⟩ : Obj)
noncomputable def o_44 : Params → Obj := fun P => ({ cls := Value.none, data := Data.fields #[] } : Obj)
noncomputable def o_50 : Params → Obj := fun P => ({ cls := Value.type "dict", data := Data.dict #[{ hash := PyData.keyHash P (Str.ofString "__name__"), key := Value.str (Str.ofString "__name__") 165, val := Value.str (Str.ofString "law_nm0003_01") 254 }, { hash := PyData.keyHash P (Str.ofString "__doc__"), key := Value.str (Str.ofString "__doc__") 166, val := Value.none }, { hash := PyData.keyHash P (Str.ofString "__package__"), key := Value.str (Str.ofString "__package__") 167, val := Value.none }, { hash := PyData.keyHash P (Str.ofString "__loader__"), key := Value.str (Str.ofString "__loader__") 168, val := Value.builtin "__main__.__loader__#opaque" }, { hash := PyData.keyHash P (Str.ofString "__spec__"), key := Value.str (Str.ofString "__spec__") 169, val := Value.none }, { hash := PyData.keyHash P (Str.ofString "__annotations__"), key := Value.str (Str.ofString "__annotations__") 170, val := Value.ref 6 }, { hash := PyData.keyHash P (Str.ofString "__builtins__"), key := Value.str (Str.ofString "__builtins__") 171, val := Value.ref 4 }, { hash := PyData.keyHash P (Str.ofString "__file__"), key := Value.str (Str.ofString "__file__") 173, val := Value.str (Str.ofString "/claim/cut.py") 172 }, { hash := PyData.keyHash P (Str.ofString "__cached__"), key := Value.str (Str.ofString "__cached__") 174, val := Value.none }, { hash := PyData.keyHash P (Str.ofString "CodeFault"), key := Value.str (Str.ofString "CodeFault") 217, val := Value.ref 31 }, { hash := PyData.keyHash P (Str.ofString "signed"), key := Value.str (Str.ofString "signed") 226, val := Value.ref 41 }, { hash := PyData.keyHash P (Str.ofString "symbol_text"), key := Value.str (Str.ofString "symbol_text") 235, val := Value.ref 48 }, { hash := PyData.keyHash P (Str.ofString "PLAIN"), key := Value.str (Str.ofString "PLAIN") 239, val := Value.str (Str.ofString " !$%&'()*+,-./0123456789:;<=>?@ABCDEFGHIJKLMNOPQRSTUVWXYZ[]^_`abcdefghijklmnopqrstuvwxyz{|}~") 238 }, { hash := PyData.keyHash P (Str.ofString "octet_rows"), key := Value.str (Str.ofString "octet_rows") 245, val := Value.ref 53 }, { hash := PyData.keyHash P (Str.ofString "piece_rows"), key := Value.str (Str.ofString "piece_rows") 253, val := Value.ref 60 }] 15 } : Obj)
noncomputable def o_51 : Params → Obj := fun P => ({ cls := Value.none, data := Data.fields #[Value.int 2 0, Value.int 0 0, Value.ref 20, Value.int 8 0, Value.int 0 0, Value.ref 40, Value.int 11 0, Value.int 0 0, Value.ref 47, Value.int 18 0, Value.int 0 0, Value.ref 52, Value.int 27 0, Value.int 0 0, Value.ref 59] } : Obj)
noncomputable def o_c3 : Params → Obj := fun P => ({ cls := Value.type "dict", data := Data.dict #[{ hash := PyData.keyHash P (Str.ofString "__name__"), key := Value.str (Str.ofString "__name__") 165, val := Value.str (Str.ofString "corecc.errors") 187 }, { hash := PyData.keyHash P (Str.ofString "__doc__"), key := Value.str (Str.ofString "__doc__") 166, val := Value.none }, { hash := PyData.keyHash P (Str.ofString "__package__"), key := Value.str (Str.ofString "__package__") 167, val := Value.none }, { hash := PyData.keyHash P (Str.ofString "__loader__"), key := Value.str (Str.ofString "__loader__") 168, val := Value.builtin "__main__.__loader__#opaque" }, { hash := PyData.keyHash P (Str.ofString "__spec__"), key := Value.str (Str.ofString "__spec__") 169, val := Value.none }, { hash := PyData.keyHash P (Str.ofString "__annotations__"), key := Value.str (Str.ofString "__annotations__") 170, val := Value.ref 6 }, { hash := PyData.keyHash P (Str.ofString "__builtins__"), key := Value.str (Str.ofString "__builtins__") 171, val := Value.ref 4 }, { hash := PyData.keyHash P (Str.ofString "__file__"), key := Value.str (Str.ofString "__file__") 173, val := Value.str (Str.ofString "/claim/cut.py") 172 }, { hash := PyData.keyHash P (Str.ofString "__cached__"), key := Value.str (Str.ofString "__cached__") 174, val := Value.none }, { hash := PyData.keyHash P (Str.ofString "CodeFault"), key := Value.str (Str.ofString "CodeFault") 217, val := Value.ref 31 }] 10 } : Obj)
noncomputable def o_c12 : Params → Obj := fun P => ({ cls := Value.none, data := Data.fields #[Value.int 2 0, Value.int 0 0, Value.ref 20] } : Obj)
noncomputable def hA : Params → Heap := fun P => { objs := #[(boot_o_0 P), (boot_o_1 P), (boot_o_2 P), (boot_o_3 P), (boot_o_4 P), (boot_o_5 P), (boot_o_6 P), (boot_o_7 P), (boot_o_8 P), (boot_o_9 P), (boot_o_10 P), (o11 P), (o_44 P), (o13 P), (o14 P)] }
noncomputable def hC : Params → Heap := fun P => { objs := #[(boot_o_0 P), (boot_o_1 P), (o2 P), (o_c3 P), (boot_o_4 P), (boot_o_5 P), (boot_o_6 P), (boot_o_7 P), (boot_o_8 P), (boot_o_9 P), (boot_o_10 P), (o11 P), (o_c12 P), (o13 P), (o14 P), (o15 P), (o16 P), (o17 P), (o18 P), (o19 P), (o20 P), (o21 P), (o22 P), (o23 P), (o24 P), (o25 P), (o26 P), (o27 P), (o28 P), (o29 P), (o30 P), (o31 P), (o32 P), (o33 P), (o34 P)] }
noncomputable def hM : Params → Heap := fun P => { objs := #[(boot_o_0 P), (boot_o_1 P), (o2 P), (o_50 P), (boot_o_4 P), (boot_o_5 P), (boot_o_6 P), (boot_o_7 P), (boot_o_8 P), (boot_o_9 P), (boot_o_10 P), (o11 P), (o_51 P), (o13 P), (o14 P), (o15 P), (o16 P), (o17 P), (o18 P), (o19 P), (o20 P), (o21 P), (o22 P), (o23 P), (o24 P), (o25 P), (o26 P), (o27 P), (o28 P), (o29 P), (o30 P), (o31 P), (o32 P), (o33 P), (o34 P), (o35 P), (o36 P), (o37 P), (o38 P), (o39 P), (o40 P), (o41 P), (o42 P), (o43 P), (o44 P), (o45 P), (o46 P), (o47 P), (o48 P), (o49 P), (o50 P), (o51 P), (o52 P), (o53 P), (o54 P), (o55 P), (o56 P), (o57 P), (o58 P), (o59 P), (o60 P)] }
noncomputable def hE : Params → Heap := fun P => { objs := #[(boot_o_0 P), (boot_o_1 P), (o2 P), (o3 P), (boot_o_4 P), (boot_o_5 P), (boot_o_6 P), (boot_o_7 P), (boot_o_8 P), (boot_o_9 P), (boot_o_10 P), (o11 P), (o12 P), (o13 P), (o14 P), (o15 P), (o16 P), (o17 P), (o18 P), (o19 P), (o20 P), (o21 P), (o22 P), (o23 P), (o24 P), (o25 P), (o26 P), (o27 P), (o28 P), (o29 P), (o30 P), (o31 P), (o32 P), (o33 P), (o34 P), (o35 P), (o36 P), (o37 P), (o38 P), (o39 P), (o40 P), (o41 P), (o42 P), (o43 P), (o44 P), (o45 P), (o46 P), (o47 P), (o48 P), (o49 P), (o50 P), (o51 P), (o52 P), (o53 P), (o54 P), (o55 P), (o56 P), (o57 P), (o58 P), (o59 P), (o60 P), (o61 P), (o62 P), (o63 P), (o64 P), (o65 P), (o66 P), (o67 P), (o68 P), (o69 P), (o70 P), (o71 P), (o72 P), (o73 P), (o74 P), (o75 P), (o76 P), (o77 P), (o78 P), (o79 P), (o80 P), (o81 P), (o82 P), (o83 P), (o84 P), (o85 P), (o86 P), (o87 P), (o88 P), (o89 P), (o90 P), (o91 P), (o92 P), (o93 P), (o94 P), (o95 P), (o96 P), (o97 P), (o98 P), (o99 P), (o100 P), (o101 P), (o102 P), (o103 P), (o104 P), (o105 P), (o106 P), (o107 P), (o108 P), (o109 P), (o110 P), (o111 P), (o112 P), (o113 P), (o114 P), (o115 P), (o116 P), (o117 P), (o118 P), (o119 P), (o120 P), (o121 P), (o122 P), (o123 P), (o124 P), (o125 P), (o126 P), (o127 P)] }
noncomputable def env_41 : Env := { scope := (OpenRow.toRowW PySem.Challenge.rw_nm0003_01.row).prog.main.scope, locals := mainNs, globals := mainNs, cells := [], code := .ref 13, frame := some 14 }
noncomputable def sA (w : World) (os : OsState) : Shared := ⟨hA w.params, #[], {}, 187, os⟩
noncomputable def sC (w : World) (os : OsState) : Shared := ⟨hC w.params, #[], {}, 218, os⟩
noncomputable def sM (w : World) (os : OsState) : Shared := ⟨hM w.params, #[], {}, 256, os⟩
noncomputable def sE (w : World) (os : OsState) : Shared := ⟨hE w.params, #[], {}, 351, os⟩
noncomputable def bB : List Stmt := behindTheImports (OpenRow.toRowW PySem.Challenge.rw_nm0003_01.row).prog
noncomputable def cD : Code := .body (behindTheImports (OpenRow.toRowW PySem.Challenge.rw_nm0003_01.row).prog) env_41
section
set_option maxRecDepth 100000
set_option maxHeartbeats 8000000
theorem run_a (w : World) (os : OsState) : topGo treeTable (OpenRow.toRowW PySem.Challenge.rw_nm0003_01.row).prog w 11 (some (.ref 6)) 12 ⟨boot_heap w.params, #[], boot_drawn, boot_toks, os⟩ (topStub (OpenRow.toRowW PySem.Challenge.rw_nm0003_01.row).prog) = some (sA w os, ⟨denote treeTable cD, cD, ⟨0, 0, 0, 0⟩, [topFrame ⟨0, 0, 0, 0⟩]⟩) := by kernel_rfl
theorem run_b (w : World) (os : OsState) : segRun treeTable (OpenRow.toRowW PySem.Challenge.rw_nm0003_01.row).prog w 11 (some (.ref 6)) 1 1 (sA w os) (blockOf bB env_41 cD ⟨0, 0, 0, 0⟩ [topFrame ⟨0, 0, 0, 0⟩]) = some (.next, sA w os, cD, ⟨0, 0, 0, 0⟩) := by kernel_rfl
theorem run_c (w : World) (os : OsState) : segRun treeTable (OpenRow.toRowW PySem.Challenge.rw_nm0003_01.row).prog w 11 (some (.ref 6)) 1 390 (sA w os) (piecesOf (bB.take 2) env_41 cD ⟨0, 0, 0, 0⟩ [topFrame ⟨0, 0, 0, 0⟩]) = some (.next, sC w os, cD, ⟨2, 0, 6, 24⟩) := by kernel_rfl
theorem run_m (w : World) (os : OsState) : segRun treeTable (OpenRow.toRowW PySem.Challenge.rw_nm0003_01.row).prog w 11 (some (.ref 6)) 1 390 (sC w os) (piecesOf ((bB.drop 2).take 8) env_41 cD ⟨2, 0, 6, 24⟩ [topFrame ⟨0, 0, 0, 0⟩]) = some (.next, sM w os, cD, ⟨38, 0, 38, 8⟩) := by kernel_rfl
theorem run_d (w : World) (os : OsState) : segRun treeTable (OpenRow.toRowW PySem.Challenge.rw_nm0003_01.row).prog w 11 (some (.ref 6)) 1 328 (sM w os) (piecesOf ((bB.drop 2).drop 8) env_41 cD ⟨38, 0, 38, 8⟩ [topFrame ⟨0, 0, 0, 0⟩]) = some (.next, sE w os, cD, ⟨149, 0, 158, 81⟩) := by kernel_rfl
theorem run_e (w : World) (os : OsState) : topRun treeTable (OpenRow.toRowW PySem.Challenge.rw_nm0003_01.row).prog w 11 (some (.ref 6)) 2 (sE w os) ⟨doneF .next, cD, ⟨149, 0, 158, 81⟩, [topFrame ⟨0, 0, 0, 0⟩]⟩ = some (sE w os) := by kernel_rfl
theorem run_all (w : World) (os : OsState) : topRun treeTable (OpenRow.toRowW PySem.Challenge.rw_nm0003_01.row).prog w 11 (some (.ref 6)) (12 + (1 + (390 + (390 + (328 + 2))))) ⟨boot_heap w.params, #[], boot_drawn, boot_toks, os⟩ (topStub (OpenRow.toRowW PySem.Challenge.rw_nm0003_01.row).prog) = some (sE w os) := by
  have d := piece_app (rest := []) (run_d w os) (piece_nil (run_e w os))
  rw [List.append_nil] at d
  have m := piece_app (run_m w os) d
  rw [List.take_append_drop] at m
  have c := piece_app (run_c w os) m
  rw [List.take_append_drop] at c
  exact go_top (run_a w os) (piece_block (run_b w os) c)
theorem look_a (w : World) (os : OsState) : (staticsOk (importedModules (OpenRow.toRowW PySem.Challenge.rw_nm0003_01.row).prog.main.body) (boot_heap w.params) (hE w.params) && namesBound (OpenRow.toRowW PySem.Challenge.rw_nm0003_01.row).prog (hE w.params) && gensDone (sE w os) && laidKept (boot_heap w.params) (hE w.params)) = true := by kernel_rfl
theorem look_b (w : World) (os : OsState) : seen ((recsOf hd.view_39).map (·.name)) (ownsOf hd.view_39) [] { sE w os with gens := #[] } = expectedOf hd.view_39 := by kernel_rfl
theorem look_c (w : World) (os : OsState) : (sE w os).heap.bltView = bltViewBooted := by kernel_rfl
theorem look_d1 (w : World) (os : OsState) : (sE w os).heap.keysOk (looseW hd.view_39 []) ((recsOf hd.view_39).map (·.name)) ((litsOf hd.view_39).map (·.1)) ((clssOf hd.view_39 (looseW hd.view_39 [])).map (·.name)) = true := by kernel_rfl
theorem look_d2 (w : World) (os : OsState) : (sE w os).heap.accountedOkI (importedModules (OpenRow.toRowW PySem.Challenge.rw_nm0003_01.row).prog.main.body) = true := by kernel_rfl
theorem look_d3 (w : World) (os : OsState) : (sE w os).heap.isNs mainGlobals = true := by kernel_rfl
theorem look_d4 (w : World) (os : OsState) : (sE w os).heap.isNs builtinsNs = true := by kernel_rfl
theorem look_d5 (w : World) (os : OsState) : tablesOk hd.view_39 (sE w os).heap = true := by kernel_rfl
theorem look_d6 (w : World) (os : OsState) : (xlAt hd.view_39 [] (sE w os) && recOk (RowW.records (OpenRow.toRowW PySem.Challenge.rw_nm0003_01.row)) (sE w os)) = true := by kernel_rfl
theorem look_d7 (w : World) (os : OsState) : (if true then (sE w os).gens.size == 0 else !leftWithCleanup (sE w os).gens) = true := by kernel_rfl
theorem look_e (w : World) (os : OsState) : tabsOk hd.view_39 (sE w os) = true := by kernel_rfl
theorem look_f (w : World) (os : OsState) : pinSeenD hd.view_39 (drecsOf hd.view_39) (sE w os) = pinGoodD (drecsOf hd.view_39) := by kernel_rfl
theorem look_g (w : World) (os : OsState) : plainSeenE hd.view_39 (looseW hd.view_39 []) (sE w os) = plainGoodE hd.view_39 (looseW hd.view_39 []) := by kernel_rfl
theorem look_h (w : World) (os : OsState) : plainSeenD hd.view_39 [] (sE w os) = plainGoodD hd.view_39 [] := by kernel_rfl
theorem look_i (w : World) (os : OsState) : wideSeen hd.view_39 (sE w os) = wideGood hd.view_39 := by kernel_rfl
theorem look_j (w : World) (os : OsState) : clsSeenW hd.view_39 [] (sE w os) = clsGoodW hd.view_39 [] := by kernel_rfl
theorem look_k (w : World) (os : OsState) : Hook.obs (kHook hd.heap_39 addrs addrs_eq) (sE w os) = Hook.val (kHook hd.heap_39 addrs addrs_eq) w := by kernel_rfl
theorem look_d (w : World) (os : OsState) : ((sE w os).heap.keysOk (looseW hd.view_39 []) ((recsOf hd.view_39).map (·.name)) ((litsOf hd.view_39).map (·.1)) ((clssOf hd.view_39 (looseW hd.view_39 [])).map (·.name)) && (sE w os).heap.accountedOkI (importedModules (OpenRow.toRowW PySem.Challenge.rw_nm0003_01.row).prog.main.body) && (sE w os).heap.isNs mainGlobals && (sE w os).heap.isNs builtinsNs && tablesOk hd.view_39 (sE w os).heap && (xlAt hd.view_39 [] (sE w os) && recOk (RowW.records (OpenRow.toRowW PySem.Challenge.rw_nm0003_01.row)) (sE w os)) && (if true then (sE w os).gens.size == 0 else !leftWithCleanup (sE w os).gens)) = true :=
  look_both (look_both (look_both (look_both (look_both (look_both (look_d1 w os) (look_d2 w os)) (look_d3 w os)) (look_d4 w os)) (look_d5 w os)) (look_d6 w os)) (look_d7 w os)
theorem hd_left : LeftO (OpenRow.toRowW PySem.Challenge.rw_nm0003_01.row).prog hd.view_39 [] (fun s => xlAt hd.view_39 [] s && recOk (RowW.records (OpenRow.toRowW PySem.Challenge.rw_nm0003_01.row)) s)
    (Hook.obs (kHook hd.heap_39 addrs addrs_eq)) (Hook.val (kHook hd.heap_39 addrs addrs_eq)) 1558 :=
  LeftO.of_pieces (H₀ := boot_heap) (H₁ := hE) (gs₀ := #[]) (gs₁ := #[]) (d₀ := boot_drawn) (d₁ := {}) (k₀ := boot_toks) (k₁ := 351) (m₀ := 11) (ann := some (.ref 6))
    (boot_open (by kernel_rfl) (by decide) (fun s => by kernel_rfl)) (fun w => by kernel_rfl) run_all (by decide)
    (fun w => funext fun os => Prod.ext (look_a w os) (Prod.ext (Prod.ext (look_b w os) (Prod.ext (look_c w os) (Prod.ext (look_d w os) (Prod.ext (look_e w os) (Prod.ext (look_f w os) (Prod.ext (look_g w os) (Prod.ext (look_h w os) (Prod.ext (look_i w os) (look_j w os))))))))) (look_k w os)))
theorem law_said : PySem.Challenge.rw_nm0003_01.wellSaid = true := by
  unfold OpenLaw.wellSaid OpenRow.wellSaid OpenRow.partSaid looksOpen
  repeat' (with_reducible refine look_both ?_ ?_)
  all_goals decide +kernel
end
theorem st_any {M : Model} {A : Around} {α : Type} {t : Sem α} {Q : α → Shared → Prop} {E : Value → Shared → Prop} (s : Shared) {h : Heap} {tk : Nat} (k : ∀ tk, wpAny M A t Q E { s with heap := h, toks := tk }) : wpAny M A t Q E { s with heap := h, toks := tk } := k tk
theorem room_d {d k b c : Nat} (h : d + b < c) (e : 1 + k ≤ b) : d + 1 + k < c := by omega
theorem room_0 {d b c : Nat} (h : d + b < c) : d < c := by omega
theorem units_d {u k b c : Nat} (h : u + b < c) (e : 3 + k ≤ b) : u + 3 + k < c := by omega
theorem units_e {u k b : Nat} (h : u + b < 9900) (e : 3 + k ≤ b) : u + 3 + k < cLine := units_d h e
theorem ne_l {a b : Nat} {p : Prop} (h : a < b ∧ p) : a ≠ b := Nat.ne_of_lt h.1
theorem ne_g {a b : Nat} {p : Prop} (h : b < a ∧ p) : a ≠ b := Nat.ne_of_gt h.1
theorem ne_n {a b : Nat} {p : Prop} (h : a ≠ b ∧ p) : a ≠ b := h.1
theorem ne_m {a b : Nat} {p : Prop} (h : b ≠ a ∧ p) : a ≠ b := h.1.symm
theorem an_1 {a b c : Prop} (h : a ∧ b ∧ c) : b ∧ c := h.2
theorem an_2 {a a2 b c : Prop} (h : a ∧ a2 ∧ b ∧ c) : b ∧ c := h.2.2
theorem an_3 {a a2 a3 b c : Prop} (h : a ∧ a2 ∧ a3 ∧ b ∧ c) : b ∧ c := h.2.2.2
theorem an_4 {a a2 a3 a4 b c : Prop} (h : a ∧ a2 ∧ a3 ∧ a4 ∧ b ∧ c) : b ∧ c := h.2.2.2.2
theorem an_5 {a a2 a3 a4 a5 b c : Prop} (h : a ∧ a2 ∧ a3 ∧ a4 ∧ a5 ∧ b ∧ c) : b ∧ c := h.2.2.2.2.2
theorem al_1 {a b : Prop} (h : a ∧ b) : b := h.2
theorem al_2 {a a2 b : Prop} (h : a ∧ a2 ∧ b) : b := h.2.2
theorem al_3 {a a2 a3 b : Prop} (h : a ∧ a2 ∧ a3 ∧ b) : b := h.2.2.2
theorem al_4 {a a2 a3 a4 b : Prop} (h : a ∧ a2 ∧ a3 ∧ a4 ∧ b) : b := h.2.2.2.2
theorem al_5 {a a2 a3 a4 a5 b : Prop} (h : a ∧ a2 ∧ a3 ∧ a4 ∧ a5 ∧ b) : b := h.2.2.2.2.2
theorem al_6 {a a2 a3 a4 a5 a6 b : Prop} (h : a ∧ a2 ∧ a3 ∧ a4 ∧ a5 ∧ a6 ∧ b) : b := h.2.2.2.2.2.2
local macro_rules | `(tactic| walk_at "nm last") => `(tactic| first | with_reducible assumption | exact al_1 (by with_reducible assumption) | exact al_2 (by with_reducible assumption) | exact al_3 (by with_reducible assumption) | exact al_4 (by with_reducible assumption) | exact al_5 (by with_reducible assumption) | exact al_6 (by with_reducible assumption))
local macro_rules | `(tactic| walk_at "nm some") => `(tactic| first | with_reducible assumption | exact an_1 (by with_reducible assumption) | exact an_2 (by with_reducible assumption) | exact an_3 (by with_reducible assumption) | exact an_4 (by with_reducible assumption) | exact an_5 (by with_reducible assumption))
local macro_rules | `(tactic| k_ne) => `(tactic| (refine neN ?_; (try dsimp only); first | exact ne_l (by walk_at "nm some") | exact ne_g (by walk_at "nm some") | exact ne_n (by walk_at "nm some") | exact ne_m (by walk_at "nm some") | exact Nat.ne_of_lt (by walk_at "nm last") | exact Nat.ne_of_gt (by walk_at "nm last") | (walk_at "nm last") | exact Ne.symm (by walk_at "nm last") | omega))
local macro_rules | `(tactic| walk_at "nm room") => `(tactic| first | exact room_d (by assumption) (by decide) | exact room_0 (by assumption) | ktr_room)
local macro_rules | `(tactic| walk_at "nm units") => `(tactic| first | exact units_d (by assumption) (by decide) | exact units_e (by assumption) (by decide) | ktr_units)
local macro_rules | `(tactic| walk_at "nm fold") => `(tactic| ((with_reducible show wpAny _ _ (exec _ _) _ _ _); k_fold; (try (rename Shared => s9; refine st_any s9 ?_; intro tk9))))
local macro_rules | `(tactic| walk_at "nm steps") => `(tactic| repeat' (first | (k_unfold; (try dsimp only)) | (k_end; wrow_close) | walk_at "nm fold" | walk1 | (dsimp only; walk1) | (leave1; walk_say "STEP leave1"; try dsimp only) | fail "no step"))
section
abbrev Names := Str → Option Value
abbrev Led := List (Addr × Obj)
def Calls (w : World) (mean : ExcName → Option Value) (mg mb : Names) (f : Addr) (dq : Nat) (news : Led) (vs : List Value) (Post : Value → Led → Prop) : Prop :=
  ∀ (dp un : Nat) (gd : Option (List Code)) (cn : Str) (cs : Scope) (a : Addr) (ccd : Value) (cl : List (Str × Addr)) (outer : List Env) (A₀ : Around) (base h₀ : Heap) (L : Addr) (m : Names) (s : Shared) (Q E : Value → Shared → Prop),
    Below A₀ base outer h₀ → Fr h₀ L s.heap m → (Nm.hd.heap_39 w.params).In h₀ → News h₀ L s.heap news →
    Top Nm.hd.view_39 (looseW Nm.hd.view_39 []) mean mg mb h₀ → cs.kind = .function → dp + dq < recursionLimit → un + 1000 * dq < cLine →
    (∀ r news' h' tk', Fr h₀ L h' m → News h₀ L h' news' → Post r news' → Q r { s with heap := h', toks := tk' }) →
    wpAny (model PySem.Challenge.rw_nm0003_01.row.prog w) (ktrTop dp un gd cn cs L a ccd cl outer) (call (.ref f) vs) Q E s
theorem Calls.use {w : World} {mean : ExcName → Option Value} {mg mb : Names} {f : Addr} {dq : Nat} {news : Led} {vs : List Value} {Post : Value → Led → Prop}
    {dp un : Nat} {gd : Option (List Code)} {cn : Str} {cs : Scope} {a : Addr} {ccd : Value} {cl : List (Str × Addr)} {outer : List Env} {A₀ : Around} {base h₀ : Heap} {L : Addr} {m : Names} {s : Shared} {Q E : Value → Shared → Prop}
    (C : Calls w mean mg mb f dq news vs Post)
    (B : Below A₀ base outer h₀) (F : Fr h₀ L s.heap m) (X : (Nm.hd.heap_39 w.params).In h₀) (N : News h₀ L s.heap news)
    (T : Top Nm.hd.view_39 (looseW Nm.hd.view_39 []) mean mg mb h₀) (hk : cs.kind = .function) (hd : dp + dq < recursionLimit) (hu : un + 1000 * dq < cLine)
    (k : ∀ r news' h' tk', Fr h₀ L h' m → News h₀ L h' news' → Post r news' → Q r { s with heap := h', toks := tk' }) :
    wpAny (model PySem.Challenge.rw_nm0003_01.row.prog w) (ktrTop dp un gd cn cs L a ccd cl outer) (call (.ref f) vs) Q E s :=
  C _ _ _ _ _ _ _ _ _ _ _ _ _ _ _ _ _ B F X N T hk hd hu k
abbrev wellO (C : Addr) (place : Int) (tp : Tok) (st : Int) (ts : Tok) (n : Nat) : Obj := listOf #[.ref C, .int place tp, .int st ts] n
theorem allLt_ne {d : Addr} {l : Led} (h : AllLt d l) : ∀ p ∈ l, p.1 ≠ d := fun p hp => Nat.ne_of_lt (ktn_ltOf h p hp)
theorem AllLt.mono {d d' : Addr} (hd : d ≤ d') : ∀ {l : Led}, AllLt d l → AllLt d' l
  | [], _ => trivial
  | _ :: _, h => ⟨Nat.lt_of_lt_of_le h.1 hd, AllLt.mono hd h.2⟩
theorem off1_ne {d : Addr} : ∀ {l : Led}, LCg.Off1 d l → ∀ p ∈ l, p.1 ≠ d
  | [], _, _, hp => (nomatch hp)
  | q :: r, h, p, hp => by
    rcases List.mem_cons.mp hp with rfl | hp
    · exact h.1
    · exact off1_ne h.2 p hp
theorem fm_app {a b : Led} {d : Addr} (h : ∀ p ∈ a, p.1 ≠ d) (k : ∀ p ∈ b, p.1 ≠ d) : ∀ p ∈ a ++ b, p.1 ≠ d := fun p hp => (List.mem_append.mp hp).elim (h p) (k p)
end
local macro_rules | `(tactic| k_all) => `(tactic| first | exact List.forall_mem_nil _ | (refine' List.forall_mem_cons.mpr ⟨?a, ?b⟩; (case a => k_ne); (case b => k_all)) | with_reducible assumption | exact OwnOff.ne (by with_reducible assumption) (by k_memK) | (refine allLt_ne ?_; first | with_reducible assumption | exact (And.right (by with_reducible assumption)) | exact (And.right (And.right (by with_reducible assumption))) | exact (And.right (And.right (And.right (by with_reducible assumption)))) | exact (And.right (And.right (And.right (And.right (by with_reducible assumption))))) | exact (And.right (And.right (And.right (And.right (And.right (by with_reducible assumption)))))) | exact (And.right (And.right (And.right (And.right (And.right (And.right (by with_reducible assumption))))))) | exact (And.right (And.right (And.right (And.right (And.right (And.right (And.right (by with_reducible assumption)))))))) | exact (And.right (And.right (And.right (And.right (And.right (And.right (And.right (And.right (by with_reducible assumption))))))))) | exact (And.right (And.right (And.right (And.right (And.right (And.right (And.right (And.right (And.right (by with_reducible assumption)))))))))) | exact (And.right (And.right (And.right (And.right (And.right (And.right (And.right (And.right (And.right (And.right (by with_reducible assumption))))))))))) | exact (And.right (And.right (And.right (And.right (And.right (And.right (And.right (And.right (And.right (And.right (And.right (by with_reducible assumption)))))))))))) | exact (And.right (And.right (And.right (And.right (And.right (And.right (And.right (And.right (And.right (And.right (And.right (And.right (by with_reducible assumption))))))))))))) | exact (And.right (And.right (And.right (And.right (And.right (And.right (And.right (And.right (And.right (And.right (And.right (And.right (And.right (by with_reducible assumption))))))))))))))) | (refine off1_ne ?_; first | with_reducible assumption | exact (And.right (by with_reducible assumption)) | exact (And.right (And.right (by with_reducible assumption))) | exact (And.right (And.right (And.right (by with_reducible assumption)))) | exact (And.right (And.right (And.right (And.right (by with_reducible assumption))))) | exact (And.right (And.right (And.right (And.right (And.right (by with_reducible assumption)))))) | exact (And.right (And.right (And.right (And.right (And.right (And.right (by with_reducible assumption))))))) | exact (And.right (And.right (And.right (And.right (And.right (And.right (And.right (by with_reducible assumption)))))))) | exact (And.right (And.right (And.right (And.right (And.right (And.right (And.right (And.right (by with_reducible assumption))))))))) | exact (And.right (And.right (And.right (And.right (And.right (And.right (And.right (And.right (And.right (by with_reducible assumption)))))))))) | exact (And.right (And.right (And.right (And.right (And.right (And.right (And.right (And.right (And.right (And.right (by with_reducible assumption))))))))))) | exact (And.right (And.right (And.right (And.right (And.right (And.right (And.right (And.right (And.right (And.right (And.right (by with_reducible assumption)))))))))))) | exact (And.right (And.right (And.right (And.right (And.right (And.right (And.right (And.right (And.right (And.right (And.right (And.right (by with_reducible assumption))))))))))))) | exact (And.right (And.right (And.right (And.right (And.right (And.right (And.right (And.right (And.right (And.right (And.right (And.right (And.right (by with_reducible assumption))))))))))))))))
local macro_rules | `(tactic| units_room) => `(tactic| walk_at "nm units")
local macro_rules | `(tactic| walk_at "ite") => `(tactic| first | with_reducible refine ite_tt ?_ | with_reducible refine ite_ff ?_)
local macro_rules | `(tactic| walk_at "exec If") => `(tactic| (k_here; refine wpAny_If ?_))
section
set_option maxRecDepth 100000 in
set_option maxHeartbeats 8000000 in
theorem draw_raw (w : World) (mean : ExcName → Option Value) (mg mb : Names) (W C : Addr) (place : Int) (tp : Tok) (st : Int) (ts : Tok) (n nC : Nat) (vs : List Value) (ns : List Int) (rest : Led) (size : Int) (tk : Tok)
    (hWC : C ≠ W) (hrest : ∀ p ∈ rest, p.1 ≠ W) (hi : IntsAre vs ns) (hb : ∀ c ∈ ns, 0 ≤ c ∧ c < 2147483647) (hlen : ns.length ≤ 24) (h0 : 0 ≤ place) (h1 : place < 1000000) (s0 : 0 ≤ st) (s1 : st < 2147483647) (z0 : 0 < size) (z1 : size < 10000000000) :
    Calls w mean mg mb 72 1 ((W, wellO C place tp st ts n) :: (C, listOf vs.toArray nC) :: rest) [.ref W, .int size tk]
      (fun r news' => ∃ x t tp' st' ts', r = .int x t ∧ 0 ≤ x ∧ x < size ∧ 0 ≤ st' ∧ st' < 2147483647 ∧ news' = (W, wellO C (place + 1) tp' st' ts' n) :: (C, listOf vs.toArray nC) :: rest) := by
  w_top off
  have hrw : PySem.Challenge.rw_nm0003_01 = PySem.Challenge.rw_nm0003_01 := rfl
  revert hrw
  unfold Calls
  k_fill
  intro _
  intro dp un gd cn cs a ccd cl outer A₀ base h₀ L m s Q E B F X N T hk hd hu hret
  refine wpAny_call ?_
  k_dflt cell_enter
  (walk_at "nm steps")
  all_goals (refine hret _ _ _ _ (by k_asm) (by k_asm) ⟨_, _, _, _, _, rfl, ?_, ?_, ?_, ?_, rfl⟩)
  all_goals (try dsimp only)
  all_goals first
    | exact Int.fmod_nonneg_of_pos _ (by assumption)
    | exact Int.fmod_lt_of_pos _ (by assumption)
    | exact Int.fmod_nonneg_of_pos _ (by decide)
    | exact Int.fmod_lt_of_pos _ (by decide)
    | (set_option pp.deepTerms false in set_option pp.deepTerms.threshold 4 in trace_state)
structure WF (vs : List Value) (ns : List Int) : Prop where
  vals : IntsAre vs ns
  bound : ∀ c ∈ ns, 0 ≤ c ∧ c < 2147483647
  len : ns.length ≤ 24
theorem upd_any {d : Addr} {o : Obj} {news : Led} {g : Obj → Led} (U : UpdF d o news g) :
    ∃ rest, (∀ p ∈ rest, p.1 ≠ d) ∧ (∀ p ∈ (d, o) :: rest, p ∈ news) ∧ ∀ o', ∀ p ∈ g o', p = (d, o') ∨ p ∈ rest := by
  obtain ⟨pre, post, e, hg, h1, h2⟩ := U.split
  refine ⟨pre ++ post, ?_, ?_, ?_⟩
  · intro p hp; rcases List.mem_append.mp hp with h | h; exact h1 p h; exact h2 p h
  · intro p hp; rw [e]
    rcases List.mem_cons.mp hp with h | h
    · exact List.mem_append.mpr (.inr (List.mem_cons.mpr (.inl h)))
    · rcases List.mem_append.mp h with h | h
      · exact List.mem_append.mpr (.inl h)
      · exact List.mem_append.mpr (.inr (.tail _ h))
  · intro o' p hp
    rw [hg] at hp
    rcases List.mem_append.mp hp with h | h
    · exact .inr (List.mem_append.mpr (.inl h))
    · rcases List.mem_cons.mp h with h | h
      · exact .inl h
      · exact .inr (List.mem_append.mpr (.inr h))
section
variable {w : World} {mean : ExcName → Option Value} {mg mb : Names} {dp un : Nat} {gd : Option (List Code)} {cn : Str} {cs : Scope} {a : Addr} {ccd : Value} {cl : List (Str × Addr)} {outer : List Env} {A₀ : Around} {base h₀ : Heap} {L : Addr} {m : Names} {s : Shared} {Q E : Value → Shared → Prop} {news : Led}
theorem draw_use {W C : Addr} {place : Int} {tp : Tok} {st : Int} {ts : Tok} {n nC : Nat} {vs : List Value} {ns : List Int} {size : Int} {tk : Tok} {news' : Obj → Led}
    (B : Below A₀ base outer h₀) (F : Fr h₀ L s.heap m) (X : (Nm.hd.heap_39 w.params).In h₀) (N : News h₀ L s.heap news)
    (T : Top Nm.hd.view_39 (looseW Nm.hd.view_39 []) mean mg mb h₀) (hk : cs.kind = .function) (hd : dp + 1 < recursionLimit) (hu : un + 1000 * 1 < cLine)
    (U : UpdF W (wellO C place tp st ts n) news news') (hC : (C, listOf vs.toArray nC) ∈ news) (hWC : C ≠ W) (wf : WF vs ns)
    (h0 : 0 ≤ place) (h1 : place < 1000000) (s0 : 0 ≤ st) (s1 : st < 2147483647) (z0 : 0 < size) (z1 : size < 10000000000)
    (h : ∀ x t tp' st' ts' h' tk', 0 ≤ x → x < size → 0 ≤ st' → st' < 2147483647 → Fr h₀ L h' m → News h₀ L h' (news' (wellO C (place + 1) tp' st' ts' n)) → Q (.int x t) { s with heap := h', toks := tk' }) :
    wpAny (model PySem.Challenge.rw_nm0003_01.row.prog w) (ktrTop dp un gd cn cs L a ccd cl outer) (call (.ref 72) [.ref W, .int size tk]) Q E s := by
  obtain ⟨rest, r1, r3, r4⟩ := upd_any U
  refine draw_raw w mean mg mb W C place tp st ts n nC vs ns rest size tk hWC r1 wf.vals wf.bound wf.len h0 h1 s0 s1 z0 z1 dp un gd cn cs a ccd cl outer A₀ base h₀ L m s Q E B F X ?_ T hk hd hu ?_
  · intro p hp
    rcases List.mem_cons.mp hp with rfl | hp
    · exact N _ (r3 _ (.head _))
    · rcases List.mem_cons.mp hp with rfl | hp
      · exact N _ hC
      · exact N _ (r3 _ (.tail _ hp))
  · rintro r news₂ h' tk' F' N' ⟨x, t, tp', st', ts', rfl, x0, x1, y0, y1, rfl⟩
    refine h x t tp' st' ts' h' tk' x0 x1 y0 y1 F' ?_
    intro p hp
    rcases r4 _ p hp with rfl | hp
    · exact N' _ (.head _)
    · exact N' _ (.tail _ (.tail _ hp))
end
section
open PyProof.V PySem.Spec
variable {prog : Program} {w : World} {A : Around} {E : Value → Shared → Prop} {s : Shared} {env : Env} {h₀ : Heap} {x : Str} {body : List Stmt} {Q : Flow → Shared → Prop}
def TurnEnd {σ : Type} (h₀ : Heap) (L : Addr) (x : Str) (m₀ : Names) (Ld : σ → Led) (P : σ → Prop) (own : Led) (s₁ s₂ : Shared) : Prop :=
  ∃ c h' tk m', s₂ = { s₁ with heap := h', toks := tk } ∧ Fr h₀ L h' m' ∧ News h₀ L h' (Ld c ++ own) ∧ P c ∧ ∀ z, z ≠ x → m' z = m₀ z
def TurnPost {σ : Type} (h₀ : Heap) (L : Addr) (x : Str) (m₀ : Names) (Ld : σ → Led) (P : σ → Prop) (own : Led) (s₁ : Shared) (Q : Flow → Shared → Prop) (f : Flow) (s₂ : Shared) : Prop :=
  match f with
  | .ret v => Q (.ret v) s₂
  | .brk => Q .next s₂
  | _ => TurnEnd h₀ L x m₀ Ld P own s₁ s₂
theorem range_loop {σ : Type} {r : Addr} {b₀ : Int} {t₀ u₀ v₀ : Tok} {m₀ : Names} {fr : Led} {ad : List Addr} (Ld : σ → Led) (P : Nat → σ → Prop) (c₀ : σ)
    (hh : A.handled = none) (hr : IsRange s.heap r 0 b₀ 1 t₀ u₀ v₀) (hb0 : 0 ≤ b₀) (hb1 : b₀ < 1000000) (F : Fr h₀ env.locals s.heap m₀) (N : News h₀ env.locals s.heap (Ld c₀ ++ fr))
    (had : ∀ c, (Ld c).map (·.1) = ad) (hoff : OwnOff fr ad) (hp : P 0 c₀)
    (turn : ∀ (c : σ) (i : Nat) t h tk own, (i : Int) < b₀ → OwnOff own ad → P i c → Fr h₀ env.locals h (fun y => if y = x then some (.int (i : Int) t) else m₀ y) → News h₀ env.locals h (Ld c ++ own) →
      wpAny (model prog w) A (execs body env) (TurnPost h₀ env.locals x m₀ Ld (P (i + 1)) own { s with heap := h, toks := tk } Q) E { s with heap := h, toks := tk })
    (done : ∀ (c : σ) (u : Names) h tk, P b₀.toNat c → Fr h₀ env.locals h (fun y => if y = x then u y else m₀ y) → News h₀ env.locals h (Ld c ++ fr) → Q .next { s with heap := h, toks := tk }) :
    wpAny (model prog w) A (pyIter (.ref r)) (fun it s₂ => LoopAtV prog w A h₀ env x body Q E it s₂) E s := by
  have key : ∀ (m₁ : Names) (v : Option Value), (∀ z, z ≠ x → m₁ z = m₀ z) → (fun y => if y = x then v else m₁ y) = fun y => if y = x then v else m₀ y := by
    intro m₁ v hm; funext y; by_cases hy : y = x
    · simp [hy]
    · simp [hy, hm y hy]
  have keyd : ∀ (m₁ : Names), (∀ z, z ≠ x → m₁ z = m₀ z) → (fun y => if y = x then m₁ y else m₀ y) = m₁ := by
    intro m₁ hm; funext y; by_cases hy : y = x
    · simp [hy]
    · simp [hy, hm y hy]
  refine wpAny_pyIter_range hr (small_one (by omega) (by omega) (by omega) (by omega)) ?_
  have hn : Builtin.Range.rangeSize 0 b₀ 1 = (b₀.toNat : Int) := by
    have h1 : b₀ = (b₀.toNat : Int) := by omega
    rw [h1]; first | exact rangeSize_nat _ _ | (have := rangeSize_nat 0 b₀.toNat; simpa using this)
  have W : Walks prog w A s.heap.objs.size [s.heap.objs.size] [s.heap.objs.size] b₀.toNat (fun i v => i < b₀.toNat ∧ ∃ t, v = .int (0 + i * 1) t)
      (fun i h => IsRangeIter h s.heap.objs.size (0 + (i : Nat) * 1) ((b₀.toNat : Int) - (i : Nat)) 1) := (Walks.range hh _ 0 1 b₀.toNat).bound
  refine loop_invN (fun i m nx => ∃ c, nx = Ld c ++ fr ∧ P i c ∧ ∀ z, z ≠ x → m z = m₀ z) W ?_ ?_ ?_ ?_ (by show IsRangeIter _ _ _ _ _; rw [hn]; simpa using Heap.get?_push_size _ rfl) (F.push _) (fun p hp => ⟨Heap.get?_push_of_some _ (N p hp).1, (N p hp).2⟩) ⟨c₀, rfl, hp, fun _ _ => rfl⟩ ?_ ?_
  · intro hm
    exact absurd F.ns.lt ((List.mem_singleton.mp hm) ▸ Nat.lt_irrefl _)
  · intro b hb
    rw [List.mem_singleton.mp hb]
    exact next_is_new F
  · intro p hp hI
    exact absurd (Heap.lt_size (N p hp).1) ((List.mem_singleton.mp hI) ▸ Nat.lt_irrefl _)
  · intro p hp hI
    exact absurd (Heap.lt_size (N p hp).1) ((List.mem_singleton.mp hI) ▸ Nat.lt_irrefl _)
  · rintro i v m₁ nx h tk own hi ⟨_, t, rfl⟩ _ hoff' ⟨c, rfl, hp', hm⟩ F₁ N₁
    have e1 : (0 : Int) + (i : Int) * 1 = (i : Int) := by omega
    rw [e1, key _ _ hm] at F₁
    have hoff2 : OwnOff (fr ++ own) ad := by
      intro p hp
      rcases List.mem_append.mp hp with h | h
      · exact hoff p h
      · intro b hb
        refine hoff' p h b ?_
        rw [List.map_append, had c₀]
        exact List.mem_append.mpr (.inl hb)
    refine wpAny_mono (turn c i t h tk (fr ++ own) (by omega) hoff2 hp' F₁ (by rw [← List.append_assoc]; exact N₁)) (fun f s₂ p => ?_) fun _ _ e => e
    have fin : TurnEnd h₀ env.locals x m₀ Ld (P (i + 1)) (fr ++ own) { s with heap := h, toks := tk } s₂ →
        InvEndN h₀ env.locals (fun m nx => ∃ c, nx = Ld c ++ fr ∧ P (i + 1) c ∧ ∀ z, z ≠ x → m z = m₀ z) own ((Ld c₀ ++ fr).map (·.1)) { s with heap := h, toks := tk } s₂ := by
      rintro ⟨c', h', tk', m', e, F', N', hP, hm'⟩
      refine ⟨h', tk', m', _, Ld c' ++ fr, e, F', N', ?_, ?_, ?_, c', rfl, hP, hm'⟩
      · intro p hp
        rcases List.mem_append.mp hp with h | h
        · exact List.mem_append.mpr (.inl h)
        · exact List.mem_append.mpr (.inr (List.mem_append.mpr (.inl h)))
      · intro p hp
        exact List.mem_append.mpr (.inr (List.mem_append.mpr (.inr hp)))
      · rw [List.map_append, List.map_append, had, had]
    cases f with
    | ret v => exact p
    | brk => exact p
    | next => exact fin p
    | cont => exact fin p
  · rintro m₁ nx h tk ⟨c, rfl, hp', hm⟩ F₁ N₁
    refine done c m₁ h tk hp' ?_ N₁
    rw [keyd _ hm]; exact F₁
end
def Hold (P : Prop) : Prop := P
theorem Hold.out {P : Prop} (h : Hold P) : P := h
theorem Hold.mk {P : Prop} (h : P) : Hold P := h
section
variable {w : World} {mean : ExcName → Option Value} {mg mb : Names} {dp un : Nat} {gd : Option (List Code)} {cn : Str} {cs : Scope} {a : Addr} {ccd : Value} {cl : List (Str × Addr)} {outer : List Env} {A₀ : Around} {base h₀ : Heap} {L : Addr} {m : Names} {s : Shared} {Q E : Value → Shared → Prop} {news : Led}
theorem draw_hold {W C : Addr} {place : Int} {tp : Tok} {st : Int} {ts : Tok} {n nC : Nat} {vs : List Value} {ns : List Int} {size : Int} {tk : Tok} {news' : Obj → Led}
    (B : Below A₀ base outer h₀) (F : Fr h₀ L s.heap m) (X : (Nm.hd.heap_39 w.params).In h₀) (N : News h₀ L s.heap news)
    (T : Top Nm.hd.view_39 (looseW Nm.hd.view_39 []) mean mg mb h₀) (hk : cs.kind = .function) (hd : dp + 1 < recursionLimit) (hu : un + 1000 * 1 < cLine)
    (U : UpdF W (wellO C place tp st ts n) news news') (hC : (C, listOf vs.toArray nC) ∈ news) (hWC : C ≠ W) (wf : WF vs ns)
    (h0 : 0 ≤ place) (h1 : place < 1000000) (s0 : 0 ≤ st) (s1 : st < 2147483647)
    (h : Hold (0 < size ∧ size < 10000000000 ∧ ∀ x t tp' st' ts' h' tk', 0 ≤ x → x < size → 0 ≤ st' → st' < 2147483647 → Fr h₀ L h' m → News h₀ L h' (news' (wellO C (place + 1) tp' st' ts' n)) → Q (.int x t) { s with heap := h', toks := tk' })) :
    wpAny (model PySem.Challenge.rw_nm0003_01.row.prog w) (ktrTop dp un gd cn cs L a ccd cl outer) (call (.ref 72) [.ref W, .int size tk]) Q E s :=
  draw_use B F X N T hk hd hu U hC hWC wf h0 h1 s0 s1 h.1 h.2.1 h.2.2
theorem bytes_hold {prog : Program} {A : Around} {D : Addr} {vs : List Value} {ns : List Int} (F : Fr h₀ L s.heap m) (N : News h₀ L s.heap news) (hh : A.handled = none) (hl : s.heap.IsList D vs.toArray) (hi : IntsAre vs ns)
    (h : Hold ((∀ v ∈ ns, 0 ≤ v ∧ v < 256) ∧ ns.length ≤ 16777216 ∧ ∀ h' t' k, Fr h₀ L h' m → News h₀ L h' news → Q (.bytes (byteArr ns) t') { s with heap := h', toks := k })) : wpAny (model prog w) A (call (.type "bytes") [.ref D]) Q E s :=
  KBa.make_K F N hh hl hi h.1 h.2.1 fun h' t' k F' N' _ => h.2.2 h' t' k F' N'
end
end
local macro_rules | `(tactic| walk_at "call ref") => `(tactic| (k_here; (with_reducible show wpAny _ _ (call (Value.ref 72) _) _ _ _); k_dflt (first
  | (refine' draw_use ?k1 ?k2 ?k3 ?k4 ?k5 ?kK ?kD ?kE ?kU ?kC ?kW ?kwf ?b0 ?b1 ?b2 ?b3 ?b4 ?b5 ?_; (case k1 => k_asm); (case k2 => k_asm); (case k3 => k_asm); (case k4 => k_asm); (case k5 => k_asm); (case kK => first | exact rfl | assumption); (case kD => walk_at "nm room"); (case kE => walk_at "nm units"); (case kU => k_updF); (case kC => k_mem); (case kW => first | assumption | k_ne); (case kwf => assumption); (case b0 => first | assumption | omega); (case b1 => omega); (case b2 => first | assumption | omega); (case b3 => first | assumption | omega); (case b4 => first | assumption | decide | omega); (case b5 => first | assumption | decide | omega); k_whole; intro x' t' tp' st' ts' h' tk' x0' x1' s0' s1' F' N'; (try dsimp only at N'); (try k_sweep); (try dsimp only))
  | (refine' draw_hold ?k1 ?k2 ?k3 ?k4 ?k5 ?kK ?kD ?kE ?kU ?kC ?kW ?kwf ?b0 ?b1 ?b2 ?b3 ?_; (case k1 => k_asm); (case k2 => k_asm); (case k3 => k_asm); (case k4 => k_asm); (case k5 => k_asm); (case kK => first | exact rfl | assumption); (case kD => walk_at "nm room"); (case kE => walk_at "nm units"); (case kU => k_updF); (case kC => k_mem); (case kW => first | assumption | k_ne); (case kwf => assumption); (case b0 => first | assumption | omega); (case b1 => omega); (case b2 => first | assumption | omega); (case b3 => first | assumption | omega)))))
local macro_rules | `(tactic| walk_at "call type:bytes") => `(tactic| (k_here; (with_reducible show wpAny _ _ (call (Value.type "bytes") [Value.ref _]) _ _ _); k_dflt (refine' bytes_hold ?kbaF ?kbaN ?kbah ?kbal ?kbai ?_; (case kbaF => k_asm); (case kbaN => k_asm); (case kbah => rfl); (case kbal => kba_isList); (case kbai => kba_listInts))))
section
structure SgSt where
  its : List Value
  nums : List Int
  k : Nat
  place : Int
  tp : Tok
  st : Int
  ts : Tok
abbrev sgLed (lf cw W C : Addr) (ow : Obj) (n nC : Nat) (vs : List Value) (c : SgSt) : Led :=
  [(lf, listOf c.its.toArray c.k), (cw, ow), (W, wellO C c.place c.tp c.st c.ts n), (C, listOf vs.toArray nC)]
def SgP (place₀ : Int) (i : Nat) (c : SgSt) : Prop :=
  IntsAre c.its c.nums ∧ (∀ v ∈ c.nums, 0 ≤ v ∧ v < 256) ∧ c.nums.length = i ∧ place₀ ≤ c.place ∧ c.place ≤ place₀ + i ∧ 0 ≤ c.st ∧ c.st < 2147483647
section
open PyProof.V PySem.Spec
variable {prog : Program} {w : World} {A : Around} {E : Value → Shared → Prop} {s : Shared} {env : Env} {h₀ : Heap} {x : Str} {body : List Stmt} {Q : Flow → Shared → Prop}
theorem signs_loop {r lf cw W C : Addr} {ow : Obj} {place : Int} {tp : Tok} {st : Int} {ts : Tok} {n nC : Nat} {vs : List Value} {b₀ : Int} {t₀ u₀ v₀ : Tok} {m₀ : Names} {news rest : Led}
    (hh : A.handled = none) (hr : IsRange s.heap r 0 b₀ 1 t₀ u₀ v₀) (hb0 : 0 ≤ b₀) (hb1 : b₀ < 10) (F : Fr h₀ env.locals s.heap m₀) (N : News h₀ env.locals s.heap news)
    (hlf : m₀ (Str.ofString "found") = some (.ref lf)) (m1 : (lf, listOf #[] 0) ∈ news) (m2 : (cw, ow) ∈ news) (m3 : (W, wellO C place tp st ts n) ∈ news) (m4 : (C, listOf vs.toArray nC) ∈ news)
    (mr : ∀ p ∈ rest, p ∈ news) (hoff : OwnOff rest [lf, cw, W, C]) (h0 : 0 ≤ st) (h1 : st < 2147483647)
    (turn : ∀ its nums k place' tp' st' ts' (i : Nat) t h tk own, (i : Int) < b₀ → IntsAre its nums → (∀ v ∈ nums, 0 ≤ v ∧ v < 256) → nums.length = i → place ≤ place' → place' ≤ place + i → 0 ≤ st' → st' < 2147483647 → OwnOff own [lf, cw, W, C] →
      Fr h₀ env.locals h (fun y => if y = x then some (.int (i : Int) t) else m₀ y) → News h₀ env.locals h ((lf, listOf its.toArray k) :: (cw, ow) :: (W, wellO C place' tp' st' ts' n) :: (C, listOf vs.toArray nC) :: own) →
      wpAny (model prog w) A (execs body env) (TurnPost h₀ env.locals x m₀ (sgLed lf cw W C ow n nC vs) (SgP place (i + 1)) own { s with heap := h, toks := tk } Q) E { s with heap := h, toks := tk })
    (done : ∀ its nums k place' tp' st' ts' (u : Names) h tk, IntsAre its nums → (∀ v ∈ nums, 0 ≤ v ∧ v < 256) → nums.length = b₀.toNat → place ≤ place' → place' ≤ place + b₀ → 0 ≤ st' → st' < 2147483647 →
      Fr h₀ env.locals h (fun y => if y = x then u y else m₀ y) → News h₀ env.locals h ((lf, listOf its.toArray k) :: (cw, ow) :: (W, wellO C place' tp' st' ts' n) :: (C, listOf vs.toArray nC) :: rest) → Q .next { s with heap := h, toks := tk }) :
    wpAny (model prog w) A (pyIter (.ref r)) (fun it s₂ => LoopAtV prog w A h₀ env x body Q E it s₂) E s := by
  refine range_loop (sgLed lf cw W C ow n nC vs) (SgP place) ⟨[], [], 0, place, tp, st, ts⟩ (fr := rest) (ad := [lf, cw, W, C]) hh hr hb0 (by omega) F ?_ (fun _ => rfl) hoff ?_ ?_ ?_
  · intro p hp
    rcases List.mem_append.mp hp with h | h
    · simp only [List.mem_cons, List.not_mem_nil, or_false] at h
      rcases h with rfl | rfl | rfl | rfl
      · exact N _ m1
      · exact N _ m2
      · exact N _ m3
      · exact N _ m4
    · exact N _ (mr p h)
  · exact ⟨.nil, fun _ h => (nomatch h), rfl, Int.le_refl _, by simp, h0, h1⟩
  · rintro ⟨its, nums, k, place', tp', st', ts'⟩ i t h tk own hi ho ⟨a1, a2, a3, a4, a5, a6, a7⟩ F' N'
    exact turn its nums k place' tp' st' ts' i t h tk own hi a1 a2 a3 a4 a5 a6 a7 ho F' N'
  · rintro ⟨its, nums, k, place', tp', st', ts'⟩ u h tk ⟨a1, a2, a3, a4, a5, a6, a7⟩ F' N'
    exact done its nums k place' tp' st' ts' u h tk a1 a2 a3 a4 (by dsimp only at a5; omega) a6 a7 F' N'
end
local macro_rules | `(tactic| walk_at "pyIter ref") => `(tactic| (k_here; (with_reducible show wpAny _ _ (pyIter (Value.ref _)) (fun it s₂ => LoopAtV _ _ _ _ _ _ _ _ _ it s₂) _ _); refine Hold.out ?_))
theorem sg_turn {s₁ : Shared} {Q : Flow → Shared → Prop} {x : Str} {h₀ h' : Heap} {L lf cw W C : Addr} {ow : Obj} {n nC k i tk : Nat} {vs its : List Value} {nums : List Int} {place₀ place place' st' : Int} {tp' ts' : Tok} {own : Led} {m₀ m' : Names} {v : Int} {t : Tok}
    (F' : Fr h₀ L h' m') (N' : News h₀ L h' ((lf, listOf (its.toArray.push (.int v t)) k) :: (cw, ow) :: (W, wellO C place' tp' st' ts' n) :: (C, listOf vs.toArray nC) :: own))
    (hm : ∀ z, z ≠ x → m' z = m₀ z) (hits : IntsAre its nums) (hnums : ∀ u ∈ nums, 0 ≤ u ∧ u < 256) (hlen : nums.length = i) (hp0 : place₀ ≤ place) (hp1 : place ≤ place₀ + i) (e : place' = place + 1) (s0 : 0 ≤ st') (s1 : st' < 2147483647)
    (v0 : 0 ≤ v) (v1 : v < 256) : TurnPost h₀ L x m₀ (sgLed lf cw W C ow n nC vs) (SgP place₀ (i + 1)) own s₁ Q .next { s₁ with heap := h', toks := tk } := by
  refine ⟨⟨its ++ [.int v t], nums ++ [v], k, place', tp', st', ts'⟩, h', tk, m', rfl, F', ?_, ⟨?_, ?_, ?_, ?_, ?_, s0, s1⟩, hm⟩
  · have e : (its ++ [Value.int v t]).toArray = its.toArray.push (.int v t) := by simp
    simp only [sgLed, e, List.cons_append, List.nil_append]
    exact N'
  · exact IntsAre.append hits (.cons _ _ .nil)
  · intro u hu
    rcases List.mem_append.mp hu with h | h
    · exact hnums u h
    · rw [List.mem_singleton.mp h]; exact ⟨v0, v1⟩
  · simp [hlen]
  · dsimp only; omega
  · dsimp only; omega
theorem sg_menu (i : Nat) : (0 : Int) ≤ ([0, 34, 92, 10, 9, 127, 128, 255] : List Int).getD i 0 ∧ ([0, 34, 92, 10, 9, 127, 128, 255] : List Int).getD i 0 < 256 := by
  match i with
  | 0 | 1 | 2 | 3 | 4 | 5 | 6 | 7 => decide
  | k + 8 => simp [List.getD]
theorem cut_q {M : Model} {A : Around} {E : Value → Shared → Prop} {s : Shared} {t : Sem Flow} {R : Shared → Prop} {Q : Flow → Shared → Prop} (hI : wpAny M A t (fun fl s' => fl = .next ∧ R s') E s) (hR : ∀ s', R s' → Q .next s') : wpAny M A t Q E s :=
  wpAny_mono hI (fun fl s' ⟨e, r⟩ => e ▸ hR s' r) fun _ _ e => e
inductive SgR (s0 : Shared) (g : Heap) (L : Addr) (m : Names) (D W C : Addr) (n nC : Nat) (vs : List Value) (rest : Led) (place : Int) : Shared → Prop
  | mk (its : List Value) (ks : List Int) (kk : Nat) (place' : Int) (tp' : Tok) (st' : Int) (ts' : Tok) (h' : Heap) (tk' : Nat) : IntsAre its ks → (∀ v ∈ ks, 0 ≤ v ∧ v < 256) → ks.length ≤ 9 → place ≤ place' → place' ≤ place + 19 → 0 ≤ st' → st' < 2147483647 →
    Fr g L h' m → News g L h' ((D, listOf its.toArray kk) :: (W, wellO C place' tp' st' ts' n) :: (C, listOf vs.toArray nC) :: rest) → SgR s0 g L m D W C n nC vs rest place { s0 with heap := h', toks := tk' }
theorem sg_cut {M : Model} {A : Around} {E : Value → Shared → Prop} {s s0 : Shared} {t : Sem Flow} {Q : Flow → Shared → Prop} {g : Heap} {L : Addr} {m : Names} {D W C : Addr} {oD : Obj} {nx : Led} {n nC : Nat} {vs : List Value} {rest : Led} {place : Int} (F : Fr g L s.heap m) (N : News g L s.heap ((D, oD) :: nx))
    (hI : wpAny M A t (fun fl s' => fl = .next ∧ SgR s0 g L m D W C n nC vs rest place s') E s) (hR : ∀ s', SgR s0 g L m D W C n nC vs rest place s' → Q .next s') : wpAny M A t Q E s := cut_q hI hR
inductive SignsPost (W C : Addr) (place : Int) (n nC : Nat) (vs : List Value) (rest : Led) : Value → Led → Prop
  | mk (a : Array UInt8) (t : Tok) (place' : Int) (tp' : Tok) (st' : Int) (ts' : Tok) : a.size ≤ 11 → place ≤ place' → place' ≤ place + 20 → 0 ≤ st' → st' < 2147483647 → SignsPost W C place n nC vs rest (.bytes a t) ((W, wellO C place' tp' st' ts' n) :: (C, listOf vs.toArray nC) :: rest)
local macro_rules | `(tactic| walk_at "exec If") => `(tactic| (k_here; (with_reducible show wpAny _ _ (exec (PySem.Stmt.If (PySem.Expr.BoolOp _ _ _) _ _ _) _) _ _ _); refine Hold.out ?_))
set_option maxRecDepth 100000 in
set_option maxHeartbeats 8000000 in
theorem signs_raw (w : World) (mean : ExcName → Option Value) (mg mb : Names) (W C : Addr) (place : Int) (tp : Tok) (st : Int) (ts : Tok) (n nC : Nat) (vs : List Value) (ns : List Int) (rest : Led)
    (hWC : C ≠ W) (hrest : OwnOff rest [W, C]) (wf : WF vs ns) (h0 : 0 ≤ place) (h1 : place < 900000) (s0 : 0 ≤ st) (s1 : st < 2147483647) :
    Calls w mean mg mb 77 2 ((W, wellO C place tp st ts n) :: (C, listOf vs.toArray nC) :: rest) [.ref W]
      (SignsPost W C place n nC vs rest) := by
  w_top off
  have hrw : PySem.Challenge.rw_nm0003_01 = PySem.Challenge.rw_nm0003_01 := rfl
  revert hrw
  unfold Calls
  k_fill
  intro _
  intro dp un gd cn cs a ccd cl outer A₀ base h₀ L m s Q E B F X N T hk hd hu hret
  refine wpAny_call ?_
  k_dflt (refine' code_defC ?k1 ?k2 ?k3 ?k4 ?k5 ?kA ?kF ?kK ?k6 ?k7 ?k8 ?k9 ?kB ?kD ?_ ?c2 ?c3 ?c4; (case kA => exact rfl); (case kF => exact rfl); (case kK => assumption); (case k1 => k_asm); (case k2 => k_asm); (case k3 => k_asm); (case k4 => k_asm); (case k5 => k_asm); (case k6 => k_is); (case k7 => k_is); (case k8 => walk_at "nm room"); (case k9 => exact BindsTo.of_eq rfl); (case kB => exact rfl); (case kD => decide +kernel); (case c2 => exact rfl); (case c3 => exact rfl); (case c4 => exact rfl); k_whole; intro g' L' h' tk' cells' FG' F' N' Y' B' X' T' l1; (try k_lt l1); (have hRest := AllLt.mono (Nat.le_succ _) l1.2.2); k_cells Y'; (try simp only [List.cons_append, List.nil_append] at N'); (try dsimp only); (try k_lift B'); (try k_fold))
  (walk_at "nm steps")
  refine Hold.mk ?_
  rename Fr _ _ _ _ => lF'
  rename News _ _ _ _ => lN'
  rename IsRange _ _ _ _ _ _ _ _ => rgX
  with_unfolding_all refine' signs_loop (rest := rest) ?hh rgX ?b0 ?b1 lF' lN' ?hlf ?m1 ?m2 ?m3 ?m4 ?mr ?hoff ?s0 ?s1 ?_ ?_
  case hh => rfl
  case b0 => assumption
  case b1 => assumption
  case hlf => rfl
  case m1 => k_mem
  case m2 => exact List.Mem.tail _ (List.Mem.tail _ (List.Mem.head _))
  case m3 => k_mem
  case m4 => k_mem
  case mr => intro p hp; exact .tail _ (.tail _ (.tail _ (.tail _ (.tail _ hp))))
  case hoff =>
    intro p hp b hb
    have hR := ltN (ktn_ltOf hRest p hp)
    simp only [List.mem_cons, List.not_mem_nil, or_false] at hb
    rcases hb with rfl | rfl | rfl | rfl
    · refine neN ?_; omega
    · refine neN ?_; omega
    · exact hrest p hp _ (.head _)
    · exact hrest p hp _ (.tail _ (.head _))
  case s0 => assumption
  case s1 => assumption
  · intro its nums k place' tp' st' ts' i t h tk own hlt hits hnums hlen hp0 hp1 hs0 hs1 hown F' N'
    clear lF' lN'
    (walk_at "nm steps")
    all_goals exact sg_turn (by assumption) (by assumption) (by intro z hz; simp [hz]) hits hnums hlen hp0 hp1 rfl (by assumption) (by assumption) (by omega) (by omega)
  · intro its nums k place' tp' st' ts' u h tk hits hnums hlen hp0 hp1 hs0 hs1 F' N'
    clear lF' lN'
    (try dsimp only)
    have hnl : nums.length ≤ 9 := by omega
    (walk_at "nm steps")
    refine Hold.mk ?_
    rename Shared => s8
    rename News _ _ _ _ => lN'
    rename Fr _ _ _ _ => lF'
    refine sg_cut (s0 := s8) (W := W) (C := C) (n := n) (nC := nC) (vs := vs) (rest := rest) (place := place) lF' lN' ?_ ?_
    · refine wpAny_If ?_
      (walk_at "nm steps")
      · refine' SgR.mk _ _ _ _ _ _ _ _ _ ?zi ?zk ?zl ?za ?zb ?zc ?zd ?zF ?zN
        case zF => k_asm
        case zN => refine kst_newsOf (by k_asm) (List.forall_mem_cons.mpr ⟨by k_mem, List.forall_mem_cons.mpr ⟨by k_mem, List.forall_mem_cons.mpr ⟨by k_mem, fun p hp => ?_⟩⟩⟩); repeat (first | exact hp | refine List.Mem.tail _ ?_)
        case zi => first | assumption | kba_listInts
        case za => omega
        case zb => omega
        case zc => assumption
        case zd => assumption
        case zk =>
          intro v hv
          simp only [List.mem_map] at hv
          obtain ⟨u, hu, rfl⟩ := hv
          have := hnums u hu
          (repeat' split) <;> omega
        case zl => simp only [List.length_map]; omega
      · rename decide _ = false => hd9
        simp only [decide_eq_false_iff_not, List.map_eq_nil_iff] at hd9
        have hpos := List.length_pos_iff.mpr hd9
        refine Hold.mk ⟨?_, ?_, ?_⟩
        · simp only [List.length_map]; omega
        · simp only [List.length_map]; omega
        · intro x9 t9 tp9 st9 ts9 h9 tk9 x0 x1 s0 s1 F9 N9
          (try dsimp only at N9)
          (walk_at "nm steps")
          refine' SgR.mk _ _ _ _ _ _ _ _ _ ?zi ?zk ?zl ?za ?zb ?zc ?zd ?zF ?zN
          case zF => k_asm
          case zN => refine kst_newsOf (by k_asm) (List.forall_mem_cons.mpr ⟨by k_mem, List.forall_mem_cons.mpr ⟨by k_mem, List.forall_mem_cons.mpr ⟨by k_mem, fun p hp => ?_⟩⟩⟩); repeat (first | exact hp | refine List.Mem.tail _ ?_)
          case zi => first | assumption | kba_listInts
          case za => omega
          case zb => omega
          case zc => assumption
          case zd => assumption
          case zk =>
            intro v hv
            rcases List.mem_or_eq_of_mem_set hv with hv | rfl
            · simp only [List.mem_map] at hv
              obtain ⟨u, hu, rfl⟩ := hv
              have := hnums u hu
              (repeat' split) <;> omega
            · exact sg_menu _
          case zl => simp only [List.length_set, List.length_map]; omega
      · refine' SgR.mk _ _ _ _ _ _ _ _ _ ?zi ?zk ?zl ?za ?zb ?zc ?zd ?zF ?zN
        case zF => k_asm
        case zN => refine kst_newsOf (by k_asm) (List.forall_mem_cons.mpr ⟨by k_mem, List.forall_mem_cons.mpr ⟨by k_mem, List.forall_mem_cons.mpr ⟨by k_mem, fun p hp => ?_⟩⟩⟩); repeat (first | exact hp | refine List.Mem.tail _ ?_)
        case zi => first | assumption | kba_listInts
        case za => omega
        case zb => omega
        case zc => assumption
        case zd => assumption
        case zk =>
          intro v hv
          simp only [List.mem_map] at hv
          obtain ⟨u, hu, rfl⟩ := hv
          have := hnums u hu
          (repeat' split) <;> omega
        case zl => simp only [List.length_map]; omega
    · rintro s' ⟨its', ks', kk', pl', tp8, st8, ts8, h8, tk8, hi8, hk8, hl8, hp8, hp9, hs8, hs9, F8, N8⟩
      (walk_at "nm steps")
      refine Hold.mk ⟨?_, ?_, ?_⟩
      · intro v hv
        rcases List.mem_append.mp hv with hv | hv
        · exact hk8 v hv
        · simp only [List.mem_flatten, List.mem_replicate] at hv
          obtain ⟨l, ⟨_, rfl⟩, hv⟩ := hv
          rw [List.mem_singleton.mp hv]; omega
      · simp only [List.length_append, List.flatten_replicate_singleton, List.length_replicate]
        omega
      · intro h' t' k F' N'
        (walk_at "nm steps")
        refine hret _ _ _ _ (by k_asm) (kst_newsOf (by k_asm) (List.forall_mem_cons.mpr ⟨by k_mem, List.forall_mem_cons.mpr ⟨by k_mem, fun p hp => ?_⟩⟩)) (.mk _ _ _ _ _ _ ?_ ?_ ?_ ?_ ?_)
        · repeat (first | exact hp | refine List.Mem.tail _ ?_)
        · simp only [byteArr_size, List.length_append, List.flatten_replicate_singleton, List.length_replicate]
          omega
        · omega
        · omega
        · assumption
        · assumption
end
section
open PySem.Calls Builtin PySem.W.KBd
set_option maxRecDepth 100000
def lat (b : Array UInt8) : Str := ⟨b.map (·.toNat)⟩
theorem lat_road {id : String} {b : Array UInt8} : _codecs.decodeRoad id b (PySem.Str.ofString "latin-1") none [] = (_codecs.runDecoder id _codecs.latin1Decoder none true b 0 [] >>= fun r => mkStr ⟨r.1⟩) := by kernel_rfl
theorem lat_run {id : String} {b : Array UInt8} (hb : b.size ≤ 11) : _codecs.runDecoder id _codecs.latin1Decoder none true b 0 [] = pure ((lat b).cps, b.size) := by
  obtain ⟨l⟩ := b
  match l, hb with
  | [], _ => kernel_rfl
  | [c0], _ => kernel_rfl
  | [c0, c1], _ => kernel_rfl
  | [c0, c1, c2], _ => kernel_rfl
  | [c0, c1, c2, c3], _ => kernel_rfl
  | [c0, c1, c2, c3, c4], _ => kernel_rfl
  | [c0, c1, c2, c3, c4, c5], _ => kernel_rfl
  | [c0, c1, c2, c3, c4, c5, c6], _ => kernel_rfl
  | [c0, c1, c2, c3, c4, c5, c6, c7], _ => kernel_rfl
  | [c0, c1, c2, c3, c4, c5, c6, c7, c8], _ => kernel_rfl
  | [c0, c1, c2, c3, c4, c5, c6, c7, c8, c9], _ => kernel_rfl
  | [c0, c1, c2, c3, c4, c5, c6, c7, c8, c9, c10], _ => kernel_rfl
  | c0 :: c1 :: c2 :: c3 :: c4 :: c5 :: c6 :: c7 :: c8 :: c9 :: c10 :: c11 :: r, h => simp at h
theorem lat_length (b : Array UInt8) : (lat b).length = b.size := by simp [lat, Str.length]
theorem lat_text {b : Array UInt8} {t t1 t2 : Tok} {d : PySem.Str} (hb : b.size ≤ 11) :
    Meets («_codecs.decode.text» ⟨[.bytes b t, .str (PySem.Str.ofString "latin-1") t1, .none, .str d t2], []⟩) (fun _ R s => R (.ok (.ret (.str (lat b) s.toks))) { s with toks := s.toks + 1 }) := by
  refine .of_wp fun prog w A R s h => ?_
  show wpAny _ _ (Bytes.bytesLike _ (.bytes b t) >>= fun r => _) _ _ s
  refine wpAny_bind (wpAny_of_eq like_eq ?_)
  refine wpAny_bind (wpAny_of_eq held_eq ?_)
  show wpAny _ _ (_codecs.decodeRoad _ b (PySem.Str.ofString "latin-1") none [] >>= fun v => _) _ _ s
  rw [lat_road, lat_run hb]
  refine wpAny_bind (wpAny_bind (wpAny_pure ?_))
  exact wpAny_mkStr (wpAny_pure ⟨_, rfl, h⟩) (by show (lat b).length ≤ _; rw [lat_length, sizeLine_eq]; omega)
theorem lat_entry {c : UInt8} {cs : List UInt8} {t t0 : Tok} : «bytes.decode» ⟨[.bytes (c :: cs).toArray t, .str (PySem.Str.ofString "latin-1") t0], []⟩ = (mkStr (PySem.Str.ofString "utf-8") >>= fun _ => mkStr (PySem.Str.ofString "latin-1") >>= fun e => mkStr (PySem.Str.ofString "bytes.decode") >>= fun d =>
    call (.builtin "_codecs.decode.text") [.bytes (c :: cs).toArray t, e, .none, d] >>= fun v => ret v) := by kernel_rfl
theorem lat_entry0 {t t0 : Tok} : «bytes.decode» ⟨[.bytes #[] t, .str (PySem.Str.ofString "latin-1") t0], []⟩ = (rule "bytes.decode.empty" >>= fun _ => retStr Str.empty) := by kernel_rfl
theorem lat_decode {b : Array UInt8} {t t0 : Tok} (hb : b.size ≤ 11) :
    Meets («bytes.decode» ⟨[.bytes b t, .str (PySem.Str.ofString "latin-1") t0], []⟩) (fun _ R s => ∀ t' k, R (.ok (.ret (.str (lat b) t'))) { s with toks := k }) := by
  refine .of_wp fun prog w A R s h => ?_
  obtain ⟨l⟩ := b
  cases l with
  | nil =>
    have e : lat ⟨[]⟩ = Str.empty := by decide +kernel
    rw [e] at h
    rw [lat_entry0]
    refine wpAny_bind (wpAny_rule ?_)
    exact wpAny_bind (wpAny_mkStr (wpAny_pure ⟨_, rfl, h _ _⟩) (by decide))
  | cons c cs =>
    rw [lat_entry]
    refine wpAny_bind (wpAny_mkStr ?_ (by decide))
    refine wpAny_bind (wpAny_mkStr ?_ (by decide))
    refine wpAny_bind (wpAny_mkStr ?_ (by decide))
    exact wpAny_bind (call_function_meets kind_text plain_text entry_text (args_text _ _ _ _) (lat_text hb) (wpAny_pure ⟨_, rfl, h _ _⟩))
theorem args_dec2 (a e : Value) : argsOk "bytes.decode" ⟨[a, e], []⟩ := by
  unfold argsOk; rw [signature?_of (id := "bytes.decode") (n := ['e', 'd', 'o', 'c', 'e', 'd']) (o := ['s', 'e', 't', 'y', 'b']) (by kernel_rfl) FB.owner_bytes]; kernel_rfl
theorem decode_lat {prog : Program} {w : World} {A : Around} {E : Value → Shared → Prop} {s : Shared} {b : Array UInt8} {t t0 : Tok} {Q : Value → Shared → Prop} (hb : b.size ≤ 11) (h : ∀ t' k, Q (.str (lat b) t') { s with toks := k }) :
    wpAny (model prog w) A (call (.builtin "bytes.decode") [.bytes b t, .str (PySem.Str.ofString "latin-1") t0]) Q E s :=
  call_meets FB.slot_bytes_decode (typeIs_bytes _ _ _) FB.entry_bytes_decode (args_dec2 _ _) (lat_decode hb) h
end
local macro_rules | `(tactic| walk_at "call builtin:bytes.decode") => `(tactic| (k_here; (with_reducible show wpAny _ _ (call (Value.builtin "bytes.decode") [Value.bytes _ _, Value.str _ _]) _ _ _); (refine decode_lat (by assumption) ?_); intro _ _))
section
open PySem.Calls Builtin PySem.W.KBd
set_option maxRecDepth 100000
section
variable {prog : Program} {w : World} {A : Around} {E : Value → Shared → Prop} {s : Shared} {x y z : PySem.Str} {t u : Tok} {Q : Value → Shared → Prop} {h₀ : Heap} {L : Addr} {m : Names} {news : Led}
theorem len_fit {x : Str} (h : x.length ≤ 1000) : x.length ≤ sizeLine := by rw [sizeLine_eq]; omega
theorem strip_t (e : Txt.strip x = y) (hs : x.length ≤ 1000) (h : ∀ t' k, Q (.str y t') { s with toks := k }) : wpAny (model prog w) A (call (.builtin "str.strip") [.str x t]) Q E s := KXw.strip e (len_fit hs) h
theorem stripC_t (e : Txt.stripChars x z = y) (hs : x.length ≤ 1000) (h : ∀ t' k, Q (.str y t') { s with toks := k }) : wpAny (model prog w) A (call (.builtin "str.strip") [.str x t, .str z u]) Q E s := KXw.stripChars e (len_fit hs) h
theorem rstripC_t (e : Txt.rstripChars x z = y) (hs : x.length ≤ 1000) (h : ∀ t' k, Q (.str y t') { s with toks := k }) : wpAny (model prog w) A (call (.builtin "str.rstrip") [.str x t, .str z u]) Q E s := KXw.rstripChars e (len_fit hs) h
theorem part_t {p q r : PySem.Str} (hF : Fr h₀ L s.heap m) (hN : News h₀ L s.heap news) (hy : (y.length == 0) = false) (e : Txt.partition x y = (p, q, r)) (hs : x.length ≤ 1000)
    (h : ∀ D ta tb tc h' k, Fr h₀ L h' m → News h₀ L h' ((D, { cls := .type "tuple", data := .seq [.str p ta, .str q tb, .str r tc].toArray }) :: news) → (∀ a ∈ news, a.1 < D) → Q (.ref D) { s with heap := h', toks := k }) :
    wpAny (model prog w) A (call (.builtin "str.partition") [.str x t, .str y u]) Q E s := KXpa.partition hF hN hy (by rw [e]) (by rw [e]) (by rw [e]) (len_fit hs) h
end
end
local macro_rules | `(tactic| walk_at "call builtin:str.strip") => `(tactic| (k_here; (with_reducible show wpAny _ _ (call (Value.builtin "str.strip") [Value.str _ _]) _ _ _); (refine strip_t (by assumption) (by assumption) ?_); intro _ _))
local macro_rules | `(tactic| walk_at "call builtin:str.strip") => `(tactic| (k_here; (with_reducible show wpAny _ _ (call (Value.builtin "str.strip") [Value.str _ _, Value.str _ _]) _ _ _); (refine stripC_t (by assumption) (by assumption) ?_); intro _ _))
local macro_rules | `(tactic| walk_at "call builtin:str.rstrip") => `(tactic| (k_here; (with_reducible show wpAny _ _ (call (Value.builtin "str.rstrip") [Value.str _ _, Value.str _ _]) _ _ _); (refine rstripC_t (by assumption) (by assumption) ?_); intro _ _))
local macro_rules | `(tactic| walk_at "call builtin:str.partition") => `(tactic| (k_here; (with_reducible show wpAny _ _ (call (Value.builtin "str.partition") [Value.str _ _, Value.str _ _]) _ _ _); (refine part_t (by k_asm) (by k_asm) (by decide) (by assumption) (by assumption) ?_); intro D' _ _ _ _ _ F' N' l1; (try k_lt l1)))
section
open PySem.Calls PyProof.V PySem.Spec LCg
set_option maxRecDepth 100000
section
variable {prog : Program} {w : World} {A : Around} {E : Value → Shared → Prop} {s : Shared} {h₀ : Heap} {L : Addr} {m : Str → Option Value} {env : Env}
def SrcB (prog : Program) (w : World) (A : Around) (h₀ : Heap) (L : Addr) (m : Str → Option Value) (env : Env) (elt : Expr) (x : Str) (scope : Scope) (cl : List (Str × Addr)) (Fin : Shared → List Value → List (Addr × Obj) → Prop) (xv : Value) (s₁ : Shared) : Prop :=
  ∃ b t news, xv = .bytes b t ∧ A.handled = none ∧ Fr h₀ L s₁.heap m ∧ News h₀ L s₁.heap news ∧ b.size ≤ sizeLine ∧
    ∀ s₂ : Shared, (∃ h, s₂ = { s₁ with heap := h }) → CompRest prog w A h₀ L m env elt x scope cl s₂ (fun _ => True) (fun i v => ∃ c u, b[i]? = some c ∧ v = .int (c.toNat : Int) u) (Fin s₂) b.size 0 [] news
theorem ListComp_B {elt iter : Expr} {x : Str} {px : Pos} {scope : Scope} {cl : List (Str × Addr)} {pos : Pos} {Q : Value → Shared → Prop} (F₀ : Fr h₀ L s.heap m)
    (hclos : closureFor scope env = pure cl) (hcell : ∀ y ∈ scope.names, y.2 ≠ .cell) (hkind : scope.kind = .function)
    (hnames : ∀ y ∈ scope.names, y.2 = .local → scope.names.lookup y.1 = some .local) (hx : scope.names.lookup x = some .local)
    (h : wpAny (model prog w) A (eval iter env) (SrcB prog w A h₀ L m env elt x scope cl (fun s₂ => FinE h₀ L m s₂ Q)) E s)
    (hs : ∀ x, foldedSetIterable iter env x = pure x := by intro _; rfl) :
    wpAny (model prog w) A (eval (.ListComp elt [⟨.Name x px, iter, [], 0⟩] scope pos) env) Q E s := by
  rw [eval_ListComp]
  refine wpAny_comprehension_free (use := none) rfl hs hclos hkind hnames (wpAny_mono h (fun xv s₁ h₁ => ?_) fun _ _ e => e)
  obtain ⟨b, t, news, rfl, hh, F, N, hsz, R⟩ := h₁
  refine KBw.pyIter_bytes ?_
  refine block_U (KBw.walks hh s₁.heap.objs.size b t) hsz (fun i h st => by obtain ⟨o, e, _⟩ := st; exact ⟨o, e⟩) (fun i h h' o nw st e e' _ _ _ => by obtain ⟨o', q, r⟩ := st; rw [e] at q; cases q; exact ⟨o, e', r⟩) hcell hkind hx
    ⟨_, Heap.get?_push_size _ rfl, rfl, rfl⟩ (fun b hb => ?_)
    (F.keeps fun _ _ e => Heap.get?_push_of_some _ e) (N.grown fun _ _ e => Heap.get?_push_of_some _ e) (Nat.ne_of_lt F.ns.lt) (next_is_new F) (fun p hp => Nat.ne_of_lt (Heap.lt_size (N p hp).1)) trivial (R _ ⟨_, rfl⟩) ?_
  · rw [List.mem_singleton.mp hb]
    show s₁.heap.objs.size < (s₁.heap.push _).objs.size
    rw [Heap.size_push]; exact Nat.lt_succ_self _
  · intro D C h tk m' ys news' F' N' o1 hn hC₀ hD₀ hCL hDL hCD offC fin
    refine ⟨m', hn, fun h'' hs'' => fin D h'' tk (F'.change hs'' hCL hC₀) (fun p hp => ?_) o1⟩
    refine ⟨hs''.extBut _ _ ?_ (N' p hp).1, (N' p hp).2⟩
    rcases List.mem_cons.mp hp with rfl | hp
    · exact Ne.symm hCD
    · exact offC p hp
theorem bytes_items {b : Array UInt8} : ∀ i v, i < b.size → (∃ c u, b[i]? = some c ∧ v = Value.int (c.toNat : Int) u) → ∃ k t, (KBw.bInts b)[i]? = some k ∧ v = Value.int k t := by
  rintro i v hi ⟨c, u, hc, rfl⟩
  exact ⟨_, u, KBw.ints_get hc, rfl⟩
end
end
section
abbrev plainS : Str := Str.ofString " !$%&'()*+,-./0123456789:;<=>?@ABCDEFGHIJKLMNOPQRSTUVWXYZ[]^_`abcdefghijklmnopqrstuvwxyz{|}~"
abbrev tx (n : Int) : Str := Str.ofString (toString n)
abbrev byteRow (ks : List Int) : Str := Str.ofString "\t.byte " ++ Txt.join (Str.ofString ", ") (ks.map tx)
abbrev asciiRow (x : Str) : Str := Str.ofString "\t.ascii \"" ++ x ++ Str.ofString "\""
abbrev spaceRow (n : Int) : Str := Str.ofString "\t.space " ++ tx n
inductive OctOut (b : Array UInt8) (body : Str) : List Str → Prop
  | bytes : Txt.stripChars body plainS ≠ Str.ofString "" → OctOut b body [byteRow (KBw.bInts b)]
  | both : Txt.stripChars body plainS = Str.ofString "" → body ≠ Str.ofString "" → body.length < (lat b).length → OctOut b body [asciiRow body, spaceRow ((lat b).length - body.length)]
  | ascii : Txt.stripChars body plainS = Str.ofString "" → body ≠ Str.ofString "" → ¬ body.length < (lat b).length → OctOut b body [asciiRow body]
  | space : Txt.stripChars body plainS = Str.ofString "" → body = Str.ofString "" → body.length < (lat b).length → OctOut b body [spaceRow ((lat b).length - body.length)]
  | none : Txt.stripChars body plainS = Str.ofString "" → body = Str.ofString "" → ¬ body.length < (lat b).length → OctOut b body []
theorem tx_len {n : Int} (h0 : 0 ≤ n) (h1 : n < 1000) : (tx n).length ≤ 3 := toString_length_le h0 (by decide) h1
theorem join_tx (ks : List Int) (h : ∀ k ∈ ks, 0 ≤ k ∧ k < 256) (hl : ks.length ≤ 11) : (Txt.join (Str.ofString ", ") (ks.map tx)).length ≤ 1000 := by
  have e : Txt.join (Str.ofString ", ") (ks.map tx) = Str.join (Str.ofString ", ") (ks.map tx) := StrLaws.glued_eq_join _ _
  rw [e]
  refine Nat.le_trans (StrLaws.join_length_le _ _) ?_
  have hs : ∀ l : List Int, (∀ k ∈ l, 0 ≤ k ∧ k < 256) → ((l.map tx).map (·.length)).sum ≤ 3 * l.length := by
    intro l
    induction l with
    | nil => intro _; simp
    | cons k r ih =>
      intro h
      have h1 := tx_len (h k (.head _)).1 (by have := (h k (.head _)).2; omega)
      have h2 := ih fun q hq => h q (.tail _ hq)
      simp only [List.map_cons, List.sum_cons, List.length_cons]
      omega
  have h1 := hs ks h
  have h2 : (Str.ofString ", ").length = 2 := by decide
  rw [List.length_map, h2]
  omega
theorem add_t {prog : Program} {w : World} {A : Around} {E : Value → Shared → Prop} {s : Shared} {x y : PySem.Str} {t u : Tok} {Q : Value → Shared → Prop} (hx : x.length ≤ 1000) (hy : y.length ≤ 1000) (h : ∀ t' tk, Q (.str (x ++ y) t') { s with toks := tk }) :
    wpAny (model prog w) A (binaryOp .Add (.str x t) (.str y u)) Q E s := add_str h (by rw [sizeLine_eq]; omega)
local macro_rules | `(tactic| walk_at "binaryOp Add str str") => `(tactic| (k_here; (with_reducible show wpAny _ _ (binaryOp Operator.Add (Value.str _ _) (Value.str _ _)) _ _ _); (refine add_t (by first | assumption | decide) (by first | assumption | decide) ?_); intro _ _))
local macro_rules | `(tactic| walk_at "call builtin:str.join") => `(tactic| (k_here; refine Hold.out ?_))
local macro_rules | `(tactic| walk_at "eval ListComp") => `(tactic| (k_here; refine Hold.out ?_))
set_option maxRecDepth 100000 in
set_option maxHeartbeats 8000000 in
theorem oct_raw (w : World) (mean : ExcName → Option Value) (mg mb : Names) (b : Array UInt8) (t : Tok) (news : Led) (hb : b.size ≤ 11)
    (body rem : Str) (e1 : Txt.rstripChars (lat b) (Str.ofString "\x00") = body) (e2 : Txt.stripChars body plainS = rem)
    (n1 : (lat b).length ≤ 1000) (n2 : body.length ≤ 1000) :
    Calls w mean mg mb 53 1 news [.bytes b t]
      (fun r news' => ∃ l vs k rows, r = .ref l ∧ (∀ p ∈ news, p.1 < l) ∧ news' = (l, listOf vs.toArray k) :: news ∧ StrsAre vs rows ∧ OctOut b body rows) := by
  w_top off
  have hrw : PySem.Challenge.rw_nm0003_01 = PySem.Challenge.rw_nm0003_01 := rfl
  revert hrw
  unfold Calls
  k_fill
  intro _
  intro dp un gd cn cs a ccd cl outer A₀ base h₀ L m s Q E B F X N T hk hd hu hret
  refine wpAny_call ?_
  k_dflt cell_enter
  (walk_at "nm steps")
  · refine Hold.mk ?_
    k_dflt (refine ListComp_B (F₀ := by k_asm) (by with_unfolding_all rfl) (by decide) (by rfl) (by decide) (by rfl) ?_)
    (walk_at "nm steps")
    refine ⟨b, t, news, rfl, rfl, by k_asm, by k_asm, by rw [sizeLine_eq]; omega, ?_⟩
    rintro s₂ ⟨g, rfl⟩
    refine kct_rest (ks := KBw.bInts b) tx (KBw.ints_length b) bytes_items (fun k' t' I' oI' C' oC' D' m' ys' h' tk' E' hk' hC' hx' F' N' off' ne' hMark' => ?_) ?_
    · have hkb := KBw.ints_in hk'
      (walk_at "nm steps")
      exact LCg.CompEnd.intro (by k_asm) (by k_asm) news (fun _ h => h) off' trivial ⟨rfl, _, rfl⟩
    · (walk_at "nm steps")
      refine Hold.mk ?_
      (with_reducible rename CarriedAll _ (List.map _ _) => ktC)
      have hki : ∀ k ∈ KBw.bInts b, 0 ≤ k ∧ k < 256 := fun k hk => KBw.ints_in hk
      have hkl : (KBw.bInts b).length ≤ 11 := by rw [KBw.ints_length]; exact hb
      have hj := join_tx _ hki hkl
      refine KT.join_B 3 (by first | assumption | is_list | exact News.isList (by k_asm) (by k_mem)) ktC ?_ ?_ (by decide) ?_
      · intro k hk
        exact tx_len (hki k hk).1 (by have := (hki k hk).2; omega)
      · omega
      · intro _ _
        (walk_at "nm steps")
        exact hret _ _ _ _ (by k_asm) (kst_newsOf (by k_asm) (List.forall_mem_cons.mpr ⟨by k_mem, fun p hp => .tail _ (.tail _ hp)⟩)) ⟨_, _, _, _, rfl, (by first | assumption | exact ktn_ltOf (by first | assumption | exact And.right (by assumption))), rfl, .cons _ _ .nil, .bytes (by rw [e2]; rename (_ != _) = true => hr9; exact bne_iff_ne.mp hr9)⟩
  all_goals (rename (rem != _) = false => hr9; (have hr8 : rem = Str.ofString "" := by simpa using hr9); rw [hr8] at e2)
  · rename (body != _) = true => hb9
    exact hret _ _ _ _ (by k_asm) (by k_asm) ⟨_, [_, _], _, _, rfl, (by first | assumption | exact ktn_ltOf (by first | assumption | exact And.right (by assumption))), rfl, .cons _ _ (.cons _ _ .nil), .both e2 (bne_iff_ne.mp hb9) (by omega)⟩
  · rename (body != _) = true => hb9
    exact hret _ _ _ _ (by k_asm) (by k_asm) ⟨_, [_], _, _, rfl, (by first | assumption | exact ktn_ltOf (by first | assumption | exact And.right (by assumption))), rfl, .cons _ _ .nil, .ascii e2 (bne_iff_ne.mp hb9) (by omega)⟩
  · rename (body != _) = false => hb9
    exact hret _ _ _ _ (by k_asm) (by k_asm) ⟨_, [_], _, _, rfl, (by first | assumption | exact ktn_ltOf (by first | assumption | exact And.right (by assumption))), rfl, .cons _ _ .nil, .space e2 (by simpa using hb9) (by omega)⟩
  · rename (body != _) = false => hb9
    exact hret _ _ _ _ (by k_asm) (by k_asm) ⟨_, [], _, _, rfl, (by first | assumption | exact ktn_ltOf (by first | assumption | exact And.right (by assumption))), rfl, .nil, .none e2 (by simpa using hb9) (by omega)⟩
end
section
open PySem.Spec PySem.SeqAt PyProof.V
abbrev nonFig (x : Str) : List Str := List.filter (fun a => !!(Builtin.Str.occurrences (Str.ofString "0123456789") a 0 (Str.ofString "0123456789").length 1).isEmpty) (signs x)
theorem canLayAll0_strs : ∀ ls : List Str, (∀ x ∈ ls, PyData.strOk x = true) → PyData.canLayAll0 (ls.map PyData.str) = true
  | [], _ => rfl
  | x :: r, h => by
    have h1 := h x (.head _)
    have h2 := canLayAll0_strs r fun y hy => h y (.tail _ hy)
    simp only [List.map_cons, PyData.canLayAll0, PyData.canLay0, h1, h2, Bool.and_self]
theorem depthAll_strs : ∀ ls : List Str, PyData.depthAll (ls.map PyData.str) = 0
  | [] => rfl
  | _ :: r => by simp [PyData.depthAll, PyData.depth, depthAll_strs r]
theorem shaped_strs (ls : List Str) (h : ∀ x ∈ ls, PyData.strOk x = true) : SeqAt.shaped (.list (ls.map PyData.str)) = true := by
  simp [SeqAt.shaped, PyData.canLay0, PyData.depth, canLayAll0_strs ls h, depthAll_strs]
theorem sameAll_strs_nil : ∀ ls : List Str, PySem.Spec.sameAll (ls.map PyData.str) [] = decide (ls = [])
  | [] => by simp [PySem.Spec.sameAll]
  | _ :: _ => by simp [PySem.Spec.sameAll]
section
variable {prog : Program} {w : World} {A : Around} {E : Value → Shared → Prop} {s : Shared} {a b : Addr} {ys : List Value} {ls : List Str} {Q : Value → Shared → Prop}
theorem ne_strs_nil (ha : s.heap.IsList a ys.toArray) (hb : s.heap.IsList b ([] : List Value).toArray) (hc : CarriedAll ys (ls.map PyData.str)) (hok : ∀ x ∈ ls, PyData.strOk x = true) (hu : A.units + 64 < cLine) (h : Q (.bool (!decide (ls = []))) s) :
    wpAny (model prog w) A (compareOp .NotEq (.ref a) (.ref b)) Q E s :=
  ne_dataH_same (reads_newData ha hc) (reads_newData (ds := []) hb .nil) (shaped_strs ls hok) (shaped_strs [] (fun _ h => nomatch h)) hu
    (by cases ls <;> simp [noMix, noMixAll]) (by
      have e : PySem.Spec.same (.list (ls.map PyData.str)) (.list []) = decide (ls = []) := by simp only [PySem.Spec.same]; exact sameAll_strs_nil ls
      rw [e]; exact h)
theorem eq_str_at {x y : Str} {t u : Tok} {r : Bool} (e : (x == y) = r) (h : Q (.bool r) s) : wpAny (model prog w) A (compareOp .Eq (.str x t) (.str y u)) Q E s := eq_str (by rw [e]; exact h)
theorem ne_str_at {x y : Str} {t u : Tok} {r : Bool} (e : (x == y) = r) (h : Q (.bool !r) s) : wpAny (model prog w) A (compareOp .NotEq (.str x t) (.str y u)) Q E s := ne_str (by rw [bne, e]; exact h)
end
theorem nonFig_ok {x : Str} (hx : ∀ c ∈ x.cps.toList, c < 1114112) : ∀ y ∈ nonFig x, PyData.strOk y = true := by
  intro y hy
  have h1 := (List.mem_filter.mp hy).1
  obtain ⟨c, hc, rfl⟩ := List.mem_map.mp h1
  have := hx c hc
  simp [PyData.strOk, this]
end
local macro_rules | `(tactic| walk_at "compareOp Eq str str") => `(tactic| (k_here; (with_reducible show wpAny _ _ (compareOp CmpOp.Eq (Value.str _ _) (Value.str _ _)) _ _ _); with_reducible refine eq_str_at (by assumption) ?_))
local macro_rules | `(tactic| walk_at "compareOp NotEq str str") => `(tactic| (k_here; (with_reducible show wpAny _ _ (compareOp CmpOp.NotEq (Value.str _ _) (Value.str _ _)) _ _ _); with_reducible refine ne_str_at (by assumption) ?_; (try simp only [Bool.not_true, Bool.not_false])))
local macro_rules | `(tactic| walk_at "compareOp NotEq ref ref") => `(tactic| (k_here; (with_reducible show wpAny _ _ (compareOp CmpOp.NotEq (Value.ref _) (Value.ref _)) _ _ _); k_dflt (refine ne_strs_nil (by exact News.isList (by k_asm) (by k_mem)) (by exact News.isList (by k_asm) (by k_mem)) (by assumption) (by assumption) (by units_room) ?_)))
local macro_rules | `(tactic| walk_at "nm spare 1") => `(tactic| skip)
section
open PySem.Spec PySem.SeqAt PyProof.V
set_option maxRecDepth 100000 in
set_option maxHeartbeats 8000000 in
theorem num_none (w : World) (mean : ExcName → Option Value) (mg mb : Names) (x : Str) (t : Tok) (news : Led) (hx : x.length ≤ 1000)
    (h1 : (Txt.slice x none (some 1) == Str.ofString "-") = false) (h2 : (x == Str.ofString "") = false) (h3 : nonFig x ≠ []) (h4 : ∀ y ∈ nonFig x, PyData.strOk y = true) :
    Calls w mean mg mb 94 1 news [.str x t] (fun r news' => r = .none ∧ news' = news) := by
  w_top off
  have hrw : PySem.Challenge.rw_nm0003_01 = PySem.Challenge.rw_nm0003_01 := rfl
  revert hrw
  unfold Calls
  k_fill
  intro _
  intro dp un gd cn cs a ccd cl outer A₀ base h₀ L m s Q E B F X N T hk hd hu hret
  refine wpAny_call ?_
  k_dflt cell_enter
  (walk_at "nm steps")
  exact hret _ _ _ _ (by k_asm) (kst_newsOf (by k_asm) fun p hp => .tail _ (.tail _ hp)) ⟨rfl, rfl⟩
set_option maxRecDepth 100000 in
set_option maxHeartbeats 8000000 in
theorem num_int (w : World) (mean : ExcName → Option Value) (mg mb : Names) (v : Int) (t : Tok) (news : Led) (v0 : 0 ≤ v) (v1 : v < 10 ^ 10) (hx : (tx v).length ≤ 1000)
    (h1 : (Txt.slice (tx v) none (some 1) == Str.ofString "-") = false) (h2 : (tx v == Str.ofString "") = false) (h3 : nonFig (tx v) = []) (h4 : ∀ y ∈ nonFig (tx v), PyData.strOk y = true) :
    Calls w mean mg mb 94 1 news [.str (tx v) t] (fun r news' => (∃ t, r = .int v t) ∧ news' = news) := by
  w_top off
  have hrw : PySem.Challenge.rw_nm0003_01 = PySem.Challenge.rw_nm0003_01 := rfl
  revert hrw
  unfold Calls
  k_fill
  intro _
  intro dp un gd cn cs a ccd cl outer A₀ base h₀ L m s Q E B F X N T hk hd hu hret
  refine wpAny_call ?_
  k_dflt cell_enter
  (walk_at "nm steps")
  exact hret _ _ _ _ (by k_asm) (kst_newsOf (by k_asm) fun p hp => .tail _ (.tail _ hp)) ⟨⟨_, rfl⟩, rfl⟩
end
section
theorem p32 : (2 : Int) ^ Int.toNat 32 = 4294967296 := by decide
theorem p31 : (2 : Int) ^ Int.toNat 31 = 2147483648 := by decide
theorem sg_hi {v : Int} (h : (2 : Int) ^ Int.toNat 31 ≤ v.fmod (2 ^ Int.toNat 32)) :
    (v.fmod (2 ^ Int.toNat 32) - 2 ^ Int.toNat 32).fmod 4294967296 = v.fmod 4294967296 ∧ -2147483648 ≤ v.fmod (2 ^ Int.toNat 32) - 2 ^ Int.toNat 32 ∧ v.fmod (2 ^ Int.toNat 32) - 2 ^ Int.toNat 32 < 2147483648 := by
  rw [p31, p32] at h; rw [p32]
  rw [Int.fmod_eq_emod_of_nonneg _ (by decide)] at h ⊢
  rw [Int.fmod_eq_emod_of_nonneg _ (by decide)]
  omega
theorem sg_lo {v : Int} (h : ¬ (2 : Int) ^ Int.toNat 31 ≤ v.fmod (2 ^ Int.toNat 32)) :
    (v.fmod (2 ^ Int.toNat 32)).fmod 4294967296 = v.fmod 4294967296 ∧ -2147483648 ≤ v.fmod (2 ^ Int.toNat 32) ∧ v.fmod (2 ^ Int.toNat 32) < 2147483648 := by
  rw [p31, p32] at h; rw [p32]
  rw [Int.fmod_eq_emod_of_nonneg _ (by decide)] at h ⊢
  rw [Int.fmod_eq_emod_of_nonneg _ (by decide)]
  omega
set_option maxRecDepth 100000 in
set_option maxHeartbeats 8000000 in
theorem signed_raw (w : World) (mean : ExcName → Option Value) (mg mb : Names) (v : Int) (t : Tok) (news : Led) (h0 : -10000000000 ≤ v) (h1 : v ≤ 10000000000) :
    Calls w mean mg mb 41 1 news [.int v t] (fun r news' => ∃ z t', r = .int z t' ∧ news' = news ∧ z.fmod 4294967296 = v.fmod 4294967296 ∧ -2147483648 ≤ z ∧ z < 2147483648) := by
  w_top off
  have hrw : PySem.Challenge.rw_nm0003_01 = PySem.Challenge.rw_nm0003_01 := rfl
  revert hrw
  unfold Calls
  k_fill
  intro _
  intro dp un gd cn cs a ccd cl outer A₀ base h₀ L m s Q E B F X N T hk hd hu hret
  refine wpAny_call ?_
  k_dflt cell_enter
  (walk_at "nm steps")
  · exact hret _ _ _ _ (by k_asm) (by k_asm) ⟨_, _, rfl, rfl, sg_hi (by assumption)⟩
  · exact hret _ _ _ _ (by k_asm) (by k_asm) ⟨_, _, rfl, rfl, sg_lo (by assumption)⟩
section
variable {w : World} {mean : ExcName → Option Value} {mg mb : Names} {dp un : Nat} {gd : Option (List Code)} {cn : Str} {cs : Scope} {a : Addr} {ccd : Value} {cl : List (Str × Addr)} {outer : List Env} {A₀ : Around} {base h₀ : Heap} {L : Addr} {m : Names} {s : Shared} {Q E : Value → Shared → Prop} {news rest own : Led}
theorem signed_k {v : Int} {t : Tok} (h0 : -10000000000 ≤ v) (h1 : v ≤ 10000000000) (B : Below A₀ base outer h₀) (F : Fr h₀ L s.heap m) (X : (Nm.hd.heap_39 w.params).In h₀) (N : News h₀ L s.heap news)
    (T : Top Nm.hd.view_39 (looseW Nm.hd.view_39 []) mean mg mb h₀) (hk : cs.kind = .function) (hd : dp + 1 < recursionLimit) (hu : un + 1000 * 1 < cLine)
    (k : ∀ z t' h' tk', z.fmod 4294967296 = v.fmod 4294967296 → -2147483648 ≤ z → z < 2147483648 → Fr h₀ L h' m → News h₀ L h' news → Q (.int z t') { s with heap := h', toks := tk' }) :
    wpAny (model PySem.Challenge.rw_nm0003_01.row.prog w) (ktrTop dp un gd cn cs L a ccd cl outer) (call (.ref 41) [.int v t]) Q E s :=
  Calls.use (signed_raw w mean mg mb v t news h0 h1) B F X N T hk hd hu fun r news' h' tk' F' N' ⟨z, t', e, e2, e3, e4, e5⟩ => e ▸ k z t' h' tk' e3 e4 e5 F' (e2 ▸ N')
end
end
local macro_rules | `(tactic| walk_at "call ref") => `(tactic| (k_here; (with_reducible show wpAny _ _ (call (Value.ref 41) _) _ _ _); k_dflt (
  refine' signed_k ?h0 ?h1 ?k1 ?k2 ?k3 ?k4 ?k5 ?kK ?kD ?kE ?_; (case h0 => first | assumption | omega); (case h1 => first | assumption | omega); (case k1 => k_asm); (case k2 => k_asm); (case k3 => k_asm); (case k4 => k_asm); (case k5 => k_asm); (case kK => first | exact rfl | assumption); (case kD => walk_at "nm room"); (case kE => walk_at "nm units"); k_whole; intro z' t' h' tk' zf' z0' z1' F' N'; (try k_sweep); (try dsimp only))))
section
def SymOut (nm : Str) (v : Int) (x : Str) : Prop :=
  ∃ z : Int, z.fmod 4294967296 = v.fmod 4294967296 ∧ -2147483648 ≤ z ∧ z < 2147483648 ∧ ((z = 0 ∧ x = nm) ∨ (0 < z ∧ x = nm ++ Str.ofString "+" ++ tx z) ∨ (z < 0 ∧ x = nm ++ Str.ofString "-" ++ tx (-z)))
local macro_rules | `(tactic| walk_at "binaryOp Add str str") => `(tactic| (k_here; refine Hold.out ?_))
set_option maxRecDepth 100000 in
set_option maxHeartbeats 8000000 in
theorem sym_raw (w : World) (mean : ExcName → Option Value) (mg mb : Names) (nm : Str) (v : Int) (t u : Tok) (news : Led) (hn : nm.length ≤ 900) (h0 : -10000000000 ≤ v) (h1 : v ≤ 10000000000) :
    Calls w mean mg mb 48 2 news [.str nm t, .int v u] (fun r news' => ∃ x t', r = .str x t' ∧ news' = news ∧ SymOut nm v x) := by
  w_top off
  have hrw : PySem.Challenge.rw_nm0003_01 = PySem.Challenge.rw_nm0003_01 := rfl
  revert hrw
  unfold Calls
  k_fill
  intro _
  intro dp un gd cn cs a ccd cl outer A₀ base h₀ L m s Q E B F X N T hk hd hu hret
  refine wpAny_call ?_
  k_dflt cell_enter
  (walk_at "nm steps")
  · exact hret _ _ _ _ (by k_asm) (by k_asm) ⟨_, _, rfl, rfl, _, by assumption, by assumption, by assumption, .inl ⟨by assumption, rfl⟩⟩
  all_goals (refine Hold.mk ?_; refine add_t (by omega) (by decide) ?_; intro _ _; (walk_at "nm steps"))
  · rename (0 : Int) < _ => hz9
    refine Hold.mk ?_
    rw [if_neg (by omega)]
    refine add_t (by rw [PySem.Str.length_append]; have : (Str.ofString "+").length = 1 := by decide
                     omega) (Nat.le_trans (toString_length_le (k := 10) (by omega) (by decide) (by omega)) (by decide)) ?_
    intro _ _
    (walk_at "nm steps")
    exact hret _ _ _ _ (by k_asm) (by k_asm) ⟨_, _, rfl, rfl, _, by assumption, by assumption, by assumption, .inr (.inl ⟨hz9, rfl⟩)⟩
  · rename ¬ (0 : Int) < _ => hz9
    rename _ ≠ (0 : Int) => hz8
    refine Hold.mk ?_
    rw [if_pos (by omega)]
    refine add_t (by rw [PySem.Str.length_append]; have : (Str.ofString "-").length = 1 := by decide
                     omega) (Nat.le_trans (toString_length_le (k := 10) (by omega) (by decide) (by omega)) (by decide)) ?_
    intro _ _
    (walk_at "nm steps")
    exact hret _ _ _ _ (by k_asm) (by k_asm) ⟨_, _, rfl, rfl, _, by assumption, by assumption, by assumption, .inr (.inr ⟨by omega, rfl⟩)⟩
end
section
open PySem.Calls
def cutAt (h : Heap) (n : Nat) : Heap := ⟨h.objs.extract 0 n, h.life⟩
theorem cutAt_size {h : Heap} {n : Nat} (hn : n ≤ h.objs.size) : (cutAt h n).objs.size = n := by simp [cutAt]; omega
theorem cutAt_get {h : Heap} {n b : Nat} (hb : b < n) : (cutAt h n).get? b = h.get? b := by
  unfold Heap.get? cutAt
  have : (h.objs.extract 0 n)[b]? = h.objs[b]? := by
    rw [Array.getElem?_extract]
    simp
    intro h
    exact Nat.le_of_not_lt fun hc => absurd h (by omega)
  simp only [this]
theorem of_cutAt {h : Heap} {n b : Nat} {o : Obj} (e : (cutAt h n).get? b = some o) : b < n ∧ h.get? b = some o := by
  have hlt : b < n := by
    have h1 : b < (h.objs.extract 0 n).size := Heap.lt_size e
    rw [Array.size_extract] at h1
    exact Nat.lt_of_lt_of_le h1 (by omega)
  exact ⟨hlt, by rw [← cutAt_get hlt]; exact e⟩
theorem frame_in {base h₀ g h₁ : Heap} {envs : List Env} {A : Around} {L L' : Addr} {m mm mg mb : Names} {cells own rest : Led} {K : Frag} {p : Program} {loose : List Str} {mean : ExcName → Option Value}
    (FG : Fr h₀ L g m) (F' : Fr g L' h₁ mm) (N' : News g L' h₁ (cells ++ (own ++ rest))) (B : Below A base envs g) (X : K.In g) (T : Top p loose mean mg mb g)
    (l1 : ∀ q ∈ own ++ rest, q.1 < L') (lc : ∀ q ∈ cells, L' ≤ q.1) (off : ∀ q ∈ rest, ∀ o ∈ own, q.1 ≠ o.1) :
    ∃ g', Fr h₀ L g' m ∧ Fr g' L' h₁ mm ∧ News g' L' h₁ (cells ++ own) ∧ Below A base envs g' ∧ K.In g' ∧ Top p loose mean mg mb g' ∧ (∀ q ∈ rest, g'.get? q.1 = some q.2) ∧
      ∀ (R : Result → Shared → Prop) v s', LeaveK h₀ L m g' (fun r s' => (∀ q ∈ rest, s'.heap.get? q.1 = some q.2) → R r s') v s' → LeaveK h₀ L m g R v s' := by
  have hL' : L' < h₁.objs.size := F'.ns.lt
  have hsz : (hideAll (cutAt h₁ L') (own.map (·.1))).objs.size = L' := by rw [hideAll_size, cutAt_size (Nat.le_of_lt hL')]
  have sub : ∀ b o, (hideAll (cutAt h₁ L') (own.map (·.1))).get? b = some o → b < L' ∧ h₁.get? b = some o := fun b o e => of_cutAt (of_hideAll _ e)
  have up : ∀ b o, g.get? b = some o → (hideAll (cutAt h₁ L') (own.map (·.1))).get? b = some o := by
    intro b o e
    have hb : b < L' := Nat.lt_of_lt_of_le (Heap.lt_size e) F'.above
    refine hideAll_get _ (by rw [cutAt_get hb]; exact F'.keep b o e) fun hm => ?_
    obtain ⟨q, hq, rfl⟩ := List.mem_map.mp hm
    have := (N' q (List.mem_append.mpr (.inr (List.mem_append.mpr (.inl hq))))).2.2
    rw [this] at e; cases e
  have hrest : ∀ q ∈ rest, (hideAll (cutAt h₁ L') (own.map (·.1))).get? q.1 = some q.2 := by
    intro q hq
    have hmem : q ∈ cells ++ (own ++ rest) := List.mem_append.mpr (.inr (List.mem_append.mpr (.inr hq)))
    refine hideAll_get _ (by rw [cutAt_get (l1 q (List.mem_append.mpr (.inr hq)))]; exact (N' q hmem).1) fun hm => ?_
    obtain ⟨o, ho, e⟩ := List.mem_map.mp hm
    exact off q hq o ho e.symm
  refine ⟨hideAll (cutAt h₁ L') (own.map (·.1)), ?_, ?_, ?_, ?_, X.keeps up, T.keeps up, hrest, ?_⟩
  · obtain ⟨oL, es, ep, hL, hLd, hLk, hLf⟩ := FG.ns
    exact ⟨⟨oL, es, ep, up _ _ hL, hLd, hLk, hLf⟩, fun b o e => up b o (FG.keep b o e), FG.above⟩
  · exact ⟨F'.ns, fun b o e => (sub b o e).2, Nat.le_of_eq hsz⟩
  · intro q hq
    rcases List.mem_append.mp hq with h | h
    · refine ⟨(N' q (List.mem_append.mpr (.inl h))).1, (N' q (List.mem_append.mpr (.inl h))).2.1, ?_⟩
      cases e : (hideAll (cutAt h₁ L') (own.map (·.1))).get? q.1 with
      | none => rfl
      | some o => exact absurd (sub _ _ e).1 (Nat.not_lt.mpr (lc q h))
    · have hmem : q ∈ cells ++ (own ++ rest) := List.mem_append.mpr (.inr (List.mem_append.mpr (.inl h)))
      exact ⟨(N' q hmem).1, (N' q hmem).2.1, hideAll_none _ (List.mem_map_of_mem h)⟩
  · exact ⟨B.stack, fun b o e => up b o (B.stays b o e), B.frames.of_keeps fun b o e _ => ⟨o, up b o e, rfl⟩⟩
  · intro R v s' hl
    obtain ⟨L'', m'', news'', F'', N'', k⟩ := hl
    have hLL : L' ≤ L'' := hsz ▸ F''.above
    have keepR : ∀ q ∈ rest, s'.heap.get? q.1 = some q.2 := fun q hq => F''.keep _ _ (hrest q hq)
    refine ⟨L'', m'', news'' ++ rest, ⟨F''.ns, fun b o e => F''.keep b o (up b o e), Nat.le_trans F'.above hLL⟩, ?_, ?_⟩
    · intro q hq
      rcases List.mem_append.mp hq with h | h
      · refine ⟨(N'' q h).1, (N'' q h).2.1, ?_⟩
        cases e : g.get? q.1 with
        | none => rfl
        | some o => have := (N'' q h).2.2; rw [up _ _ e] at this; cases this
      · refine ⟨keepR q h, Nat.ne_of_lt (Nat.lt_of_lt_of_le (l1 q (List.mem_append.mpr (.inr h))) hLL), ?_⟩
        exact (N' q (List.mem_append.mpr (.inr (List.mem_append.mpr (.inr h))))).2.2
    · intro Fm Nm
      exact k Fm (fun q hq => Nm q (List.mem_append.mpr (.inl hq))) keepR
section
variable {prog : Program} {w : World} {A₀ A : Around} {s : Shared} {base h₀ : Heap} {outer : List Env} {L : Addr} {m mg mb : Names} {env : Env} {own rest : Led} {K : Frag} {p : Program} {loose : List Str} {mean : ExcName → Option Value}
  {R : Result → Shared → Prop} {name qual : Str} {params : Arguments} {body : List Stmt} {scope : Scope} {dV kV doc pm cdv ct oc : Value} {an od : Option Addr} {osl : Array (Option Value)} {f : Addr} {args : Args} {binds : List (Str × Value)}
theorem enterF (B : Below A₀ base outer h₀) (F : Fr h₀ L s.heap m) (X₀ : K.In h₀) (N : News h₀ L s.heap (own ++ rest)) (T : Top p loose mean mg mb h₀) (off : ∀ q ∈ rest, ∀ o ∈ own, q.1 ≠ o.1)
    (hA : A.frames = some (env :: outer)) (hf : env.frame = some L) (hke : env.scope.kind = .function)
    (ho : K.lookup f = some ⟨oc, od, .func (fnOf name qual params body scope dV kV doc pm an cdv ct), osl⟩) (hcd : codeIn K cdv qual = true) (hroom : A.depth < recursionLimit)
    (hbind : BindsTo s (fnOf name qual params body scope dV kV doc pm an cdv ct) args binds) (hloc : ∀ y ∈ binds, scope.names.lookup y.1 = some .local)
    (h : ∀ g L' h₁, let aA := A.deeper (envOf qual scope L' f cdv); let mM : Names := fun y => binds.reverse.lookup y; Fr h₀ L g m → Fr g L' h₁ mM → News g L' h₁ own → Below A base (env :: outer) g → K.In g → Top p loose mean mg mb g → (∀ q ∈ own, q.1 < L') → (∀ q ∈ rest, g.get? q.1 = some q.2) →
      wpAny (model prog w) aA (execs body (envOf qual scope L' f cdv))
        (fun fl s' => LeaveK h₀ L m g (fun r s' => (∀ q ∈ rest, s'.heap.get? q.1 = some q.2) → R r s') (match fl with | .ret v => v | _ => .none) s')
        (fun e s' => wpAny (model prog w) aA (leaving (envOf qual scope L' f cdv) e) (fun _ s'' => R (.error e) s'') (fun e' s'' => R (.error e') s'') s')
        { s with heap := h₁, toks := s.toks + binds.length })
    (hco : scope.isCoroutine = false) (hgen : scope.isGenerator = false) (hk : scope.kind = .function)
    (hcell : ∀ x ∈ scope.names, x.2 ≠ .cell) : codeAny (model prog w) A (.call (.ref f) args) R s := by
  refine callX_plain (cl := []) B F N T.nolimit hA hf hke ((X₀.keeps F.keep) _ _ ho) rfl (codeRec_of (X₀.keeps F.keep) hcd) hroom hbind hloc (fun g L' h₁ FG F' N' B' st l1 => ?_) hcell hco hgen hk
  obtain ⟨g', FG2, F2, N2, B2, X2, T2, hr2, lv⟩ := frame_in (cells := []) FG F' N' B' (X₀.keeps st) (T.keeps st) l1 (fun _ h => nomatch h) off
  exact wpAny_mono (h g' L' h₁ FG2 F2 N2 B2 X2 T2 (fun q hq => l1 q (List.mem_append.mpr (.inl hq))) hr2) (fun fl s' hl => lv _ _ _ hl) fun _ _ e => e
theorem enterFC (B : Below A₀ base outer h₀) (F : Fr h₀ L s.heap m) (X₀ : K.In h₀) (N : News h₀ L s.heap (own ++ rest)) (T : Top p loose mean mg mb h₀) (off : ∀ q ∈ rest, ∀ o ∈ own, q.1 ≠ o.1)
    (hA : A.frames = some (env :: outer)) (hf : env.frame = some L) (hke : env.scope.kind = .function)
    (ho : K.lookup f = some ⟨oc, od, .func (fnOf name qual params body scope dV kV doc pm an cdv ct), osl⟩) (hcd : codeIn K cdv qual = true) (hroom : A.depth < recursionLimit)
    (hbind : BindsTo s (fnOf name qual params body scope dV kV doc pm an cdv ct) args binds) (hkind : (binds.all fun y => scope.names.lookup y.1 == some .local || scope.names.lookup y.1 == some .cell) = true)
    (hnd : ((cellsFrom 0 scope.names []).map (·.1)).Nodup)
    (h : ∀ g L' h₁ tk cells, let aA := A.deeper (envOfC qual scope L' f cdv); let mM : Names := bindL (envOfC qual scope L' f cdv).kindOf binds fun _ => none; Fr h₀ L g m → Fr g L' h₁ mM → News g L' h₁ (cells ++ own) →
      CellsAre (bindC (envOfC qual scope L' f cdv).kindOf binds fun _ => none) (cellsFrom (L' + 1) scope.names []) cells → Below A base (env :: outer) g → K.In g → Top p loose mean mg mb g → (∀ q ∈ own, q.1 < L') → (∀ q ∈ rest, g.get? q.1 = some q.2) →
      wpAny (model prog w) aA (execs body (envOfC qual scope L' f cdv))
        (fun fl s' => LeaveK h₀ L m g (fun r s' => (∀ q ∈ rest, s'.heap.get? q.1 = some q.2) → R r s') (match fl with | .ret v => v | _ => .none) s')
        (fun e s' => wpAny (model prog w) aA (leaving (envOfC qual scope L' f cdv) e) (fun _ s'' => R (.error e) s'') (fun e' s'' => R (.error e') s'') s')
        { s with heap := h₁, toks := tk })
    (hcl : ∀ (L' : Addr) (mc : Names) cells, CellsAre mc (cellsFrom (L' + 1) scope.names []) cells → ∀ q ∈ cells, L' ≤ q.1)
    (hco : scope.isCoroutine = false) (hgen : scope.isGenerator = false) (hk : scope.kind = .function) : codeAny (model prog w) A (.call (.ref f) args) R s := by
  refine code_defC B F X₀ N T hA hf hke ho hcd hroom hbind hkind hnd (fun g L' h₁ tk cells FG F' N' Y B' X' T' l1 => ?_) hco hgen hk
  obtain ⟨g', FG2, F2, N2, B2, X2, T2, hr2, lv⟩ := frame_in FG F' N' B' X' T' l1 (hcl _ _ _ Y) off
  exact wpAny_mono (h g' L' h₁ tk cells FG2 F2 N2 Y B2 X2 T2 (fun q hq => l1 q (List.mem_append.mpr (.inl hq))) hr2) (fun fl s' hl => lv _ _ _ hl) fun _ _ e => e
end
def CallsF (w : World) (mean : ExcName → Option Value) (mg mb : Names) (f : Addr) (dq : Nat) (own : Led) (vs : List Value) (Post : Value → Led → Prop) : Prop :=
  ∀ rest : Led, (∀ q ∈ rest, ∀ o ∈ own, q.1 ≠ o.1) → Calls w mean mg mb f dq (own ++ rest) vs (fun r news' => ∃ own', news' = own' ++ rest ∧ (∀ q ∈ rest, ∀ o ∈ own', q.1 ≠ o.1) ∧ Post r own')
theorem callsF_end {h₀ h' g : Heap} {L L'' : Addr} {m m'' : Names} {s : Shared} {own rest own' all : Led} {Post : Value → Led → Prop} {Q : Value → Shared → Prop} {r : Value} {tk' : Nat}
    (hret : ∀ r news' h' tk', Fr h₀ L h' m → News h₀ L h' news' → (∃ own', news' = own' ++ rest ∧ (∀ q ∈ rest, ∀ o ∈ own', q.1 ≠ o.1) ∧ Post r own') → Q r { s with heap := h', toks := tk' })
    (N : News h₀ L s.heap (own ++ rest)) (hRg : ∀ q ∈ rest, g.get? q.1 = some q.2) (kF : Fr h₀ L h' m) (kN : News h₀ L h' all) (sub : ∀ q ∈ own', q ∈ all) (hp : Post r own') (F' : Fr g L'' h' m'') (N' : News g L'' h' all) :
    Q r { s with heap := h', toks := tk' } := by
  refine hret r (own' ++ rest) h' tk' kF (fun q hq => ?_) ⟨own', rfl, fun q hq o ho e => ?_, hp⟩
  · rcases List.mem_append.mp hq with h | h
    · exact kN q (sub q h)
    · exact ⟨F'.keep _ _ (hRg q h), (N q (List.mem_append.mpr (.inr h))).2⟩
  · have h1 := (N' o (sub o ho)).2.2
    rw [← e, hRg q hq] at h1
    cases h1
theorem CallsF.use {w : World} {mean : ExcName → Option Value} {mg mb : Names} {f : Addr} {dq : Nat} {own rest : Led} {vs : List Value} {Post : Value → Led → Prop}
    {dp un : Nat} {gd : Option (List Code)} {cn : Str} {cs : Scope} {a : Addr} {ccd : Value} {cl : List (Str × Addr)} {outer : List Env} {A₀ : Around} {base h₀ : Heap} {L : Addr} {m : Names} {s : Shared} {Q E : Value → Shared → Prop}
    (C : CallsF w mean mg mb f dq own vs Post)
    (B : Below A₀ base outer h₀) (F : Fr h₀ L s.heap m) (X : (Nm.hd.heap_39 w.params).In h₀) (N : News h₀ L s.heap (own ++ rest)) (off : ∀ q ∈ rest, ∀ o ∈ own, q.1 ≠ o.1)
    (T : Top Nm.hd.view_39 (looseW Nm.hd.view_39 []) mean mg mb h₀) (hk : cs.kind = .function) (hd : dp + dq < recursionLimit) (hu : un + 1000 * dq < cLine)
    (k : ∀ r own' h' tk', Fr h₀ L h' m → News h₀ L h' (own' ++ rest) → (∀ q ∈ rest, ∀ o ∈ own', q.1 ≠ o.1) → Post r own' → Q r { s with heap := h', toks := tk' }) :
    wpAny (model PySem.Challenge.rw_nm0003_01.row.prog w) (ktrTop dp un gd cn cs L a ccd cl outer) (call (.ref f) vs) Q E s :=
  Calls.use (C rest off) B F X N T hk hd hu fun r news' h' tk' F' N' ⟨own', e, ho, hp⟩ => k r own' h' tk' F' (e ▸ N') ho hp
theorem off1_of {l : Addr} : ∀ {news : Led}, (∀ q ∈ news, q.1 ≠ l) → LCg.Off1 l news
  | [], _ => trivial
  | q :: r, h => ⟨h q (.head _), off1_of fun q hq => h q (.tail _ hq)⟩
theorem off1_one {l : Addr} {o : Obj} {news : Led} (h : ∀ q ∈ news, ∀ p ∈ [(l, o)], q.1 ≠ p.1) : LCg.Off1 l news := off1_of fun q hq => h q hq _ (.head _)
end
section
open PySem.Calls PySem.Spec
set_option maxRecDepth 100000
theorem ns_val_of {K : Frag} {h : Heap} {N : Addr} {mg : Str → Option Value} {n : Str} {r : Option Value} (X : K.In h) (G : h.Ns N mg) (e : nsIn K N n = some r) : mg n = r := by
  obtain ⟨o, es, ep, ho, hd, _, hf⟩ := G
  unfold nsIn at e
  split at e
  · rename_i c d es' n' sl q
    have := X _ _ q
    rw [ho] at this
    cases this
    cases hd
    rw [← hf]
    unfold nsFind findBy
    split at e
    · rename_i en he
      cases e
      rw [← Array.find?_toList, he]; rfl
    · rename_i he
      split at e
      · cases e
      · cases e
        rw [← Array.find?_toList, he]; rfl
  · cases e
abbrev cfObj : Obj := excClassObj (Str.ofString "CodeFault") (Str.ofString "CodeFault") 31 30 [.type "Exception"] [.type "Exception", .type "BaseException", .type "object"] true [] [] false none none (some (.ref 15)) none (some (.str (Str.ofString "CodeFault") 189)) (some (.str (Str.ofString "CodeFault") 197)) (some (.bool true)) "Exception.__new__"
theorem cf_at (P : Params) : (Nm.hd.heap_39 P).lookup 31 = some cfObj := by rfl
theorem nsOk_of {K : Frag} {N : Addr} {c : Value} {d : Option Addr} {es : Array DictEntry} {n : Nat} {sl : Array (Option Value)} (e : K.lookup N = some ⟨c, d, .dict es n, sl⟩) (h : (es.toList.all fun e => match e.key with | .str _ _ => true | _ => false) = true) : nsOkIn K N = true := by
  unfold nsOkIn
  rw [e]
  dsimp only
  rw [← Array.all_toList]
  exact h
theorem cf_ns (P : Params) : nsOkIn (Nm.hd.heap_39 P) 30 = true := nsOk_of (by rfl) (by rfl)
theorem cf_init (P : Params) : nsIn (Nm.hd.heap_39 P) 30 (Str.ofString "__init__") = some (some (.ref 28)) := by rfl
theorem cf_sa (P : Params) : nsIn (Nm.hd.heap_39 P) 30 (Str.ofString "__setattr__") = some none := by rfl
theorem cf_word (P : Params) : nsIn (Nm.hd.heap_39 P) 30 (Str.ofString "word") = some none := by rfl
theorem cf_hC {P : Params} {h : Heap} (X : (Nm.hd.heap_39 P).In h) : h.get? 31 = some cfObj := X _ _ (cf_at P)
theorem cf_hN {P : Params} {h : Heap} (X : (Nm.hd.heap_39 P).In h) : h.Ns 30 (h.nsMap 30) := .of_isNs (isNs_of_in X (cf_ns P))
theorem exc_word : typeLookup (.type "Exception") (Str.ofString "word") = pure none := by rw [typeLookup_type, builtinLookup_eq_fast]; kernel_rfl
abbrev excO (t : Addr) (d : Option Addr) : Obj := { cls := .ref 31, dict := d, data := .fields #[.ref t, .none, .none, .none, .bool false, .none] }
section
variable {prog : Program} {w : World} {A : Around} {E : Value → Shared → Prop} {s : Shared} {h₀ : Heap} {L : Addr} {m : Names} {news : Led}
theorem excInit_k {P : Params} {e t : Addr} {x : Value} {Q : Value → Shared → Prop} (X : (Nm.hd.heap_39 P).In h₀) (F : Fr h₀ L s.heap m) (N : News h₀ L s.heap ((e, excO t none) :: news)) (off : ∀ q ∈ news, q.1 ≠ e)
    (h : ∀ t' h', Fr h₀ L h' m → News h₀ L h' ((e, excO t' none) :: news) → Q .none { s with heap := h' }) :
    wpAny (model prog w) A (call (.builtin "Exception.__init__") [.ref e, x]) Q E s := by
  obtain ⟨hp, g, d, tk, os⟩ := s
  have FE := PySem.F.excBase_Exception
  have he := (N _ (.head _)).1
  have hn0 := (N _ (.head _)).2.2
  have hL := (N _ (.head _)).2.1
  dsimp only at he hn0 hL F N h
  refine wpAny_call (codeAny_call_builtin FE.init.plain FE.initEntry (wpAny_check_init_sub FE (cf_hC (X.keeps F.keep)) he rfl ?_))
  wp_walk
  have hes : e < hp.objs.size := Heap.lt_size he
  have F1 : Fr h₀ L (hp.push { cls := .type "tuple", data := .seq #[x] }) m := F.push _
  have he1 := Heap.get?_push_of_some { cls := .type "tuple", data := .seq #[x] } he
  refine h hp.objs.size _ (F1.change (Heap.SameBut.update ..) hL hn0) ?_
  intro q hq
  rcases List.mem_cons.mp hq with rfl | hq
  · exact ⟨(Heap.get?_update_self _ he1 rfl).trans rfl, hL, hn0⟩
  · have hN := N q (.tail _ hq)
    exact ⟨(Heap.get?_update_other _ _ (off q hq).symm).trans (Heap.get?_push_of_some _ hN.1), hN.2⟩
theorem excWord_k {P : Params} {e t : Addr} {x : Value} {Q : Unit → Shared → Prop} (X : (Nm.hd.heap_39 P).In h₀) (F : Fr h₀ L s.heap m) (N : News h₀ L s.heap ((e, excO t none) :: news)) (off : ∀ q ∈ news, q.1 ≠ e)
    (h : ∀ d h' tk', Fr h₀ L h' m → News h₀ L h' ((e, excO t (some d)) :: news) → Q () { s with heap := h', toks := tk' }) :
    wpAny (model prog w) A (setAttr (.ref e) (Str.ofString "word") x) Q E s := by
  obtain ⟨hp, g, d, tk, os⟩ := s
  have he := (N _ (.head _)).1
  have hn0 := (N _ (.head _)).2.2
  have hL := (N _ (.head _)).2.1
  dsimp only at he hn0 hL F N h
  have X' := X.keeps F.keep
  have h31 : h₀.get? 31 = some cfObj := cf_hC X
  have hxC : e ≠ 31 := by
    rintro rfl
    rw [h31] at hn0; cases hn0
  refine store_attr (ns := []) (mA := fun _ => none) PySem.F.store_Exception (cf_hC X') (cf_hN X') (ns_val_of X' (cf_hN X') (cf_sa P)) (ns_val_of X' (cf_hN X') (cf_word P)) exc_word hxC ⟨_, he, rfl, (fun _ q => by cases q), .inl ⟨rfl, fun _ => rfl⟩⟩ ?_ ?_ (by decide)
  · intro h' tk' I' hk hs
    obtain ⟨o1, a1, a2, a3, a4, a5⟩ := hs _ he
    obtain ⟨o2, b1, b2, b3, b4⟩ := I'
    obtain rfl : o1 = o2 := Option.some.inj (a1.symm.trans b1)
    rcases b4 with ⟨_, b5⟩ | ⟨dx, b5, _⟩
    · have := b5 (Str.ofString "word"); simp at this
    · have hk' : ∀ b o, b ≠ e → hp.get? b = some o → h'.get? b = some o := fun b o hb e1 => hk b o hb (fun o₀ d' q1 q2 => by
        obtain rfl := Option.some.inj (he.symm.trans q1)
        cases q2) e1
      have ho1 : o1 = excO t (some dx) := by
        obtain ⟨c, dd, da, sl⟩ := o1
        dsimp only at a2 a3 a4 b5
        subst a2 a3 a4 b5
        rfl
      refine h dx h' tk' ?_ ?_
      · obtain ⟨oL, es, ep, q1, q2⟩ := F.ns
        exact ⟨⟨oL, es, ep, hk' _ _ hL.symm q1, q2⟩, fun b o q => hk' b o (fun z => by rw [z, hn0] at q; cases q) (F.keep b o q), F.above⟩
      · intro q hq
        rcases List.mem_cons.mp hq with rfl | hq
        · exact ⟨by rw [a1, ho1], hL, hn0⟩
        · have hN := N q (.tail _ hq)
          exact ⟨hk' _ _ (off q hq) hN.1, hN.2⟩
  · exact Within.nil
end
end
section
theorem cf_fn (P : Params) : ∃ oI, (Nm.hd.heap_39 P).lookup 28 = some oI ∧ oI.cls = .type "function" := ⟨_, by rfl, by rfl⟩
theorem exc_findCls (P : Params) : findCls (Nm.hd.heap_39 P) (.type "Exception") (.type "type") (Str.ofString "__init__") = some (.val (.builtin "Exception.__init__")) := by rfl
local macro_rules | `(tactic| walk_at "getMethod type:Exception") => `(tactic| (k_here; refine Hold.out ?_))
local macro_rules | `(tactic| walk_at "call builtin:Exception.__init__") => `(tactic| (k_here; refine Hold.out ?_))
local macro_rules | `(tactic| walk_at "setAttr ref") => `(tactic| (k_here; refine Hold.out ?_))
set_option maxRecDepth 100000 in
set_option maxHeartbeats 8000000 in
theorem cf_raw (w : World) (mean : ExcName → Option Value) (mg mb : Names) (x : Str) (tx : Tok) (news : Led) :
    Calls w mean mg mb 31 3 news [.str x tx] (fun r news' => ∃ e t d, r = .ref e ∧ news' = (e, excO t (some d)) :: news ∧ ∀ q ∈ news, q.1 ≠ e) := by
  w_top off
  have hrw : PySem.Challenge.rw_nm0003_01 = PySem.Challenge.rw_nm0003_01 := rfl
  revert hrw
  unfold Calls
  k_fill
  intro _
  intro dp un gd cn cs a ccd cl outer A₀ base h₀ L m s Q E B F X N T hk hd hu hret
  obtain ⟨hp, g, d, tk, os⟩ := s
  obtain ⟨oI, hI, hIc⟩ := cf_fn w.params
  have X' := X.keeps F.keep
  refine wpAny_call_exc_init PySem.F.excBase_Exception (cf_hC X') (cf_hN X') (ns_val_of X' (cf_hN X') (cf_init _)) (X' _ _ hI) hIc ?_ (by rw [sizeLine_eq]; simp)
  rintro h' e ⟨k1, k2, t, he, ht0, ht⟩
  have hn0 : h₀.get? e = none := by
    cases q : h₀.get? e with
    | none => rfl
    | some o => have := F.keep _ _ q; dsimp only at this; rw [k2] at this; cases this
  have off : ∀ q ∈ news, q.1 ≠ e := fun q hq z => by have := (N q hq).1; dsimp only at this; rw [z, k2] at this; cases this
  have F1 : Fr h₀ L h' m := F.keeps k1
  have N1 : News h₀ L h' ((e, excO t none) :: news) := News.more F1 (fun q hq => ⟨k1 _ _ (N q hq).1, (N q hq).2⟩) he (fun _ _ q => by cases q) hn0
  clear F N X' hI hIc
  refine wpAny_call ?_
  k_dflt (refine' code_def ?k1 ?k2 ?k3 ?k4 ?k5 ?kA ?kF ?kK ?k6 ?k7 ?k8 ?k9 ?kB ?_ ?c2 ?c3 ?c4 ?c5; (case kA => exact rfl); (case kF => exact rfl); (case kK => first | assumption | rfl); (case k1 => k_asm); (case k2 => exact F1); (case k3 => k_asm); (case k4 => exact N1); (case k5 => k_asm); (case k6 => k_is); (case k7 => k_is); (case k8 => walk_at "nm room"); (case k9 => exact BindsTo.of_eq rfl); (case c5 => decide); (case kB => exact locs rfl); (case c2 => exact rfl); (case c3 => exact rfl); (case c4 => exact rfl); k_whole; intro g' L' h' FG' F' N' B' X' T'; (try dsimp only); (try k_lift B'); (try k_fold))
  (walk_at "nm steps")
  refine Hold.mk ?_
  refine' method_type (K := Nm.hd.heap_39 w.params) ?mF ?mX ?mm (by decide +kernel) (exc_findCls _) ?mh ?_
  case mF => k_asm
  case mX => k_asm
  case mm => rfl
  case mh => k_handed
  (walk_at "nm steps")
  refine Hold.mk ?_
  rename News _ _ _ _ => lN'
  rename Fr _ _ _ _ => lF'
  refine excInit_k (P := w.params) (by k_asm) lF' lN' off ?_
  intro t2 h2 F2 N2
  (walk_at "nm steps")
  refine Hold.mk ?_
  refine excWord_k (P := w.params) (by k_asm) (by k_asm) (by k_asm) off ?_
  intro d3 h3 tk3 F3 N3
  (walk_at "nm steps")
  exact hret _ _ _ _ (by k_asm) (by k_asm) ⟨e, _, _, rfl, rfl, off⟩
end
section
open PySem.Calls PySem.Spec
set_option maxRecDepth 100000
section
variable {M : Model} {A : Around} {E : Value → Shared → Prop} {s : Shared} {env : Env}
theorem raiseStmt_cf {x : Sem Value} {Q : Flow → Shared → Prop} (hh : A.handled = none)
    (h : wpAny M A x (fun v s₁ => ∃ e t d, v = .ref e ∧ s₁.heap.get? 31 = some cfObj ∧ s₁.heap.get? e = some (excO t (some d)) ∧ E (.ref e) s₁) E s) :
    wpAny M A (raiseStmt env (some x) none) Q E s := by
  have hcB : (Value.ref 31 :: [.type "Exception", .type "BaseException", .type "object"]).contains (.type "BaseException") = true := by decide
  unfold raiseStmt
  refine wpAny_bind (wpAny_mono h (fun v s₁ h₁ => ?_) fun _ _ x => x)
  obtain ⟨e, t, d, rfl, hC, he, hE⟩ := h₁
  obtain ⟨hp, g, dr, tk, os⟩ := s₁
  repeat (first | with_reducible refine wpAny_loadPart_at he ?_ | with_reducible refine wpAny_loadPart_at hC ?_ | (with_reducible refine wpAny_isSubtype_exc hC ?_; rw [hcB]) | wp_step)
  exact wpAny_raiseNew_none hh hE
theorem raise_cf {x : Expr} {pos : Pos} {Q : Flow → Shared → Prop} (hh : A.handled = none)
    (h : wpAny M A (eval x env) (fun v s₁ => ∃ e t d, v = .ref e ∧ s₁.heap.get? 31 = some cfObj ∧ s₁.heap.get? e = some (excO t (some d)) ∧ E (.ref e) s₁) E s) :
    wpAny M A (exec (.Raise (some x) none pos) env) Q E s := by
  rw [arm_exec_Raise]
  first
    | exact wpAny_bind (wpAny_standAt (raiseStmt_cf hh (wpAny_bind (wpAny_mono h (fun v s₁ h₁ => wpAny_bind (wpAny_standAt (wpAny_pure h₁))) fun _ _ x => x))))
    | (simp only [evalOpt, Option.map]; exact wpAny_bind (wpAny_standAt (raiseStmt_cf hh (wpAny_bind (wpAny_mono h (fun v s₁ h₁ => wpAny_bind (wpAny_standAt (wpAny_pure h₁))) fun _ _ x => x)))))
    | (show wpAny M A (do standAt pos; raiseStmt env (some (do let v ← eval x env; standAt pos; pure v)) none) Q E s; exact wpAny_bind (wpAny_standAt (raiseStmt_cf hh (wpAny_bind (wpAny_mono h (fun v s₁ h₁ => wpAny_bind (wpAny_standAt (wpAny_pure h₁))) fun _ _ x => x)))))
end
section
variable {M : Model} {A : Around} {E : Value → Shared → Prop} {s' : Shared} {base g : Heap} {outer : List Env} {L a e : Addr} {m : Names} {name : Str} {scope : Scope} {cd : Value} {Q : Unit → Shared → Prop} {news : Led}
theorem leave_ownS {oe : Obj} {cls a0 : Value} {vs : Array Value} (K : Below A base outer g) (F : Fr g L s'.heap m) (N : News g L s'.heap ((e, oe) :: news)) (off : ∀ q ∈ news, q.1 ≠ e)
    (hcls : oe.cls = cls) (hd : oe.data = .fields vs) (h1 : vs[1]? = some .none) (h0 : vs[0]? = some a0)
    (hQ : ∀ h', RaisedSN base g outer e cls news h' → g.UpToSlots h' → Q () { s' with heap := h' }) (hk : scope.kind = .function := by rfl) :
    wpAny M (A.deeper (envOf name scope L a cd)) (leaving (envOf name scope L a cd) (.ref e)) Q E s' := by
  have K' := K.push (name := name) (a := a) (cd := cd) F hk
  have he := (N _ (.head _)).1
  have heL := (N _ (.head _)).2.1
  have heg := (N _ (.head _)).2.2
  dsimp only at he heL heg
  have heb : base.get? e = none := fresh_of_stays K.stays heg
  have hin : ∀ env ∈ (envOf name scope L a cd :: outer), ∀ b, env.frame = some b → b ∈ e :: (envOf name scope L a cd :: outer).filterMap (·.frame) := fun env he b hb => .tail _ (List.mem_filterMap.mpr ⟨env, he, hb⟩)
  have st : base.StaysIn (hideAll s'.heap (e :: (envOf name scope L a cd :: outer).filterMap (·.frame))) := fun b o q => hideAll_get _ (K'.stays b o q) fun hm => by
    rcases List.mem_cons.mp hm with rfl | hm
    · rw [heb] at q; cases q
    · rw [(K'.frames.mem hm).1] at q; cases q
  have sg : ∀ b o, g.get? b = some o → b ∉ outer.filterMap (·.frame) → (hideAll s'.heap (e :: (envOf name scope L a cd :: outer).filterMap (·.frame))).get? b = some o := fun b o q nm => hideAll_get _ (F.keep b o q) fun hm => by
    rcases List.mem_cons.mp hm with rfl | hm
    · rw [heg] at q; cases q
    · rcases kts_mem hm with z | z
      · rw [z, kts_self F] at q; cases q
      · exact nm z
  have hl : ∀ q ∈ news, (hideAll s'.heap (e :: (envOf name scope L a cd :: outer).filterMap (·.frame))).get? q.1 = some q.2 ∧ g.get? q.1 = none ∧ base.get? q.1 = none := fun q hq => by
    have hN := N q (.tail _ hq)
    refine ⟨hideAll_get _ hN.1 fun hm => ?_, hN.2.2, fresh_of_stays K.stays hN.2.2⟩
    rcases List.mem_cons.mp hm with z | hm
    · exact off q hq z
    obtain ⟨env, he, hf⟩ := List.mem_filterMap.mp hm
    rcases List.mem_cons.mp he with rfl | he
    · exact hN.2.1 (Option.some.inj hf).symm
    · obtain ⟨o, ho, _⟩ := (K.frames.mem (List.mem_filterMap.mpr ⟨env, he, hf⟩)).2
      rw [hN.2.2] at ho; cases ho
  have hen : (hideAll s'.heap (e :: (envOf name scope L a cd :: outer).filterMap (·.frame))).get? e = none := hideAll_none _ (.head _)
  refine wpAny_leaving_firstW (a0 := a0) K'.stack (funFrames_hide K'.frames hin) rfl he (fun b o hb => of_hideAll _ hb) hen hd h1 h0 fun h' hL => ?_
  obtain ⟨k1, ⟨_, _, k2⟩, k3, k4⟩ := hL
  exact hQ h' ⟨_, a0, st, sg, hl, k1, hen, k2, by rw [← hcls]; exact k3⟩ ((Heap.UpToSlots.of_keeps F.keep).trans k4)
end
section
variable {prog : Program} {w : World} {A₀ : Around} {E : Value → Shared → Prop} {s' : Shared} {base g g₀ G : Heap} {outer : List Env} {L a e : Addr} {m : Names} {name : Str} {scope : Scope} {cd : Value}
  {b₀ : Stmt} {suite : List Stmt} {pos np : Pos} {rest : List ExceptHandler} {Q : Flow → Shared → Prop} {news : Led}
  {p : Program} {loose : List Str} {mean : ExcName → Option Value} {mg mb : Names} {x : Str} {P : Params}
theorem caught_cfS (R : RaisedSN base G (envOf name scope L a cd :: outer) e (.ref 31) news s'.heap) (F : Fr g L G m) (K : Below A₀ base outer g) (hsm : G.UpToSlots s'.heap) (XB : (Nm.hd.heap_39 P).In base) (TB : Top p loose mean mg mb base)
    (D : KtsDicts (outer.filterMap (·.frame)) g) (ex : nsIn (Nm.hd.heap_39 P) mainGlobals x = some (some (.ref 31)))
    (k : ∀ h' g', KtsTurn (outer.filterMap (·.frame)) g g' → Fr g' L h' m → News g' L h' news → Below A₀ base outer g' → (Nm.hd.heap_39 P).In g' → Top p loose mean mg mb g' → KtsDicts (outer.filterMap (·.frame)) g' →
      wpAny (model prog w) ((A₀.deeper (envOf name scope L a cd)).mark (some (.ref e))) (execs (b₀ :: suite) (envOf name scope L a cd)) Q E { s' with heap := h' })
    (hk : scope.kind = .function := by rfl) (hx : (envOf name scope L a cd).kindOf x = some .globalImplicit := by rfl) (hd : (x == ("__debug__" : Str)) = false := by decide)
    (hE : PassesOwnAt (model prog w) ((A₀.deeper (envOf name scope L a cd)).mark (some (.ref e))) (A₀.deeper (envOf name scope L a cd)) (envOf name scope L a cd) E := by passes_own) :
    wpAny (model prog w) (A₀.deeper (envOf name scope L a cd)) (noteFrame (.ref e) (envOf name scope L a cd))
      (fun _ s₂ => wpAny (model prog w) (A₀.deeper (envOf name scope L a cd)) (setFlight (.ref e) none) (fun _ s₃ =>
        wpAny (model prog w) (A₀.deeper (envOf name scope L a cd)) (handleBy (.ref e) (envOf name scope L a cd) (.ExceptHandler (some (.Name x np)) none (b₀ :: suite) pos :: rest)) Q E s₃) E s₂) E s' := by
  obtain ⟨B, a0, hB, hBG, hl, hfl⟩ := R
  have hL : B.get? L = none := by
    obtain ⟨_, ⟨L', _, hf, hn', _⟩, _⟩ := hfl.2.2.1
    obtain rfl : L = L' := Option.some.inj hf
    exact hn'
  refine wpAny_looks_onW (Around.frames_deeper K.stack) rfl hfl fun h₄ hheld₄ hsm₄ => ?_
  refine wpAny_landsW hheld₄ fun h₅ hheld hsm₅' => ?_
  have hsm₅ := hsm₄.trans hsm₅'
  obtain ⟨g₅, T₅, F₅, K₅⟩ := kts_ground K F hBG hheld.1 (hsm.trans hsm₅)
  have X₅ : (Nm.hd.heap_39 P).In g₅ := XB.keeps K₅.stays
  have P₅ : TopRead p loose mg mb g₅ := topRead_of (TB.keeps K₅.stays)
  obtain ⟨ob, hob, hobc⟩ := hheld.there
  refine wpAny_handleBy_cons (codeAny_handlers_test (name_K F₅ X₅ P₅ ex ?_ hk hx hd)) (by intro q; cases q)
  refine wpAny_excMatches_sub_self (cf_hC (X₅.keeps F₅.keep)) hob hobc (by decide) (codeAny_handlers_suite ?_)
  refine lands_againW hheld fun h₆ hfl₆ hsm₆ => ?_
  obtain ⟨g₆, T₆, F₆, K₆⟩ := kts_ground K F hBG hfl₆.1 ((hsm.trans hsm₅).trans hsm₆)
  have Nl : News g₆ L h₆ news := fun q hq => ⟨hfl₆.1 _ _ (hl q hq).1, (fun z => by have := (hl q hq).1; rw [z, hL] at this; cases this), T₆.none_ _ (kts_none F.keep (hl q hq).2.1)⟩
  have X₆ : (Nm.hd.heap_39 P).In g₆ := XB.keeps K₆.stays
  have P₆ : Top p loose mean mg mb g₆ := TB.keeps K₆.stays
  have D₆ : KtsDicts (outer.filterMap (·.frame)) g₆ := D.turn T₆
  exact wpAny_passesOwnAt hE (k h₆ g₆ T₆ F₆ Nl K₆ X₆ P₆ D₆)
end
end
section
structure NumOk (v : Int) : Prop where
  lo : 0 ≤ v
  hi : v < 10 ^ 10
  len : (tx v).length ≤ 1000
  sl : (Txt.slice (tx v) none (some 1) == Str.ofString "-") = false
  ne : (tx v == Str.ofString "") = false
  fig : nonFig (tx v) = []
  ok : ∀ y ∈ nonFig (tx v), PyData.strOk y = true
structure NoNum (x : Str) : Prop where
  len : x.length ≤ 1000
  sl : (Txt.slice x none (some 1) == Str.ofString "-") = false
  ne : (x == Str.ofString "") = false
  fig : nonFig x ≠ []
  ok : ∀ y ∈ nonFig x, PyData.strOk y = true
theorem num_int_u (w : World) (mean : ExcName → Option Value) (mg mb : Names) (v : Int) (t : Tok) (news : Led) (h : NumOk v) :
    Calls w mean mg mb 94 1 news [.str (tx v) t] (fun r news' => (∃ t, r = .int v t) ∧ news' = news) := num_int w mean mg mb v t news h.lo h.hi h.len h.sl h.ne h.fig h.ok
theorem num_none_u (w : World) (mean : ExcName → Option Value) (mg mb : Names) (x : Str) (t : Tok) (news : Led) (h : NoNum x) :
    Calls w mean mg mb 94 1 news [.str x t] (fun r news' => r = .none ∧ news' = news) := num_none w mean mg mb x t news h.len h.sl h.ne h.fig h.ok
section
variable {w : World} {mean : ExcName → Option Value} {mg mb : Names} {dp un : Nat} {gd : Option (List Code)} {cn : Str} {cs : Scope} {a : Addr} {ccd : Value} {cl : List (Str × Addr)} {outer : List Env} {A₀ : Around} {base h₀ : Heap} {L : Addr} {m : Names} {s : Shared} {Q E : Value → Shared → Prop} {news rest own : Led}
theorem num_int_k {v : Int} {t : Tok} (h : NumOk v) (B : Below A₀ base outer h₀) (F : Fr h₀ L s.heap m) (X : (Nm.hd.heap_39 w.params).In h₀) (N : News h₀ L s.heap news)
    (T : Top Nm.hd.view_39 (looseW Nm.hd.view_39 []) mean mg mb h₀) (hk : cs.kind = .function) (hd : dp + 1 < recursionLimit) (hu : un + 1000 * 1 < cLine)
    (k : ∀ t' h' tk', Fr h₀ L h' m → News h₀ L h' news → Q (.int v t') { s with heap := h', toks := tk' }) :
    wpAny (model PySem.Challenge.rw_nm0003_01.row.prog w) (ktrTop dp un gd cn cs L a ccd cl outer) (call (.ref 94) [.str (tx v) t]) Q E s :=
  Calls.use (num_int_u w mean mg mb v t news h) B F X N T hk hd hu fun r news' h' tk' F' N' ⟨⟨t', e⟩, e2⟩ => e ▸ k t' h' tk' F' (e2 ▸ N')
theorem num_none_k {x : Str} {t : Tok} (h : NoNum x) (B : Below A₀ base outer h₀) (F : Fr h₀ L s.heap m) (X : (Nm.hd.heap_39 w.params).In h₀) (N : News h₀ L s.heap news)
    (T : Top Nm.hd.view_39 (looseW Nm.hd.view_39 []) mean mg mb h₀) (hk : cs.kind = .function) (hd : dp + 1 < recursionLimit) (hu : un + 1000 * 1 < cLine)
    (k : ∀ h' tk', Fr h₀ L h' m → News h₀ L h' news → Q .none { s with heap := h', toks := tk' }) :
    wpAny (model PySem.Challenge.rw_nm0003_01.row.prog w) (ktrTop dp un gd cn cs L a ccd cl outer) (call (.ref 94) [.str x t]) Q E s :=
  Calls.use (num_none_u w mean mg mb x t news h) B F X N T hk hd hu fun r news' h' tk' F' N' ⟨e, e2⟩ => e ▸ k h' tk' F' (e2 ▸ N')
end
end
local macro_rules | `(tactic| walk_at "call ref") => `(tactic| (k_here; (with_reducible show wpAny _ _ (call (Value.ref 94) _) _ _ _); k_dflt (first
  | (refine' num_int_k ?kN ?k1 ?k2 ?k3 ?k4 ?k5 ?kK ?kD ?kE ?_; (case kN => assumption); (case k1 => k_asm); (case k2 => k_asm); (case k3 => k_asm); (case k4 => k_asm); (case k5 => k_asm); (case kK => first | exact rfl | assumption); (case kD => walk_at "nm room"); (case kE => walk_at "nm units"); k_whole; intro t' h' tk' F' N'; (try k_sweep); (try dsimp only))
  | (refine' num_none_k ?kN ?k1 ?k2 ?k3 ?k4 ?k5 ?kK ?kD ?kE ?_; (case kN => assumption); (case k1 => k_asm); (case k2 => k_asm); (case k3 => k_asm); (case k4 => k_asm); (case k5 => k_asm); (case kK => first | exact rfl | assumption); (case kD => walk_at "nm room"); (case kE => walk_at "nm units"); k_whole; intro h' tk' F' N'; (try k_sweep); (try dsimp only)))))
section
abbrev tupO (vs : List Value) : Obj := { cls := .type "tuple", data := .seq vs.toArray }
set_option maxRecDepth 100000 in
set_option maxHeartbeats 8000000 in
theorem addr_plain (w : World) (mean : ExcName → Option Value) (mg mb : Names) (nm : Str) (t : Tok) (hx : nm.length ≤ 1000)
    (p1 : Txt.partition nm (Str.ofString "+") = (nm, Str.empty, Str.empty)) (p2 : Txt.partition nm (Str.ofString "-") = (nm, Str.empty, Str.empty))
    (e0 : (Str.empty == Str.ofString "") = true) (n1 : (nm == Str.ofString "") = false)
    (n2 : (Builtin.Str.occurrences (Str.ofString "0123456789") (Txt.item nm 0) 0 (Str.ofString "0123456789").length 1).isEmpty = true) :
    CallsF w mean mg mb 101 2 [] [.str nm t]
      (fun r own' => ∃ D t1 t2, r = .ref D ∧ own' = [(D, tupO [.str nm t1, .int (Int.fmod 0 4294967296) t2])]) := by
  w_top off
  have hrw : PySem.Challenge.rw_nm0003_01 = PySem.Challenge.rw_nm0003_01 := rfl
  revert hrw
  unfold CallsF
  unfold Calls
  k_fill
  intro _ rest off
  intro dp un gd cn cs a ccd cl outer A₀ base h₀ L m s Q E B F X N T hk hd hu hret
  refine wpAny_call ?_
  k_dflt (refine' enterF (rest := rest) ?k1 ?k2 ?k3 ?k4 ?k5 ?kO ?kA ?kF ?kK ?k6 ?k7 ?k8 ?k9 ?kB ?_ ?c2 ?c3 ?c4 ?c5; (case kA => exact rfl); (case kF => exact rfl); (case kK => assumption); (case kO => exact off); (case k1 => k_asm); (case k2 => k_asm); (case k3 => k_asm); (case k4 => exact N); (case k5 => k_asm); (case k6 => k_is); (case k7 => k_is); (case k8 => walk_at "nm room"); (case k9 => exact BindsTo.of_eq rfl); (case c5 => decide); (case kB => exact locs rfl); (case c2 => exact rfl); (case c3 => exact rfl); (case c4 => exact rfl); k_whole; intro g' L' h' aA mM FG' F' N' B' X' T' l1 hRg; (try k_lt l1); (try dsimp only); (try k_lift B'); (try k_fold))
  (walk_at "nm steps")
  · skip
    exact callsF_end hret N hRg (by k_asm) (by k_asm) (own' := [_]) (fun q hq => by rw [List.mem_singleton.mp hq]; k_mem) ⟨_, _, _, rfl, rfl⟩ (by k_asm) (by k_asm)
set_option maxRecDepth 100000 in
set_option maxHeartbeats 8000000 in
theorem addr_plus (w : World) (mean : ExcName → Option Value) (mg mb : Names) (x nm : Str) (v : Int) (t : Tok) (hx : x.length ≤ 1000) (hn : nm.length ≤ 1000) (hv : NumOk v) (hs : (Txt.slice (tx v) none (some 1) == Str.ofString "-") = false) (hl : (tx v).length ≤ 1000)
    (p1 : Txt.partition x (Str.ofString "+") = (nm, Str.ofString "+", tx v)) (p2 : Txt.partition x (Str.ofString "-") = (x, Str.empty, Str.empty))
    (e0 : (Str.empty == Str.ofString "") = true) (n1 : (nm == Str.ofString "") = false)
    (n2 : (Builtin.Str.occurrences (Str.ofString "0123456789") (Txt.item nm 0) 0 (Str.ofString "0123456789").length 1).isEmpty = true) :
    CallsF w mean mg mb 101 2 [] [.str x t]
      (fun r own' => ∃ D t1 t2, r = .ref D ∧ own' = [(D, tupO [.str nm t1, .int (Int.fmod v 4294967296) t2])]) := by
  w_top off
  have hrw : PySem.Challenge.rw_nm0003_01 = PySem.Challenge.rw_nm0003_01 := rfl
  revert hrw
  unfold CallsF
  unfold Calls
  k_fill
  intro _ rest off
  intro dp un gd cn cs a ccd cl outer A₀ base h₀ L m s Q E B F X N T hk hd hu hret
  refine wpAny_call ?_
  k_dflt (refine' enterF (rest := rest) ?k1 ?k2 ?k3 ?k4 ?k5 ?kO ?kA ?kF ?kK ?k6 ?k7 ?k8 ?k9 ?kB ?_ ?c2 ?c3 ?c4 ?c5; (case kA => exact rfl); (case kF => exact rfl); (case kK => assumption); (case kO => exact off); (case k1 => k_asm); (case k2 => k_asm); (case k3 => k_asm); (case k4 => exact N); (case k5 => k_asm); (case k6 => k_is); (case k7 => k_is); (case k8 => walk_at "nm room"); (case k9 => exact BindsTo.of_eq rfl); (case c5 => decide); (case kB => exact locs rfl); (case c2 => exact rfl); (case c3 => exact rfl); (case c4 => exact rfl); k_whole; intro g' L' h' aA mM FG' F' N' B' X' T' l1 hRg; (try k_lt l1); (try dsimp only); (try k_lift B'); (try k_fold))
  (walk_at "nm steps")
  · skip
    exact callsF_end hret N hRg (by k_asm) (by k_asm) (own' := [_]) (fun q hq => by rw [List.mem_singleton.mp hq]; k_mem) ⟨_, _, _, rfl, rfl⟩ (by k_asm) (by k_asm)
set_option maxRecDepth 100000 in
set_option maxHeartbeats 8000000 in
theorem addr_minus (w : World) (mean : ExcName → Option Value) (mg mb : Names) (x nm : Str) (v : Int) (t : Tok) (hx : x.length ≤ 1000) (hn : nm.length ≤ 1000) (hv : NumOk v) (hs : (Txt.slice (tx v) none (some 1) == Str.ofString "-") = false) (hl : (tx v).length ≤ 1000)
    (p1 : Txt.partition x (Str.ofString "+") = (x, Str.empty, Str.empty)) (p2 : Txt.partition x (Str.ofString "-") = (nm, Str.ofString "-", tx v))
    (e0 : (Str.empty == Str.ofString "") = true) (n1 : (nm == Str.ofString "") = false)
    (n2 : (Builtin.Str.occurrences (Str.ofString "0123456789") (Txt.item nm 0) 0 (Str.ofString "0123456789").length 1).isEmpty = true) :
    CallsF w mean mg mb 101 2 [] [.str x t]
      (fun r own' => ∃ D t1 t2, r = .ref D ∧ own' = [(D, tupO [.str nm t1, .int (Int.fmod (-v) 4294967296) t2])]) := by
  w_top off
  have hrw : PySem.Challenge.rw_nm0003_01 = PySem.Challenge.rw_nm0003_01 := rfl
  revert hrw
  unfold CallsF
  unfold Calls
  k_fill
  intro _ rest off
  intro dp un gd cn cs a ccd cl outer A₀ base h₀ L m s Q E B F X N T hk hd hu hret
  refine wpAny_call ?_
  k_dflt (refine' enterF (rest := rest) ?k1 ?k2 ?k3 ?k4 ?k5 ?kO ?kA ?kF ?kK ?k6 ?k7 ?k8 ?k9 ?kB ?_ ?c2 ?c3 ?c4 ?c5; (case kA => exact rfl); (case kF => exact rfl); (case kK => assumption); (case kO => exact off); (case k1 => k_asm); (case k2 => k_asm); (case k3 => k_asm); (case k4 => exact N); (case k5 => k_asm); (case k6 => k_is); (case k7 => k_is); (case k8 => walk_at "nm room"); (case k9 => exact BindsTo.of_eq rfl); (case c5 => decide); (case kB => exact locs rfl); (case c2 => exact rfl); (case c3 => exact rfl); (case c4 => exact rfl); k_whole; intro g' L' h' aA mM FG' F' N' B' X' T' l1 hRg; (try k_lt l1); (try dsimp only); (try k_lift B'); (try k_fold))
  (walk_at "nm steps")
  · skip
    exact callsF_end hret N hRg (by k_asm) (by k_asm) (own' := [_]) (fun q hq => by rw [List.mem_singleton.mp hq]; k_mem) ⟨_, _, _, rfl, rfl⟩ (by k_asm) (by k_asm)
end
section
theorem cf_name (P : Params) : nsIn (Nm.hd.heap_39 P) mainGlobals (Str.ofString "CodeFault") = some (some (.ref 31)) := by rfl
def RefusedK (w : World) (mean : ExcName → Option Value) (mg mb : Names) (P : Addr) (x : Str) (t0 t1 t2 : Tok) : Prop :=
  ∀ (rest : Led) (dp un : Nat) (gd : Option (List Code)) (cn : Str) (cs : Scope) (a : Addr) (ccd : Value) (A₀ : Around) (base h₀ : Heap) (L : Addr) (m : Names) (s : Shared) (Q E : Value → Shared → Prop),
    Below A₀ base [] h₀ → Fr h₀ L s.heap m → (Nm.hd.heap_39 w.params).In base → News h₀ L s.heap ((P, tupO [.str x t0, .int 4 t1, .int 1 t2]) :: rest) →
    Top Nm.hd.view_39 (looseW Nm.hd.view_39 []) mean mg mb base → cs.kind = .function → dp + 9 < recursionLimit → un + 1000 * 9 < cLine →
    (∀ h' tk', Fr h₀ L h' m → News h₀ L h' ((P, tupO [.str x t0, .int 4 t1, .int 1 t2]) :: rest) → Q (.bool true) { s with heap := h', toks := tk' }) →
    wpAny (model PySem.Challenge.rw_nm0003_01.row.prog w) (ktrTop dp un gd cn cs L a ccd [] []) (call (.ref 120) [.ref P]) Q E s
local macro_rules | `(tactic| walk_at "call ref") => `(tactic| (k_here; (first | with_reducible show wpAny _ _ (call (Value.ref 60) _) _ _ _ | with_reducible show wpAny _ _ (call (Value.ref 31) _) _ _ _); refine Hold.out ?_))
local macro_rules | `(tactic| walk_at "leaving ref") => `(tactic| (k_here; refine Hold.out ?_))
local macro_rules | `(tactic| walk_at "noteFrame ref") => `(tactic| (k_here; refine Hold.out ?_))
local macro_rules | `(tactic| walk_at "exec Raise some none") => `(tactic| (k_here; refine raise_cf rfl ?_))
local macro_rules | `(tactic| walk_at "binaryOp Add str str") => `(tactic| (k_here; (with_reducible show wpAny _ _ (binaryOp Operator.Add (Value.str _ _) (Value.str _ _)) _ _ _); (refine add_t (by first | assumption | decide) (by first | assumption | decide) ?_); intro _ _))
set_option maxRecDepth 100000 in
set_option maxHeartbeats 8000000 in
theorem refused_raw (w : World) (mean : ExcName → Option Value) (mg mb : Names) (P : Addr) (x : Str) (t0 t1 t2 : Tok) (hx : x.length ≤ 1000)
    (h1 : (x == Str.ofString "num") = false) (h2 : (x == Str.ofString "text") = false) (h3 : (x == Str.ofString "addr") = false) (h4 : (x == Str.ofString "gap") = false) : RefusedK w mean mg mb P x t0 t1 t2 := by
  w_top off
  have hrw : PySem.Challenge.rw_nm0003_01 = PySem.Challenge.rw_nm0003_01 := rfl
  revert hrw
  unfold RefusedK
  k_fill
  intro _ rest
  intro dp un gd cn cs a ccd A₀ base h₀ L m s Q E B F XB N TB hk hd hu hret
  have X := XB.keeps B.stays
  have T := TB.keeps B.stays
  refine wpAny_call ?_
  k_dflt (refine' code_defS0 ?k1 ?k2 ?k3 ?k4 ?k5 ?kA ?k6 ?k7 ?k8 ?k9 ?kB ?_ ?cK ?c2 ?c3 ?c4 ?c5; (case kA => exact rfl); (case k2 => k_asm); (case k1 => k_asm); (case k3 => exact X); (case k4 => k_asm); (case k5 => exact T); (case k6 => k_is); (case k7 => k_is); (case k8 => walk_at "nm room"); (case k9 => exact BindsTo.of_eq rfl); (case kB => exact locs rfl); (case cK => first | assumption | rfl); (case c2 => exact rfl); (case c3 => exact rfl); (case c4 => exact rfl); (case c5 => decide); k_whole; intro g' L' h' FG' F' N' B' X' T' D'; (try dsimp only); (try k_fold))
  (walk_at "nm steps")
  refine Hold.mk ?_
  refine wpAny_call ?_
  k_dflt (refine' code_def ?k1 ?k2 ?k3 ?k4 ?k5 ?kA ?kF ?kK ?k6 ?k7 ?k8 ?k9 ?kB ?_ ?c2 ?c3 ?c4 ?c5; (case kA => exact rfl); (case kF => exact rfl); (case kK => first | assumption | rfl); (case k1 => k_asm); (case k2 => k_asm); (case k3 => k_asm); (case k4 => k_asm); (case k5 => k_asm); (case k6 => k_is); (case k7 => k_is); (case k8 => walk_at "nm room"); (case k9 => exact BindsTo.of_eq rfl); (case c5 => decide); (case kB => exact locs rfl); (case c2 => exact rfl); (case c3 => exact rfl); (case c4 => exact rfl); k_whole; intro g2 L2 h2 FG2 F2 N2 B2 X2 T2; (try dsimp only); (try k_lift B2); (try k_fold))
  (walk_at "nm steps")
  refine Hold.mk ?_
  rename News _ _ _ _ => lN'
  rename Fr _ _ _ _ => lF'
  refine' Calls.use (cf_raw w mean mg mb _ _ _) ?k1 ?k2 ?k3 lN' ?k5 ?kK ?kD ?kE ?_
  case k1 => k_asm
  case k2 => exact lF'
  case k3 => k_asm
  case k5 => k_asm
  case kK => rfl
  case kD => walk_at "nm room"
  case kE => walk_at "nm units"
  rintro r3 news3 h3 tk3 F3 N3 ⟨e, t, d, rfl, rfl, off3⟩
  refine ⟨e, t, d, rfl, cf_hC (X2.keeps F3.keep), (N3 _ (.head _)).1, ?_⟩
  (walk_at "nm steps")
  refine Hold.mk ?_
  refine leave_ownS B2 F3 N3 off3 rfl rfl rfl rfl ?_
  intro h4 R4 U4
  (try dsimp only at R4 U4 ⊢)
  (walk_at "nm steps")
  refine Hold.mk ?_
  refine caught_cfS R4 FG2 B' U4 XB TB D' (cf_name _) ?_
  intro h5 g5 T5 F5 N5 B5 X5 Tp5 D5
  (walk_at "nm steps")
  exact hret _ _ (by k_asm) (by k_asm)
section
variable {w : World} {mean : ExcName → Option Value} {mg mb : Names} {dp un : Nat} {gd : Option (List Code)} {cn : Str} {cs : Scope} {a : Addr} {ccd : Value} {A₀ : Around} {base h₀ : Heap} {L : Addr} {m : Names} {s : Shared} {Q E : Value → Shared → Prop} {rest : Led}
theorem refused_k {P : Addr} {x : Str} {t0 t1 t2 : Tok} (hx : x.length ≤ 1000)
    (h1 : (x == Str.ofString "num") = false) (h2 : (x == Str.ofString "text") = false) (h3 : (x == Str.ofString "addr") = false) (h4 : (x == Str.ofString "gap") = false)
    (B : Below A₀ base [] h₀) (F : Fr h₀ L s.heap m) (XB : (Nm.hd.heap_39 w.params).In base) (N : News h₀ L s.heap ((P, tupO [.str x t0, .int 4 t1, .int 1 t2]) :: rest))
    (TB : Top Nm.hd.view_39 (looseW Nm.hd.view_39 []) mean mg mb base) (hk : cs.kind = .function) (hd : dp + 9 < recursionLimit) (hu : un + 1000 * 9 < cLine)
    (k : ∀ h' tk', Fr h₀ L h' m → News h₀ L h' ((P, tupO [.str x t0, .int 4 t1, .int 1 t2]) :: rest) → Q (.bool true) { s with heap := h', toks := tk' }) :
    wpAny (model PySem.Challenge.rw_nm0003_01.row.prog w) (ktrTop dp un gd cn cs L a ccd [] []) (call (.ref 120) [.ref P]) Q E s :=
  refused_raw w mean mg mb P x t0 t1 t2 hx h1 h2 h3 h4 rest dp un gd cn cs a ccd A₀ base h₀ L m s Q E B F XB N TB hk hd hu k
end
end
section
structure QSt where
  its : List Value
  k : Nat
  i : Nat
  t : Tok
def QP (body : Str) (c : QSt) : Prop := c.i ≤ body.length ∧ IntsAre c.its ((body.cps.toList.take c.i).map Int.ofNat)
section
variable {prog : Program} {w : World} {A : Around} {E : Value → Shared → Prop} {Q : Flow → Shared → Prop} {s : Shared} {env : Env} {h₀ : Heap} {L : Addr}
theorem quo_while {lf : Addr} {body : Str} {t0 : Tok} {test : Expr} {bd : List Stmt} {pos : Pos} {m₀ : Names} {news : Led}
    (F : Fr h₀ L s.heap m₀) (N : News h₀ L s.heap news) (hm : (lf, listOf #[] 0) ∈ news) (hat : m₀ (Str.ofString "at") = some (.int 1 t0))
    (turn : ∀ its k (i : Nat) t (u : Names) h tk, i ≤ body.length → IntsAre its ((body.cps.toList.take i).map Int.ofNat) →
      Fr h₀ L h (fun z => if z = Str.ofString "at" then some (.int ((i : Int) + 1) t) else if [Str.ofString "sign"].contains z then u z else m₀ z) → News h₀ L h [(lf, listOf its.toArray k)] →
      wpAny (model prog w) A (isTrue test env (eval test env)) (fun b s₂ =>
        if b = true then wpAny (model prog w) A (execs bd env) (KswPost h₀ L s (fun c : QSt => [(lf, listOf c.its.toArray c.k)]) (fun c => [(Str.ofString "at", .int ((c.i : Int) + 1) c.t)]) (fun _ => True) [Str.ofString "sign"] m₀ (QP body) (fun c => body.length - c.i) Q ⟨its, k, i, t⟩) E s₂ else Q .next s₂) E { s with heap := h, toks := tk })
    (hE : PassesOwn (model prog w) A env E := by passes_own) :
    wpAny (model prog w) A (exec (.While test bd [] pos) env) Q E s := by
  refine ksw_while (fun c : QSt => [(lf, listOf c.its.toArray c.k)]) (fun c => [(Str.ofString "at", .int ((c.i : Int) + 1) c.t)]) (fun _ => True) [Str.ofString "sign"] (QP body) (fun c => body.length - c.i) ⟨[], 0, 0, t0⟩ F ?_ trivial ?_ ⟨Nat.zero_le _, by simpa using IntsAre.nil⟩ ?_ hE
  · intro p hp; rw [List.mem_singleton.mp hp]; exact N _ hm
  · intro p hp; rw [List.mem_singleton.mp hp]; simpa using hat
  · rintro ⟨its, k, i, t⟩ u h tk _ ⟨hi, hits⟩ F' N'
    exact turn its k i t u h tk hi hits F' N'
theorem quo_turn {lf : Addr} {x body : Str} {m₀ m' : Names} {its : List Value} {k i c : Nat} {t t' tk : Tok} {tk' : Nat} {h' : Heap}
    (F' : Fr h₀ L h' m') (N' : News h₀ L h' [(lf, listOf (its.toArray.push (.int (((Txt.item x ((i : Int) + 1)).cps.getD 0 0 : Nat) : Int) tk)) (k + 1))])
    (hat : m' (Str.ofString "at") = some (.int ((i : Int) + 1 + 1) t')) (hr : ∀ z, z ≠ Str.ofString "at" → z ≠ Str.ofString "sign" → m' z = m₀ z)
    (hlt : i < body.length) (hits : IntsAre its ((body.cps.toList.take i).map Int.ofNat)) (hc : body.cps.toList[i]? = some c) (hit : Txt.item x ((i : Int) + 1) = ⟨#[c]⟩) :
    KswEnd h₀ L s (fun c : QSt => [(lf, listOf c.its.toArray c.k)]) (fun c => [(Str.ofString "at", .int ((c.i : Int) + 1) c.t)]) (fun _ => True) [Str.ofString "sign"] m₀ (QP body) (fun c => body.length - c.i) ⟨its, k, i, t⟩ { s with heap := h', toks := tk' } := by
  rw [hit] at N'
  refine ksw_end ⟨its ++ [.int (c : Int) tk], k + 1, i + 1, t'⟩ F' N' ?_ trivial ?_ ?_ ⟨hlt, ?_⟩ ?_
  · intro p hp
    rw [List.mem_singleton.mp hp]
    have e : (its ++ [Value.int (c : Int) tk]).toArray = its.toArray.push (.int (c : Int) tk) := by simp
    dsimp only
    rw [e]
    exact List.mem_singleton.mpr rfl
  · intro p hp
    rw [List.mem_singleton.mp hp]
    dsimp only
    rw [hat]
    have e : ((i + 1 : Nat) : Int) + 1 = (i : Int) + 1 + 1 := by omega
    rw [e]
  · intro z hz hs
    refine hr z (hz _ (.head _)) fun e => ?_
    rw [e] at hs
    exact absurd hs (by decide)
  · have e : (body.cps.toList.take (i + 1)).map Int.ofNat = (body.cps.toList.take i).map Int.ofNat ++ [(c : Int)] := by
      rw [List.take_add_one, hc]; simp
    rw [e]
    exact IntsAre.append hits (.cons _ _ .nil)
  · dsimp only; omega
end
local macro_rules | `(tactic| walk_at "exec While Compare cons nil") => `(tactic| (k_here; refine Hold.out ?_))
set_option maxRecDepth 100000 in
set_option maxHeartbeats 8000000 in
theorem quo_raw (w : World) (mean : ExcName → Option Value) (mg mb : Names) (x body : Str) (t : Tok) (hx : x.length ≤ 1000) (hlen : x.length = body.length + 2)
    (q0 : (Txt.item x 0 == Str.ofString "\"") = true) (q1 : (Txt.item x (-1) == Str.ofString "\"") = true)
    (qi : ∀ i : Nat, i < body.length → ∃ c, body.cps.toList[i]? = some c ∧ Txt.item x ((i : Int) + 1) = ⟨#[c]⟩ ∧ (Txt.item x ((i : Int) + 1) == Str.ofString "\"") = false ∧ (Txt.item x ((i : Int) + 1) == Str.ofString "\\") = false) :
    CallsF w mean mg mb 89 1 [] [.str x t]
      (fun r own' => ∃ l vs k, r = .ref l ∧ own' = [(l, listOf vs.toArray k)] ∧ IntsAre vs (body.cps.toList.map Int.ofNat)) := by
  w_top off
  have hrw : PySem.Challenge.rw_nm0003_01 = PySem.Challenge.rw_nm0003_01 := rfl
  revert hrw
  unfold CallsF
  unfold Calls
  k_fill
  intro _ rest off
  intro dp un gd cn cs a ccd cl outer A₀ base h₀ L m s Q E B F X N T hk hd hu hret
  refine wpAny_call ?_
  k_dflt (refine' enterF (rest := rest) ?k1 ?k2 ?k3 ?k4 ?k5 ?kO ?kA ?kF ?kK ?k6 ?k7 ?k8 ?k9 ?kB ?_ ?c2 ?c3 ?c4 ?c5; (case kA => exact rfl); (case kF => exact rfl); (case kK => assumption); (case kO => exact off); (case k1 => k_asm); (case k2 => k_asm); (case k3 => k_asm); (case k4 => exact N); (case k5 => k_asm); (case k6 => k_is); (case k7 => k_is); (case k8 => walk_at "nm room"); (case k9 => exact BindsTo.of_eq rfl); (case c5 => decide); (case kB => exact locs rfl); (case c2 => exact rfl); (case c3 => exact rfl); (case c4 => exact rfl); k_whole; intro g' L' h' aA mM FG' F' N' B' X' T' l1 hRg; (try k_lt l1); (try dsimp only); (try k_lift B'); (try k_fold))
  (walk_at "nm steps")
  refine Hold.mk ?_
  rename Fr _ _ _ _ => lF'
  rename News _ _ _ _ => lN'
  with_unfolding_all refine' quo_while (body := body) lF' lN' (.tail _ (.head _)) rfl ?_
  intro its k i t u h tk hi hits F' N'
  clear lF' lN'
  rcases Nat.lt_or_ge i body.length with hlt | hge
  · obtain ⟨c, hc, hit, h34, h92⟩ := qi i hlt
    clear qi
    (walk_at "nm steps")
    exact quo_turn (by assumption) (by assumption) rfl (by intro z h1 h2; simp [h1, h2]) hlt hits hc hit
  · clear qi
    have hie : i = body.length := Nat.le_antisymm hi hge
    (walk_at "nm steps")
    skip
    refine callsF_end hret N hRg (by k_asm) (by k_asm) (own' := [_]) (fun q hq => by rw [List.mem_singleton.mp hq]; k_mem) ⟨_, its, _, rfl, rfl, ?_⟩ (by k_asm) (by k_asm)
    have e : body.cps.toList.take i = body.cps.toList := by rw [hie]; exact List.take_of_length_le (by simp [Str.length])
    rw [e] at hits
    exact hits
end
section
section
open PyProof.V PySem.Spec PySem.Calls
variable {prog : Program} {w : World} {A : Around} {E : Value → Shared → Prop} {s : Shared} {env : Env} {h₀ : Heap} {x : Str} {body : List Stmt} {Q : Flow → Shared → Prop}
def TurnEndL {σ : Type} (h₀ : Heap) (L : Addr) (x : Str) (stored : List Str) (m₀ : Names) (Ld : σ → Led) (P : σ → Prop) (own : Led) (s₁ s₂ : Shared) : Prop :=
  ∃ c h' tk m', s₂ = { s₁ with heap := h', toks := tk } ∧ Fr h₀ L h' m' ∧ News h₀ L h' (Ld c ++ own) ∧ P c ∧ ∀ z, z ≠ x → stored.contains z = false → m' z = m₀ z
def TurnPostL {σ : Type} (h₀ : Heap) (L : Addr) (x : Str) (stored : List Str) (m₀ : Names) (Ld : σ → Led) (P : σ → Prop) (own : Led) (s₁ : Shared) (Q : Flow → Shared → Prop) (f : Flow) (s₂ : Shared) : Prop :=
  match f with
  | .ret v => Q (.ret v) s₂
  | .brk => Q .next s₂
  | _ => TurnEndL h₀ L x stored m₀ Ld P own s₁ s₂
theorem list_loop {σ : Type} {l : Addr} {vs : List Value} {nn : Nat} {m₀ : Names} {ad : List Addr} (Ld : σ → Led) (P : Nat → σ → Prop) (stored : List Str) (c₀ : σ)
    (hh : A.handled = none) (hl : ∀ c, (l, listOf vs.toArray nn) ∈ Ld c) (F : Fr h₀ env.locals s.heap m₀) (N : News h₀ env.locals s.heap (Ld c₀)) (had : ∀ c, (Ld c).map (·.1) = ad) (hp : P 0 c₀)
    (turn : ∀ (c : σ) (i : Nat) v (u : Names) h tk own, vs[i]? = some v → OwnOff own ad → P i c → Fr h₀ env.locals h (fun y => if y = x then some v else if stored.contains y then u y else m₀ y) → News h₀ env.locals h (Ld c ++ own) →
      wpAny (model prog w) A (execs body env) (TurnPostL h₀ env.locals x stored m₀ Ld (P (i + 1)) own { s with heap := h, toks := tk } Q) E { s with heap := h, toks := tk })
    (done : ∀ (c : σ) (u : Names) h tk, P vs.length c → Fr h₀ env.locals h (fun y => if y = x then u y else if stored.contains y then u y else m₀ y) → News h₀ env.locals h (Ld c) → Q .next { s with heap := h, toks := tk }) :
    wpAny (model prog w) A (pyIter (.ref l)) (fun it s₂ => LoopAtV prog w A h₀ env x body Q E it s₂) E s := by
  have key : ∀ (m₁ : Names) (v : Option Value), (∀ z, z ≠ x → stored.contains z = false → m₁ z = m₀ z) → (fun y => if y = x then v else m₁ y) = fun y => if y = x then v else if stored.contains y then m₁ y else m₀ y := by
    intro m₁ v hm; funext y; by_cases hy : y = x
    · simp [hy]
    · cases hs : stored.contains y with
      | true => simp [hy]
      | false => simp only [hy, if_false, Bool.false_eq_true]; exact hm y hy hs
  have keyd : ∀ (m₁ : Names), (∀ z, z ≠ x → stored.contains z = false → m₁ z = m₀ z) → (fun y => if y = x then m₁ y else if stored.contains y then m₁ y else m₀ y) = m₁ := by
    intro m₁ hm; funext y; by_cases hy : y = x
    · simp [hy]
    · cases hs : stored.contains y with
      | true => simp [hy]
      | false => simp only [hy, if_false, Bool.false_eq_true]; exact (hm y hy hs).symm
  refine kdl_iter (fun i m nx => ∃ c, nx = Ld c ∧ P i c ∧ ∀ z, z ≠ x → stored.contains z = false → m z = m₀ z) hh (hl c₀) F N ⟨c₀, rfl, hp, fun _ _ _ => rfl⟩ ?_ ?_
  · rintro i v m₁ nx h tk own hv hoff _ ⟨c, rfl, hP, hm⟩ F₁ N₁
    rw [key _ _ hm] at F₁
    rw [had c] at hoff
    refine wpAny_mono (turn c i v m₁ h tk own hv hoff hP F₁ N₁) (fun f s₂ p => ?_) fun _ _ e => e
    have fin : TurnEndL h₀ env.locals x stored m₀ Ld (P (i + 1)) own { s with heap := h, toks := tk } s₂ →
        InvEndG h₀ env.locals (fun m' nx => (l, listOf vs.toArray nn) ∈ nx ∧ ∃ c, nx = Ld c ∧ P (i + 1) c ∧ ∀ z, z ≠ x → stored.contains z = false → m' z = m₀ z) own { s with heap := h, toks := tk } s₂ := by
      rintro ⟨c', h', tk', m', e, F', N', hP', hm'⟩
      exact ⟨h', tk', m', _, Ld c', e, F', N', fun p hp => List.mem_append.mpr (.inl hp), fun p hp => List.mem_append.mpr (.inr hp), by rw [had c']; exact hoff, hl c', c', rfl, hP', hm'⟩
    cases f with
    | ret v => exact p
    | brk => exact p
    | next => exact fin p
    | cont => exact fin p
  · rintro m₁ nx h tk ⟨c, rfl, hP, hm⟩ F₁ N₁
    exact done c m₁ h tk hP (by rw [keyd _ hm]; exact F₁) N₁
end
theorem cellsFrom_ge {B : Nat} : ∀ (names : List (Str × NameKind)) (n : Nat) (acc : List (Str × Addr)), (∀ q ∈ acc, B ≤ q.2) → B ≤ n → ∀ q ∈ cellsFrom n names acc, B ≤ q.2
  | [], _, _, h, _ => h
  | (y, k) :: r, n, acc, h, hn => by
    unfold cellsFrom
    split
    · refine cellsFrom_ge r (n + 1) _ (fun q hq => ?_) (Nat.le_succ_of_le hn)
      rcases List.mem_cons.mp hq with rfl | hq
      · exact hn
      · exact h q hq
    · exact cellsFrom_ge r n acc h hn
theorem cells_over {mc : Names} : ∀ {cs : List (Str × Addr)} {cells : Led} {B : Addr}, CellsAre mc cs cells → (∀ q ∈ cs, B ≤ q.2) → ∀ q ∈ cells, B ≤ q.1
  | _, _, _, .nil, _, _, hq => (nomatch hq)
  | _, _, _, .cons _ r, h, q, hq => by
    rcases List.mem_cons.mp hq with rfl | hq
    · exact h _ (.head _)
    · exact cells_over r (fun q hq => h q (.tail _ hq)) q hq
section
variable {w : World} {mean : ExcName → Option Value} {mg mb : Names} {dp un : Nat} {gd : Option (List Code)} {cn : Str} {cs : Scope} {a : Addr} {ccd : Value} {cl : List (Str × Addr)} {outer : List Env} {A₀ : Around} {base h₀ : Heap} {L : Addr} {m : Names} {s : Shared} {Q E : Value → Shared → Prop} {news rest own : Led}
structure QuoOk (x body : Str) : Prop where
  len : x.length ≤ 1000
  two : x.length = body.length + 2
  q0 : (Txt.item x 0 == Str.ofString "\"") = true
  q1 : (Txt.item x (-1) == Str.ofString "\"") = true
  qi : ∀ i : Nat, i < body.length → ∃ c, body.cps.toList[i]? = some c ∧ Txt.item x ((i : Int) + 1) = ⟨#[c]⟩ ∧ (Txt.item x ((i : Int) + 1) == Str.ofString "\"") = false ∧ (Txt.item x ((i : Int) + 1) == Str.ofString "\\") = false
theorem quo_k {x body : Str} {t : Tok} (h : QuoOk x body) (B : Below A₀ base outer h₀) (F : Fr h₀ L s.heap m) (X : (Nm.hd.heap_39 w.params).In h₀) (N : News h₀ L s.heap news)
    (T : Top Nm.hd.view_39 (looseW Nm.hd.view_39 []) mean mg mb h₀) (hk : cs.kind = .function) (hd : dp + 1 < recursionLimit) (hu : un + 1000 * 1 < cLine)
    (k : ∀ l vs k' h' tk', IntsAre vs (body.cps.toList.map Int.ofNat) → LCg.Off1 l news → Fr h₀ L h' m → News h₀ L h' ((l, listOf vs.toArray k') :: news) → Q (.ref l) { s with heap := h', toks := tk' }) :
    wpAny (model PySem.Challenge.rw_nm0003_01.row.prog w) (ktrTop dp un gd cn cs L a ccd cl outer) (call (.ref 89) [.str x t]) Q E s :=
  CallsF.use (rest := news) (quo_raw w mean mg mb x body t h.len h.two h.q0 h.q1 h.qi) B F X N (fun _ _ _ h => nomatch h) T hk hd hu
    fun r own' h' tk' F' N' ho ⟨l, vs, k', e, e2, hi⟩ => e ▸ k l vs k' h' tk' hi (off1_one (e2 ▸ ho)) F' (by rw [e2] at N'; exact N')
end
end
local macro_rules | `(tactic| walk_at "call ref") => `(tactic| (k_here; (with_reducible show wpAny _ _ (call (Value.ref 89) _) _ _ _); k_dflt (
  refine' quo_k ?kN ?k1 ?k2 ?k3 ?k4 ?k5 ?kK ?kD ?kE ?_; (case kN => assumption); (case k1 => k_asm); (case k2 => k_asm); (case k3 => k_asm); (case k4 => k_asm); (case k5 => k_asm); (case kK => first | exact rfl | assumption); (case kD => walk_at "nm room"); (case kE => walk_at "nm units"); k_whole; intro l' vs' k' h' tk' hI' o1' F' N'; (try simp only [LCg.Off1, and_true] at o1'); (try k_sweep); (try dsimp only))))
section
theorem shl_lit {prog : Program} {w : World} {A : Around} {E : Value → Shared → Prop} {s : Shared} {n : Int} (r : Int) {t u : Tok} {Q : Value → Shared → Prop} (hn : 0 ≤ n) (hn2 : n ≤ 1000000) (e : 1 * 2 ^ n.toNat = r)
    (h : Q (.int r s.toks) { s with toks := s.toks + 1 }) : wpAny (model prog w) A (binaryOp .LShift (.int 1 t) (.int n u)) Q E s :=
  lshift_int_small hn hn2 (by decide) (by rw [e]; exact h)
theorem ext_k {prog : Program} {w : World} {A : Around} {E : Value → Shared → Prop} {s : Shared} {h₀ : Heap} {L D b : Addr} {m : Names} {news news' : Led} {us ys : List Value} {n n2 : Nat} {Q : Value → Shared → Prop} (F : Fr h₀ L s.heap m) (N : News h₀ L s.heap news) (hb : (b, listOf ys.toArray n2) ∈ news)
    (U : Upd D (listOf us.toArray n) (listOf (us ++ ys).toArray (n + 1)) news news') (hy : ys ≠ []) (hu : us.length ≤ 1000) (hy2 : ys.length ≤ 1000)
    (h : ∀ h', Fr h₀ L h' m → News h₀ L h' news' → Q .none { s with heap := h' }) : wpAny (model prog w) A (call (.builtin "list.extend") [.ref D, .ref b]) Q E s := by
  have hs : us.toArray.size + ys.toArray.size ≤ sizeLine := by rw [sizeLine_eq, List.size_toArray, List.size_toArray]; omega
  refine kl_extend (l := us ++ ys) F N hb (by simp) (by simpa using hy) U (extend_door hs) ?_ ?_ h
  · rw [sizeLine_eq]; simp; omega
  · omega
theorem IntsAre.ne {vs : List Value} {ns : List Int} (h : IntsAre vs ns) (hn : ns ≠ []) : vs ≠ [] := by
  intro e; subst e; cases h; exact hn rfl
end
local macro_rules | `(tactic| walk_at "binaryOp LShift int int") => `(tactic| (k_here; (with_reducible show wpAny _ _ (binaryOp Operator.LShift (Value.int 1 _) (Value.int _ _)) _ _ _); first
  | refine shl_lit 256 (by decide) (by decide) (by decide) ?_ | refine shl_lit 65536 (by decide) (by decide) (by decide) ?_ | refine shl_lit 4294967296 (by decide) (by decide) (by decide) ?_))
local macro_rules | `(tactic| walk_at "call builtin:list.extend") => `(tactic| (k_here; (with_reducible show wpAny _ _ (call (Value.builtin _) [Value.ref _, Value.ref _]) _ _ _); k_dflt (refine' ext_k (us := []) ?F ?N ?b ?U ?y ?z ?zz ?_; (case F => k_asm); (case N => k_asm); (case b => k_mem); (case U => k_upd); (case y => exact IntsAre.ne (by assumption) (by simp [rangeKs])); (case z => decide); (case zz => (rw [IntsAre.length (by assumption)]; simp [rangeKs]))); intro h' F' N'; (try dsimp only at N'); (try k_sweep)))
local macro_rules | `(tactic| walk_at "ite") => `(tactic| (k_here; k_openite; k_spoken; first
  | refine ite_pos (by (try simp only [decide_eq_true_eq]); omega) ?_
  | refine ite_neg (by (try simp only [decide_eq_true_eq]); omega) ?_))
section
def octE (n : Nat) (z : Int) : List Int := (rangeKs 0 n).map fun k => Builtin.bitAnd (z.fdiv (2 ^ (8 * k).toNat)) 255
theorem octE_of {n : Nat} {v r : Int} {ys : List Value} {m : Nat} (hn : m = n) (h0 : 0 ≤ v) (h1 : v < r)
    (h : IntsAre ys ((rangeKs 0 m).map fun k' => if 0 ≤ v.fmod r ∧ v.fmod r < r then Builtin.bitAnd ((v.fmod r).fdiv (2 ^ (8 * k').toNat)) 255 else k')) : IntsAre ys (octE n v) := by
  subst hn
  have e : v.fmod r = v := by rw [Int.fmod_eq_emod_of_nonneg _ (by omega)]; exact Int.emod_eq_of_lt h0 h1
  rw [e] at h
  have e2 : (rangeKs 0 m).map (fun k' => if 0 ≤ v ∧ v < r then Builtin.bitAnd (v.fdiv (2 ^ (8 * k').toNat)) 255 else k') = octE m v := by
    unfold octE
    exact List.map_congr_left fun k _ => if_pos ⟨h0, h1⟩
  rw [e2] at h
  exact h
theorem split_one {prog : Program} {w : World} {A : Around} {E : Value → Shared → Prop} {s : Shared} {h₀ : Heap} {L : Addr} {m : Names} {news : Led} {x y p : Str} {t u : Tok} {Q : Value → Shared → Prop} (hF : Fr h₀ L s.heap m) (hN : News h₀ L s.heap news) (hy : (y.length == 0) = false) (e : Txt.split x y = [p]) (hs : x.length ≤ 1000)
    (h : ∀ D tp h' k, Fr h₀ L h' m → News h₀ L h' ((D, listOf #[.str p tp] 0) :: news) → (∀ p ∈ news, p.1 < D) → Q (.ref D) { s with heap := h', toks := k }) :
    wpAny (model prog w) A (call (.builtin "str.split") [.str x t, .str y u]) Q E s := by
  refine KSpl.split1 hF hN hy (fun D l h' k el _ F' N' l1 => ?_) (by rw [sizeLine_eq]; omega)
  rw [e] at el
  obtain ⟨tp, l', rfl, el'⟩ := KSpl.cons_of el
  rw [KSpl.nil_of el'] at N'
  exact h D tp h' k F' N' l1
end
local macro_rules | `(tactic| walk_at "call builtin:str.split") => `(tactic| (k_here; (with_reducible show wpAny _ _ (call (Value.builtin "str.split") [Value.str _ _, Value.str _ _]) _ _ _); (refine split_one (by k_asm) (by k_asm) (by decide) (by assumption) (by assumption) ?_); intro D' _ _ _ F' N' l1; (try k_lt l1)))
section
set_option maxRecDepth 100000 in
set_option maxHeartbeats 8000000 in
theorem row_ascii (w : World) (mean : ExcName → Option Value) (mg mb : Names) (x y r q body : Str) (t : Tok) (n1 : x.length ≤ 1000) (n2 : y.length ≤ 1000) (n3 : r.length ≤ 1000)
    (e1 : Txt.strip x = y) (e2 : Txt.partition y (Str.ofString " ") = (Str.ofString ".ascii", Str.ofString " ", r)) (e3 : Txt.strip r = q) (hq : QuoOk q body) :
    CallsF w mean mg mb 106 2 [] [.str x t]
      (fun r own' => ∃ l vs k, r = .ref l ∧ own' = [(l, listOf vs.toArray k)] ∧ IntsAre vs (body.cps.toList.map Int.ofNat)) := by
  w_top off
  have hrw : PySem.Challenge.rw_nm0003_01 = PySem.Challenge.rw_nm0003_01 := rfl
  revert hrw
  unfold CallsF
  unfold Calls
  k_fill
  intro _ rest off
  intro dp un gd cn cs a ccd cl outer A₀ base h₀ L m s Q E B F X N T hk hd hu hret
  refine wpAny_call ?_
  k_dflt (refine' enterFC (rest := rest) ?k1 ?k2 ?k3 ?k4 ?k5 ?kO ?kA ?kF ?kK ?k6 ?k7 ?k8 ?k9 ?kB ?kD ?_ ?kL ?c2 ?c3 ?c4; (case kA => exact rfl); (case kF => exact rfl); (case kK => assumption); (case kO => exact off); (case k1 => k_asm); (case k2 => k_asm); (case k3 => k_asm); (case k4 => exact N); (case k5 => k_asm); (case k6 => k_is); (case k7 => k_is); (case k8 => walk_at "nm room"); (case k9 => exact BindsTo.of_eq rfl); (case kB => exact rfl); (case kD => decide +kernel); (case kL => exact fun L9 mc9 c9 Y9 => cells_over Y9 (cellsFrom_ge _ _ _ (fun _ h => nomatch h) (Nat.le_succ _))); (case c2 => exact rfl); (case c3 => exact rfl); (case c4 => exact rfl); k_whole; intro g' L' h' tk' cells' aA mM FG' F' N' Y' B' X' T' l1 hRg; (try k_lt l1); k_cells Y'; (try simp only [List.cons_append, List.nil_append] at N'); (try dsimp only); (try k_lift B'); (try k_fold))
  (walk_at "nm steps")
  skip
  exact callsF_end hret N hRg (by k_asm) (by k_asm) (own' := [_]) (fun q hq => by rw [List.mem_singleton.mp hq]; k_mem) ⟨_, _, _, rfl, rfl, by assumption⟩ (by k_asm) (by k_asm)
set_option maxRecDepth 100000 in
set_option maxHeartbeats 8000000 in
theorem row_space (w : World) (mean : ExcName → Option Value) (mg mb : Names) (x y : Str) (v : Int) (t : Tok) (n1 : x.length ≤ 1000) (n2 : y.length ≤ 1000) (n3 : (tx v).length ≤ 1000)
    (e1 : Txt.strip x = y) (e2 : Txt.partition y (Str.ofString " ") = (Str.ofString ".space", Str.ofString " ", tx v)) (hv : NumOk v) (h0 : 0 ≤ v) (h1 : v < 100000) :
    CallsF w mean mg mb 106 2 [] [.str x t]
      (fun r own' => ∃ l vs k, r = .ref l ∧ own' = [(l, listOf vs.toArray k)] ∧ IntsAre vs (List.replicate v.toNat 0)) := by
  w_top off
  have hrw : PySem.Challenge.rw_nm0003_01 = PySem.Challenge.rw_nm0003_01 := rfl
  revert hrw
  unfold CallsF
  unfold Calls
  k_fill
  intro _ rest off
  intro dp un gd cn cs a ccd cl outer A₀ base h₀ L m s Q E B F X N T hk hd hu hret
  refine wpAny_call ?_
  k_dflt (refine' enterFC (rest := rest) ?k1 ?k2 ?k3 ?k4 ?k5 ?kO ?kA ?kF ?kK ?k6 ?k7 ?k8 ?k9 ?kB ?kD ?_ ?kL ?c2 ?c3 ?c4; (case kA => exact rfl); (case kF => exact rfl); (case kK => assumption); (case kO => exact off); (case k1 => k_asm); (case k2 => k_asm); (case k3 => k_asm); (case k4 => exact N); (case k5 => k_asm); (case k6 => k_is); (case k7 => k_is); (case k8 => walk_at "nm room"); (case k9 => exact BindsTo.of_eq rfl); (case kB => exact rfl); (case kD => decide +kernel); (case kL => exact fun L9 mc9 c9 Y9 => cells_over Y9 (cellsFrom_ge _ _ _ (fun _ h => nomatch h) (Nat.le_succ _))); (case c2 => exact rfl); (case c3 => exact rfl); (case c4 => exact rfl); k_whole; intro g' L' h' tk' cells' aA mM FG' F' N' Y' B' X' T' l1 hRg; (try k_lt l1); k_cells Y'; (try simp only [List.cons_append, List.nil_append] at N'); (try dsimp only); (try k_lift B'); (try k_fold))
  (walk_at "nm steps")
  skip
  refine callsF_end hret N hRg (by k_asm) (by k_asm) (own' := [_]) (fun q hq => by rw [List.mem_singleton.mp hq]; k_mem) ⟨_, _, _, rfl, rfl, ?_⟩ (by k_asm) (by k_asm)
  have hi9 := (by assumption : IntsAre _ (List.replicate _ _).flatten)
  rw [List.flatten_replicate_singleton (a := (0 : Int))] at hi9
  exact hi9
set_option maxRecDepth 100000 in
set_option maxHeartbeats 8000000 in
theorem row_half (w : World) (mean : ExcName → Option Value) (mg mb : Names) (x y : Str) (v : Int) (t : Tok) (n1 : x.length ≤ 1000) (n2 : y.length ≤ 1000) (n3 : (tx v).length ≤ 1000)
    (e1 : Txt.strip x = y) (e2 : Txt.partition y (Str.ofString " ") = (Str.ofString ".half", Str.ofString " ", tx v)) (e3 : Txt.split (tx v) (Str.ofString ",") = [tx v]) (e4 : Txt.strip (tx v) = tx v) (hv : NumOk v) (h0 : 0 ≤ v) (h1 : v < 65536) :
    CallsF w mean mg mb 106 2 [] [.str x t]
      (fun r own' => ∃ l vs k, r = .ref l ∧ own' = [(l, listOf vs.toArray k)] ∧ IntsAre vs (octE 2 v)) := by
  w_top off
  have hrw : PySem.Challenge.rw_nm0003_01 = PySem.Challenge.rw_nm0003_01 := rfl
  revert hrw
  unfold CallsF
  unfold Calls
  k_fill
  intro _ rest off
  intro dp un gd cn cs a ccd cl outer A₀ base h₀ L m s Q E B F X N T hk hd hu hret
  refine wpAny_call ?_
  k_dflt (refine' enterFC (rest := rest) ?k1 ?k2 ?k3 ?k4 ?k5 ?kO ?kA ?kF ?kK ?k6 ?k7 ?k8 ?k9 ?kB ?kD ?_ ?kL ?c2 ?c3 ?c4; (case kA => exact rfl); (case kF => exact rfl); (case kK => assumption); (case kO => exact off); (case k1 => k_asm); (case k2 => k_asm); (case k3 => k_asm); (case k4 => exact N); (case k5 => k_asm); (case k6 => k_is); (case k7 => k_is); (case k8 => walk_at "nm room"); (case k9 => exact BindsTo.of_eq rfl); (case kB => exact rfl); (case kD => decide +kernel); (case kL => exact fun L9 mc9 c9 Y9 => cells_over Y9 (cellsFrom_ge _ _ _ (fun _ h => nomatch h) (Nat.le_succ _))); (case c2 => exact rfl); (case c3 => exact rfl); (case c4 => exact rfl); k_whole; intro g' L' h' tk' cells' aA mM FG' F' N' Y' B' X' T' l1 hRg; (try k_lt l1); k_cells Y'; (try simp only [List.cons_append, List.nil_append] at N'); (try dsimp only); (try k_lift B'); (try k_fold))
  have hw1 : (Str.ofString ".half" == Str.ofString ".ascii") = false := by decide
  have hw2 : (Str.ofString ".half" == Str.ofString ".space") = false := by decide
  have hfd : Int.fdiv 65536 2 = 32768 := by decide
  (walk_at "nm steps")
  skip
  refine callsF_end hret N hRg (by k_asm) (by k_asm) (own' := [_]) (fun q hq => by rw [List.mem_singleton.mp hq]; k_mem) ⟨_, _, _, rfl, rfl, ?_⟩ (by k_asm) (by k_asm)
  rw [List.nil_append]
  exact octE_of rfl h0 h1 (by assumption)
set_option maxRecDepth 100000 in
set_option maxHeartbeats 8000000 in
theorem row_word (w : World) (mean : ExcName → Option Value) (mg mb : Names) (x y : Str) (v : Int) (t : Tok) (n1 : x.length ≤ 1000) (n2 : y.length ≤ 1000) (n3 : (tx v).length ≤ 1000)
    (e1 : Txt.strip x = y) (e2 : Txt.partition y (Str.ofString " ") = (Str.ofString ".word", Str.ofString " ", tx v)) (e3 : Txt.split (tx v) (Str.ofString ",") = [tx v]) (e4 : Txt.strip (tx v) = tx v) (hv : NumOk v) (h0 : 0 ≤ v) (h1 : v < 4294967296) :
    CallsF w mean mg mb 106 2 [] [.str x t]
      (fun r own' => ∃ l vs k, r = .ref l ∧ own' = [(l, listOf vs.toArray k)] ∧ IntsAre vs (octE 4 v)) := by
  w_top off
  have hrw : PySem.Challenge.rw_nm0003_01 = PySem.Challenge.rw_nm0003_01 := rfl
  revert hrw
  unfold CallsF
  unfold Calls
  k_fill
  intro _ rest off
  intro dp un gd cn cs a ccd cl outer A₀ base h₀ L m s Q E B F X N T hk hd hu hret
  refine wpAny_call ?_
  k_dflt (refine' enterFC (rest := rest) ?k1 ?k2 ?k3 ?k4 ?k5 ?kO ?kA ?kF ?kK ?k6 ?k7 ?k8 ?k9 ?kB ?kD ?_ ?kL ?c2 ?c3 ?c4; (case kA => exact rfl); (case kF => exact rfl); (case kK => assumption); (case kO => exact off); (case k1 => k_asm); (case k2 => k_asm); (case k3 => k_asm); (case k4 => exact N); (case k5 => k_asm); (case k6 => k_is); (case k7 => k_is); (case k8 => walk_at "nm room"); (case k9 => exact BindsTo.of_eq rfl); (case kB => exact rfl); (case kD => decide +kernel); (case kL => exact fun L9 mc9 c9 Y9 => cells_over Y9 (cellsFrom_ge _ _ _ (fun _ h => nomatch h) (Nat.le_succ _))); (case c2 => exact rfl); (case c3 => exact rfl); (case c4 => exact rfl); k_whole; intro g' L' h' tk' cells' aA mM FG' F' N' Y' B' X' T' l1 hRg; (try k_lt l1); k_cells Y'; (try simp only [List.cons_append, List.nil_append] at N'); (try dsimp only); (try k_lift B'); (try k_fold))
  have hw1 : (Str.ofString ".word" == Str.ofString ".ascii") = false := by decide
  have hw2 : (Str.ofString ".word" == Str.ofString ".space") = false := by decide
  have hfd : Int.fdiv 4294967296 2 = 2147483648 := by decide
  (walk_at "nm steps")
  skip
  refine callsF_end hret N hRg (by k_asm) (by k_asm) (own' := [_]) (fun q hq => by rw [List.mem_singleton.mp hq]; k_mem) ⟨_, _, _, rfl, rfl, ?_⟩ (by k_asm) (by k_asm)
  rw [List.nil_append]
  exact octE_of rfl h0 h1 (by assumption)
end
section
def AddrPost (nm : Str) (z : Int) (r : Value) (own' : Led) : Prop := ∃ D t1 t2, r = .ref D ∧ own' = [(D, tupO [.str nm t1, .int z t2])]
section
variable {w : World} {mean : ExcName → Option Value} {mg mb : Names} {dp un : Nat} {gd : Option (List Code)} {cn : Str} {cs : Scope} {a : Addr} {ccd : Value} {cl : List (Str × Addr)} {outer : List Env} {A₀ : Around} {base h₀ : Heap} {L : Addr} {m : Names} {s : Shared} {Q E : Value → Shared → Prop} {news rest own : Led}
theorem addr_k {r nm : Str} {z : Int} {t : Tok} (h : ∀ t, CallsF w mean mg mb 101 2 [] [.str r t] (AddrPost nm z)) (B : Below A₀ base outer h₀) (F : Fr h₀ L s.heap m) (X : (Nm.hd.heap_39 w.params).In h₀) (N : News h₀ L s.heap news)
    (T : Top Nm.hd.view_39 (looseW Nm.hd.view_39 []) mean mg mb h₀) (hk : cs.kind = .function) (hd : dp + 2 < recursionLimit) (hu : un + 1000 * 2 < cLine)
    (k : ∀ D t1 t2 h' tk', LCg.Off1 D news → Fr h₀ L h' m → News h₀ L h' ((D, tupO [.str nm t1, .int z t2]) :: news) → Q (.ref D) { s with heap := h', toks := tk' }) :
    wpAny (model PySem.Challenge.rw_nm0003_01.row.prog w) (ktrTop dp un gd cn cs L a ccd cl outer) (call (.ref 101) [.str r t]) Q E s :=
  CallsF.use (rest := news) (h t) B F X N (fun _ _ _ h => nomatch h) T hk hd hu
    fun r own' h' tk' F' N' ho ⟨D, t1, t2, e, e2⟩ => e ▸ k D t1 t2 h' tk' (off1_one (e2 ▸ ho)) F' (by rw [e2] at N'; exact N')
end
end
local macro_rules | `(tactic| walk_at "call ref") => `(tactic| (k_here; (with_reducible show wpAny _ _ (call (Value.ref 101) _) _ _ _); k_dflt (refine' addr_k ?kN ?k1 ?k2 ?k3 ?k4 ?k5 ?kK ?kD ?kE ?_; (case kN => assumption); (case k1 => k_asm); (case k2 => k_asm); (case k3 => k_asm); (case k4 => k_asm); (case k5 => k_asm); (case kK => first | exact rfl | assumption); (case kD => walk_at "nm room"); (case kE => walk_at "nm units"); k_whole; intro D' t1' t2' h' tk' o1' F' N'; (try simp only [LCg.Off1, and_true] at o1'); (try k_sweep); (try dsimp only))))
section
set_option maxRecDepth 100000 in
set_option maxHeartbeats 8000000 in
theorem row_addr (w : World) (mean : ExcName → Option Value) (mg mb : Names) (x y r nm : Str) (z : Int) (t : Tok) (n1 : x.length ≤ 1000) (n2 : y.length ≤ 1000) (n3 : r.length ≤ 1000)
    (e1 : Txt.strip x = y) (e2 : Txt.partition y (Str.ofString " ") = (Str.ofString ".word", Str.ofString " ", r)) (e3 : Txt.split r (Str.ofString ",") = [r]) (e4 : Txt.strip r = r) (hv : NoNum r)
    (hA : ∀ t, CallsF w mean mg mb 101 2 [] [.str r t] (AddrPost nm z)) :
    CallsF w mean mg mb 106 3 [] [.str x t] (AddrPost nm z) := by
  w_top off
  have hrw : PySem.Challenge.rw_nm0003_01 = PySem.Challenge.rw_nm0003_01 := rfl
  revert hrw
  unfold CallsF
  unfold Calls
  k_fill
  intro _ rest off
  intro dp un gd cn cs a ccd cl outer A₀ base h₀ L m s Q E B F X N T hk hd hu hret
  refine wpAny_call ?_
  k_dflt (refine' enterFC (rest := rest) ?k1 ?k2 ?k3 ?k4 ?k5 ?kO ?kA ?kF ?kK ?k6 ?k7 ?k8 ?k9 ?kB ?kD ?_ ?kL ?c2 ?c3 ?c4; (case kA => exact rfl); (case kF => exact rfl); (case kK => assumption); (case kO => exact off); (case k1 => k_asm); (case k2 => k_asm); (case k3 => k_asm); (case k4 => exact N); (case k5 => k_asm); (case k6 => k_is); (case k7 => k_is); (case k8 => walk_at "nm room"); (case k9 => exact BindsTo.of_eq rfl); (case kB => exact rfl); (case kD => decide +kernel); (case kL => exact fun L9 mc9 c9 Y9 => cells_over Y9 (cellsFrom_ge _ _ _ (fun _ h => nomatch h) (Nat.le_succ _))); (case c2 => exact rfl); (case c3 => exact rfl); (case c4 => exact rfl); k_whole; intro g' L' h' tk' cells' aA mM FG' F' N' Y' B' X' T' l1 hRg; (try k_lt l1); k_cells Y'; (try simp only [List.cons_append, List.nil_append] at N'); (try dsimp only); (try k_lift B'); (try k_fold))
  have hw1 : (Str.ofString ".word" == Str.ofString ".ascii") = false := by decide
  have hw2 : (Str.ofString ".word" == Str.ofString ".space") = false := by decide
  (walk_at "nm steps")
  skip
  exact callsF_end hret N hRg (by k_asm) (by k_asm) (own' := [_]) (fun q hq => by rw [List.mem_singleton.mp hq]; k_mem) ⟨_, _, _, rfl, rfl⟩ (by k_asm) (by k_asm)
end
section
theorem split_list {prog : Program} {w : World} {A : Around} {E : Value → Shared → Prop} {s : Shared} {h₀ : Heap} {L : Addr} {m : Names} {news : Led} {x y : Str} {ps : List Str} {t u : Tok} {Q : Value → Shared → Prop} (hF : Fr h₀ L s.heap m) (hN : News h₀ L s.heap news) (hy : (y.length == 0) = false) (e : Txt.split x y = ps) (hs : x.length ≤ 1000)
    (h : ∀ D (vs : List Value) h' k, (∀ (i : Nat) v, vs[i]? = some v → ∃ p t, ps[i]? = some p ∧ v = .str p t) → vs.length = ps.length → Fr h₀ L h' m → News h₀ L h' ((D, listOf vs.toArray 0) :: news) → (∀ p ∈ news, p.1 < D) → Q (.ref D) { s with heap := h', toks := k }) :
    wpAny (model prog w) A (call (.builtin "str.split") [.str x t, .str y u]) Q E s := by
  refine KSpl.split1 hF hN hy (fun D l h' k el _ F' N' l1 => ?_) (by rw [sizeLine_eq]; omega)
  rw [e] at el
  refine h D (strValues l) h' k ?_ ?_ F' N' l1
  · intro i v hv
    simp only [strValues, List.getElem?_map, Option.map_eq_some_iff] at hv
    obtain ⟨⟨p, t⟩, hp, rfl⟩ := hv
    refine ⟨p, t, ?_, rfl⟩
    rw [← el, List.getElem?_map, hp]; rfl
  · rw [← el]; simp [strValues]
structure BSt where
  its : List Value
  k : Nat
  ov : Obj
abbrev bLed (D lf cv cr : Addr) (vs : List Value) (orr : Obj) (c : BSt) : Led := [(D, listOf vs.toArray 0), (lf, listOf c.its.toArray c.k), (cv, c.ov), (cr, orr)]
def BP (ks : List Int) (i : Nat) (c : BSt) : Prop := IntsAre c.its (ks.take i) ∧ ∃ v, c.ov.data = .cell v
section
open PyProof.V PySem.Spec PySem.Calls
variable {prog : Program} {w : World} {A : Around} {E : Value → Shared → Prop} {s : Shared} {env : Env} {h₀ : Heap} {x : Str} {body : List Stmt} {Q : Flow → Shared → Prop}
theorem byte_loop {D lf cv cr : Addr} {vs : List Value} {ov orr : Obj} {m₀ : Names} {news : Led} {ks : List Int} {ps : List Str} {v₀ : Option Value}
    (hh : A.handled = none) (F : Fr h₀ env.locals s.heap m₀) (N : News h₀ env.locals s.heap news) (m0 : (D, listOf vs.toArray 0) ∈ news) (m1 : (lf, listOf #[] 0) ∈ news) (m2 : (cv, ov) ∈ news) (m3 : (cr, orr) ∈ news) (hov : ov.data = .cell v₀)
    (hvs : ∀ (i : Nat) v, vs[i]? = some v → ∃ p t, ps[i]? = some p ∧ v = .str p t) (hvl : vs.length = ps.length) (hl : ps.length = ks.length) (hl2 : ks.length ≤ 11)
    (hp : ∀ (i : Nat) p, ps[i]? = some p → ∃ k, ks[i]? = some k ∧ Txt.strip p = tx k ∧ NumOk k ∧ 0 ≤ k ∧ k < 256 ∧ p.length ≤ 1000 ∧ (tx k).length ≤ 1000)
    (turn : ∀ its kk ov' vo (i : Nat) p tp (k : Int) (u : Names) h tk own, i < ks.length → OwnOff own [D, lf, cv, cr] → IntsAre its (ks.take i) → its.length ≤ 1000 → ov'.data = .cell vo → ks[i]? = some k → Txt.strip p = tx k → NumOk k → 0 ≤ k → k < 256 → p.length ≤ 1000 → (tx k).length ≤ 1000 →
      Fr h₀ env.locals h (fun y => if y = x then some (.str p tp) else if ([] : List Str).contains y then u y else m₀ y) → News h₀ env.locals h ((D, listOf vs.toArray 0) :: (lf, listOf its.toArray kk) :: (cv, ov') :: (cr, orr) :: own) →
      wpAny (model prog w) A (execs body env) (TurnPostL h₀ env.locals x [] m₀ (bLed D lf cv cr vs orr) (BP ks (i + 1)) own { s with heap := h, toks := tk } Q) E { s with heap := h, toks := tk })
    (done : ∀ its kk ov' (u : Names) h tk, IntsAre its ks → Fr h₀ env.locals h (fun y => if y = x then u y else if ([] : List Str).contains y then u y else m₀ y) → News h₀ env.locals h [(D, listOf vs.toArray 0), (lf, listOf its.toArray kk), (cv, ov'), (cr, orr)] → Q .next { s with heap := h, toks := tk }) :
    wpAny (model prog w) A (pyIter (.ref D)) (fun it s₂ => LoopAtV prog w A h₀ env x body Q E it s₂) E s := by
  refine list_loop (vs := vs) (nn := 0) (ad := [D, lf, cv, cr]) (bLed D lf cv cr vs orr) (BP ks) [] ⟨[], 0, ov⟩ hh (fun _ => .head _) F ?_ (fun _ => rfl) ⟨by simpa using IntsAre.nil, _, hov⟩ ?_ ?_
  · intro p hp
    simp only [List.mem_cons, List.not_mem_nil, or_false] at hp
    rcases hp with rfl | rfl | rfl | rfl
    · exact N _ m0
    · exact N _ m1
    · exact N _ m2
    · exact N _ m3
  · rintro ⟨its, kk, ov'⟩ i v u h tk own hv ho ⟨hits, vo, hvo⟩ F' N'
    obtain ⟨p, tp, hpi, rfl⟩ := hvs i v hv
    obtain ⟨k, hk, a1, a2, a3, a4, a5, a6⟩ := hp i p hpi
    have hi : i < ks.length := by
      rw [← hl, ← hvl]
      exact (List.getElem?_eq_some_iff.mp hv).1
    have hil : its.length ≤ 1000 := by rw [hits.length, List.length_take]; omega
    exact turn its kk ov' vo i p tp k u h tk own hi ho hits hil hvo hk a1 a2 a3 a4 a5 a6 F' N'
  · rintro ⟨its, kk, ov'⟩ u h tk ⟨hits, vo, hvo⟩ F' N'
    refine done its kk ov' u h tk ?_ F' N'
    have e : ks.take vs.length = ks := by rw [hvl, hl]; exact List.take_length
    rw [e] at hits
    exact hits
theorem byte_turn {D lf cv cr : Addr} {vs its ys : List Value} {orr ov' : Obj} {vo : Option Value} {m₀ m' : Names} {ks : List Int} {i kk tk : Nat} {k : Int} {own all : Led} {s₁ : Shared} {h' : Heap} {L : Addr}
    (F' : Fr h₀ L h' m') (N' : News h₀ L h' all) (sub : ∀ p ∈ (D, listOf vs.toArray 0) :: (lf, listOf (its ++ ys).toArray kk) :: (cv, ov') :: (cr, orr) :: own, p ∈ all) (hov : ov'.data = .cell vo)
    (hm : ∀ z, z ≠ x → m' z = m₀ z) (hits : IntsAre its (ks.take i)) (hk : ks[i]? = some k) (hy : IntsAre ys [k]) :
    TurnPostL h₀ L x [] m₀ (bLed D lf cv cr vs orr) (BP ks (i + 1)) own s₁ Q .next { s₁ with heap := h', toks := tk } := by
  refine ⟨⟨its ++ ys, kk, ov'⟩, h', tk, m', rfl, F', fun p hp => N' p (sub p hp), ⟨?_, vo, hov⟩, fun z h1 _ => hm z h1⟩
  rw [List.take_add_one, hk]
  exact IntsAre.append hits hy
end
theorem octE_one {v : Int} {ys : List Value} {m : Nat} (hm : m = 1) (h0 : 0 ≤ v) (h1 : v < 256)
    (h : IntsAre ys ((rangeKs 0 m).map fun k' => if 0 ≤ v.fmod 256 ∧ v.fmod 256 < 256 then Builtin.bitAnd ((v.fmod 256).fdiv (2 ^ (8 * k').toNat)) 255 else k')) : IntsAre ys [v] := by
  have h2 := octE_of hm h0 h1 h
  have key : ∀ n : Fin 256, Builtin.bitAnd ((n.val : Int).fdiv (2 ^ ((8 : Int) * (0 + (0 : Nat))).toNat)) 255 = n.val := by decide +kernel
  have e : octE 1 v = [v] := by
    have h3 := key ⟨v.toNat, by omega⟩
    dsimp only at h3
    rw [Int.toNat_of_nonneg h0] at h3
    simp only [octE, rangeKs, List.range_one, List.map_cons, List.map_nil]
    rw [h3]
  rw [e] at h2
  exact h2
local macro_rules | `(tactic| walk_at "call builtin:list.extend") => `(tactic| (k_here; (with_reducible show wpAny _ _ (call (Value.builtin _) [Value.ref _, Value.ref _]) _ _ _); k_dflt (refine' ext_k ?F ?N ?b ?U ?y ?z ?zz ?_; (case F => k_asm); (case N => k_asm); (case b => k_mem); (case U => k_upd); (case y => exact IntsAre.ne (by assumption) (by simp [rangeKs])); (case z => assumption); (case zz => (rw [IntsAre.length (by assumption)]; simp [rangeKs]))); intro h' F' N'; (try dsimp only at N'); (try k_sweep)))
local macro_rules | `(tactic| walk_at "call builtin:str.split") => `(tactic| (k_here; (with_reducible show wpAny _ _ (call (Value.builtin "str.split") [Value.str _ _, Value.str _ _]) _ _ _); (refine split_list (by k_asm) (by k_asm) (by decide) (by assumption) (by assumption) ?_); intro D' vs' h' tk' hvs' hvl' F' N' l1; (try k_lt l1)))
local macro_rules | `(tactic| walk_at "pyIter ref") => `(tactic| (k_here; (with_reducible show wpAny _ _ (pyIter (Value.ref _)) (fun it s₂ => LoopAtV _ _ _ _ _ _ _ _ _ it s₂) _ _); refine Hold.out ?_))
set_option maxRecDepth 100000 in
set_option maxHeartbeats 8000000 in
theorem row_byte (w : World) (mean : ExcName → Option Value) (mg mb : Names) (x y r : Str) (ps : List Str) (ks : List Int) (t : Tok) (n1 : x.length ≤ 1000) (n2 : y.length ≤ 1000) (n3 : r.length ≤ 1000)
    (e1 : Txt.strip x = y) (e2 : Txt.partition y (Str.ofString " ") = (Str.ofString ".byte", Str.ofString " ", r)) (e3 : Txt.split r (Str.ofString ",") = ps)
    (hl : ps.length = ks.length) (hl2 : ks.length ≤ 11)
    (hp : ∀ (i : Nat) p, ps[i]? = some p → ∃ k, ks[i]? = some k ∧ Txt.strip p = tx k ∧ NumOk k ∧ 0 ≤ k ∧ k < 256 ∧ p.length ≤ 1000 ∧ (tx k).length ≤ 1000) :
    CallsF w mean mg mb 106 2 [] [.str x t]
      (fun r own' => ∃ l vs k, r = .ref l ∧ own' = [(l, listOf vs.toArray k)] ∧ IntsAre vs ks) := by
  w_top off
  have hrw : PySem.Challenge.rw_nm0003_01 = PySem.Challenge.rw_nm0003_01 := rfl
  revert hrw
  unfold CallsF
  unfold Calls
  k_fill
  intro _ rest off
  intro dp un gd cn cs a ccd cl outer A₀ base h₀ L m s Q E B F X N T hk hd hu hret
  refine wpAny_call ?_
  k_dflt (refine' enterFC (rest := rest) ?k1 ?k2 ?k3 ?k4 ?k5 ?kO ?kA ?kF ?kK ?k6 ?k7 ?k8 ?k9 ?kB ?kD ?_ ?kL ?c2 ?c3 ?c4; (case kA => exact rfl); (case kF => exact rfl); (case kK => assumption); (case kO => exact off); (case k1 => k_asm); (case k2 => k_asm); (case k3 => k_asm); (case k4 => exact N); (case k5 => k_asm); (case k6 => k_is); (case k7 => k_is); (case k8 => walk_at "nm room"); (case k9 => exact BindsTo.of_eq rfl); (case kB => exact rfl); (case kD => decide +kernel); (case kL => exact fun L9 mc9 c9 Y9 => cells_over Y9 (cellsFrom_ge _ _ _ (fun _ h => nomatch h) (Nat.le_succ _))); (case c2 => exact rfl); (case c3 => exact rfl); (case c4 => exact rfl); k_whole; intro g' L' h' tk' cells' aA mM FG' F' N' Y' B' X' T' l1 hRg; (try k_lt l1); k_cells Y'; (try simp only [List.cons_append, List.nil_append] at N'); (try dsimp only); (try k_lift B'); (try k_fold))
  have hw1 : (Str.ofString ".byte" == Str.ofString ".ascii") = false := by decide
  have hw2 : (Str.ofString ".byte" == Str.ofString ".space") = false := by decide
  have hfd : Int.fdiv 256 2 = 128 := by decide
  (walk_at "nm steps")
  refine Hold.mk ?_
  rename Fr _ _ _ _ => lF'
  rename News _ _ _ _ => lN'
  rename_i D9 vs9 h9 tk9 hvs9 hvl9 l19
  with_unfolding_all refine' byte_loop (ks := ks) (ps := ps) ?hh lF' lN' (.head _) (.tail _ (.tail _ (.head _))) (.tail _ (.tail _ (.tail _ (.tail _ (.tail _ (.head _)))))) (.tail _ (.tail _ (.tail _ (.tail _ (.tail _ (.tail _ (.head _))))))) ?hov hvs9 hvl9 hl hl2 hp ?_ ?_
  case hh => rfl
  case hov => assumption
  · intro its kk ov' vo i p tp k u h tk own hi ho hits hil hov hk a1 a2 a3 a4 a5 a6 F' N'
    clear lF' lN' hp hvs9
    (walk_at "nm steps")
    refine byte_turn (kk := kk + 1) (by assumption) (by assumption) ?_ (by assumption) (by intro z hz; simp [hz]) hits hk (octE_one rfl a3 a4 (by assumption))
    refine List.forall_mem_cons.mpr ⟨by k_mem, List.forall_mem_cons.mpr ⟨by k_mem, List.forall_mem_cons.mpr ⟨by k_mem, List.forall_mem_cons.mpr ⟨by k_mem, fun p hp => ?_⟩⟩⟩⟩
    repeat (first | exact hp | refine List.Mem.tail _ ?_)
  · intro its kk ov' u h tk hits F' N'
    clear lF' lN' hp hvs9
    (walk_at "nm steps")
    skip
    exact callsF_end hret N hRg (by k_asm) (by k_asm) (own' := [_]) (fun q hq => by rw [List.mem_singleton.mp hq]; k_mem) ⟨_, _, _, rfl, rfl, hits⟩ (by k_asm) (by k_asm)
end
section
theorem Calls.mono {w : World} {mean : ExcName → Option Value} {mg mb : Names} {f : Addr} {dq dq' : Nat} {news : Led} {vs : List Value} {Post : Value → Led → Prop} (h : dq ≤ dq') (C : Calls w mean mg mb f dq news vs Post) : Calls w mean mg mb f dq' news vs Post := by
  intro dp un gd cn cs a ccd cl outer A₀ base h₀ L m s Q E B F X N T hk hd hu k
  exact C dp un gd cn cs a ccd cl outer A₀ base h₀ L m s Q E B F X N T hk (by omega) (by omega) k
theorem CallsF.mono {w : World} {mean : ExcName → Option Value} {mg mb : Names} {f : Addr} {dq dq' : Nat} {own : Led} {vs : List Value} {Post : Value → Led → Prop} (h : dq ≤ dq') (C : CallsF w mean mg mb f dq own vs Post) : CallsF w mean mg mb f dq' own vs Post := fun rest off => (C rest off).mono h
def ListPost (ds : List Int) (r : Value) (own' : Led) : Prop := ∃ l vs k, r = .ref l ∧ own' = [(l, listOf vs.toArray k)] ∧ IntsAre vs ds
structure RowSaid (w : World) (mean : ExcName → Option Value) (mg mb : Names) (x : Str) (ds : List Int) : Prop where
  row : ∀ t, CallsF w mean mg mb 106 3 [] [.str x t] (ListPost ds)
  ne : ds ≠ []
  len : ds.length ≤ 500
structure RowAddr (w : World) (mean : ExcName → Option Value) (mg mb : Names) (x nm : Str) (z : Int) : Prop where
  row : ∀ t, CallsF w mean mg mb 106 3 [] [.str x t] (AddrPost nm z)
section
variable {w : World} {mean : ExcName → Option Value} {mg mb : Names} {dp un : Nat} {gd : Option (List Code)} {cn : Str} {cs : Scope} {a : Addr} {ccd : Value} {cl : List (Str × Addr)} {outer : List Env} {A₀ : Around} {base h₀ : Heap} {L : Addr} {m : Names} {s : Shared} {Q E : Value → Shared → Prop} {news rest own : Led}
theorem row_k {x : Str} {ds : List Int} {t : Tok} (h : RowSaid w mean mg mb x ds) (B : Below A₀ base outer h₀) (F : Fr h₀ L s.heap m) (X : (Nm.hd.heap_39 w.params).In h₀) (N : News h₀ L s.heap news)
    (T : Top Nm.hd.view_39 (looseW Nm.hd.view_39 []) mean mg mb h₀) (hk : cs.kind = .function) (hd : dp + 3 < recursionLimit) (hu : un + 1000 * 3 < cLine)
    (k : ∀ l vs k' h' tk', IntsAre vs ds → vs ≠ [] → vs.length ≤ 500 → LCg.Off1 l news → Fr h₀ L h' m → News h₀ L h' ((l, listOf vs.toArray k') :: news) → Q (.ref l) { s with heap := h', toks := tk' }) :
    wpAny (model PySem.Challenge.rw_nm0003_01.row.prog w) (ktrTop dp un gd cn cs L a ccd cl outer) (call (.ref 106) [.str x t]) Q E s :=
  CallsF.use (rest := news) (h.row t) B F X N (fun _ _ _ h => nomatch h) T hk hd hu
    fun r own' h' tk' F' N' ho ⟨l, vs, k', e, e2, hi⟩ => e ▸ k l vs k' h' tk' hi (Nm.IntsAre.ne hi h.ne) (by rw [hi.length]; exact h.len) (off1_one (e2 ▸ ho)) F' (by rw [e2] at N'; exact N')
theorem rowA_k {x nm : Str} {z : Int} {t : Tok} (h : RowAddr w mean mg mb x nm z) (B : Below A₀ base outer h₀) (F : Fr h₀ L s.heap m) (X : (Nm.hd.heap_39 w.params).In h₀) (N : News h₀ L s.heap news)
    (T : Top Nm.hd.view_39 (looseW Nm.hd.view_39 []) mean mg mb h₀) (hk : cs.kind = .function) (hd : dp + 3 < recursionLimit) (hu : un + 1000 * 3 < cLine)
    (k : ∀ D t1 t2 h' tk', LCg.Off1 D news → Fr h₀ L h' m → News h₀ L h' ((D, tupO [.str nm t1, .int z t2]) :: news) → Q (.ref D) { s with heap := h', toks := tk' }) :
    wpAny (model PySem.Challenge.rw_nm0003_01.row.prog w) (ktrTop dp un gd cn cs L a ccd cl outer) (call (.ref 106) [.str x t]) Q E s :=
  CallsF.use (rest := news) (h.row t) B F X N (fun _ _ _ h => nomatch h) T hk hd hu
    fun r own' h' tk' F' N' ho ⟨D, t1, t2, e, e2⟩ => e ▸ k D t1 t2 h' tk' (off1_one (e2 ▸ ho)) F' (by rw [e2] at N'; exact N')
end
end
local macro_rules | `(tactic| walk_at "call ref") => `(tactic| (k_here; (with_reducible show wpAny _ _ (call (Value.ref 106) _) _ _ _); k_dflt (first
  | (refine' row_k ?kN ?k1 ?k2 ?k3 ?k4 ?k5 ?kK ?kD ?kE ?_; (case kN => assumption); (case k1 => k_asm); (case k2 => k_asm); (case k3 => k_asm); (case k4 => k_asm); (case k5 => k_asm); (case kK => first | exact rfl | assumption); (case kD => walk_at "nm room"); (case kE => walk_at "nm units"); k_whole; intro l' vs' k' h' tk' hI' hne' hll' o1' F' N'; (try simp only [LCg.Off1, and_true] at o1'); (try k_sweep); (try dsimp only))
  | (refine' rowA_k ?kN ?k1 ?k2 ?k3 ?k4 ?k5 ?kK ?kD ?kE ?_; (case kN => assumption); (case k1 => k_asm); (case k2 => k_asm); (case k3 => k_asm); (case k4 => k_asm); (case k5 => k_asm); (case kK => first | exact rfl | assumption); (case kD => walk_at "nm room"); (case kE => walk_at "nm units"); k_whole; intro D' t1' t2' h' tk' o1' F' N'; (try simp only [LCg.Off1, and_true] at o1'); (try k_sweep); (try dsimp only)))))
local macro_rules | `(tactic| walk_at "call builtin:list.extend") => `(tactic| (k_here; (with_reducible show wpAny _ _ (call (Value.builtin _) [Value.ref _, Value.ref _]) _ _ _); k_dflt (first
  | (refine' ext_k (us := []) ?F ?N ?b ?U ?y ?z ?zz ?_; (case F => k_asm); (case N => k_asm); (case b => k_mem); (case U => k_upd); (case y => assumption); (case z => first | exact Nat.zero_le _ | (simp only [List.length_append, List.length_nil]; omega) | omega); (case zz => omega))
  | (refine' ext_k ?F ?N ?b ?U ?y ?z ?zz ?_; (case F => k_asm); (case N => k_asm); (case b => k_mem); (case U => k_upd); (case y => assumption); (case z => first | exact Nat.zero_le _ | (simp only [List.length_append, List.length_nil]; omega) | omega); (case zz => omega))); intro h' F' N'; (try dsimp only at N'); (try k_sweep)))
section
set_option maxRecDepth 100000 in
set_option maxHeartbeats 8000000 in
theorem rows_two (w : World) (mean : ExcName → Option Value) (mg mb : Names) (x y : Str) (ds es : List Int) (t u : Tok) (l : Addr) (k : Nat) (hx : RowSaid w mean mg mb x ds) (hy : RowSaid w mean mg mb y es) :
    CallsF w mean mg mb 113 4 [(l, listOf #[.str x t, .str y u] k)] [.ref l] (ListPost (ds ++ es)) := by
  w_top off
  have hrw : PySem.Challenge.rw_nm0003_01 = PySem.Challenge.rw_nm0003_01 := rfl
  revert hrw
  unfold CallsF
  unfold Calls
  k_fill
  intro _ rest off
  intro dp un gd cn cs a ccd cl outer A₀ base h₀ L m s Q E B F X N T hk hd hu hret
  refine wpAny_call ?_
  k_dflt (refine' enterF (rest := rest) ?k1 ?k2 ?k3 ?k4 ?k5 ?kO ?kA ?kF ?kK ?k6 ?k7 ?k8 ?k9 ?kB ?_ ?c2 ?c3 ?c4 ?c5; (case kA => exact rfl); (case kF => exact rfl); (case kK => assumption); (case kO => exact off); (case k1 => k_asm); (case k2 => k_asm); (case k3 => k_asm); (case k4 => exact N); (case k5 => k_asm); (case k6 => k_is); (case k7 => k_is); (case k8 => walk_at "nm room"); (case k9 => exact BindsTo.of_eq rfl); (case c5 => decide); (case kB => exact locs rfl); (case c2 => exact rfl); (case c3 => exact rfl); (case c4 => exact rfl); k_whole; intro g' L' h' aA mM FG' F' N' B' X' T' l1 hRg; (try k_lt l1); (try dsimp only); (try k_lift B'); (try k_fold))
  (walk_at "nm steps")
  refine callsF_end hret N hRg (by k_asm) (by k_asm) (own' := [_]) (fun q hq => by rw [List.mem_singleton.mp hq]; k_mem) ⟨_, _, _, rfl, rfl, ?_⟩ (by k_asm) (by k_asm)
  rename IntsAre _ es => i2
  rename IntsAre _ ds => i1
  simpa using IntsAre.append i1 i2
set_option maxRecDepth 100000 in
set_option maxHeartbeats 8000000 in
theorem rows_one (w : World) (mean : ExcName → Option Value) (mg mb : Names) (x : Str) (ds : List Int) (t : Tok) (l : Addr) (k : Nat) (hx : RowSaid w mean mg mb x ds) :
    CallsF w mean mg mb 113 4 [(l, listOf #[.str x t] k)] [.ref l] (ListPost ds) := by
  w_top off
  have hrw : PySem.Challenge.rw_nm0003_01 = PySem.Challenge.rw_nm0003_01 := rfl
  revert hrw
  unfold CallsF
  unfold Calls
  k_fill
  intro _ rest off
  intro dp un gd cn cs a ccd cl outer A₀ base h₀ L m s Q E B F X N T hk hd hu hret
  refine wpAny_call ?_
  k_dflt (refine' enterF (rest := rest) ?k1 ?k2 ?k3 ?k4 ?k5 ?kO ?kA ?kF ?kK ?k6 ?k7 ?k8 ?k9 ?kB ?_ ?c2 ?c3 ?c4 ?c5; (case kA => exact rfl); (case kF => exact rfl); (case kK => assumption); (case kO => exact off); (case k1 => k_asm); (case k2 => k_asm); (case k3 => k_asm); (case k4 => exact N); (case k5 => k_asm); (case k6 => k_is); (case k7 => k_is); (case k8 => walk_at "nm room"); (case k9 => exact BindsTo.of_eq rfl); (case c5 => decide); (case kB => exact locs rfl); (case c2 => exact rfl); (case c3 => exact rfl); (case c4 => exact rfl); k_whole; intro g' L' h' aA mM FG' F' N' B' X' T' l1 hRg; (try k_lt l1); (try dsimp only); (try k_lift B'); (try k_fold))
  (walk_at "nm steps")
  refine callsF_end hret N hRg (by k_asm) (by k_asm) (own' := [_]) (fun q hq => by rw [List.mem_singleton.mp hq]; k_mem) ⟨_, _, _, rfl, rfl, ?_⟩ (by k_asm) (by k_asm)
  rename IntsAre _ ds => i1
  simpa using i1
set_option maxRecDepth 100000 in
set_option maxHeartbeats 8000000 in
theorem rows_none (w : World) (mean : ExcName → Option Value) (mg mb : Names) (l : Addr) (k : Nat) :
    CallsF w mean mg mb 113 4 [(l, listOf #[] k)] [.ref l] (ListPost []) := by
  w_top off
  have hrw : PySem.Challenge.rw_nm0003_01 = PySem.Challenge.rw_nm0003_01 := rfl
  revert hrw
  unfold CallsF
  unfold Calls
  k_fill
  intro _ rest off
  intro dp un gd cn cs a ccd cl outer A₀ base h₀ L m s Q E B F X N T hk hd hu hret
  refine wpAny_call ?_
  k_dflt (refine' enterF (rest := rest) ?k1 ?k2 ?k3 ?k4 ?k5 ?kO ?kA ?kF ?kK ?k6 ?k7 ?k8 ?k9 ?kB ?_ ?c2 ?c3 ?c4 ?c5; (case kA => exact rfl); (case kF => exact rfl); (case kK => assumption); (case kO => exact off); (case k1 => k_asm); (case k2 => k_asm); (case k3 => k_asm); (case k4 => exact N); (case k5 => k_asm); (case k6 => k_is); (case k7 => k_is); (case k8 => walk_at "nm room"); (case k9 => exact BindsTo.of_eq rfl); (case c5 => decide); (case kB => exact locs rfl); (case c2 => exact rfl); (case c3 => exact rfl); (case c4 => exact rfl); k_whole; intro g' L' h' aA mM FG' F' N' B' X' T' l1 hRg; (try k_lt l1); (try dsimp only); (try k_lift B'); (try k_fold))
  (walk_at "nm steps")
  exact callsF_end hret N hRg (by k_asm) (by k_asm) (own' := [_]) (fun q hq => by rw [List.mem_singleton.mp hq]; k_mem) ⟨_, [], _, rfl, rfl, .nil⟩ (by k_asm) (by k_asm)
set_option maxRecDepth 100000 in
set_option maxHeartbeats 8000000 in
theorem rows_addr (w : World) (mean : ExcName → Option Value) (mg mb : Names) (x nm : Str) (z : Int) (t : Tok) (l : Addr) (k : Nat) (hx : RowAddr w mean mg mb x nm z) :
    CallsF w mean mg mb 113 4 [(l, listOf #[.str x t] k)] [.ref l] (AddrPost nm z) := by
  w_top off
  have hrw : PySem.Challenge.rw_nm0003_01 = PySem.Challenge.rw_nm0003_01 := rfl
  revert hrw
  unfold CallsF
  unfold Calls
  k_fill
  intro _ rest off
  intro dp un gd cn cs a ccd cl outer A₀ base h₀ L m s Q E B F X N T hk hd hu hret
  refine wpAny_call ?_
  k_dflt (refine' enterF (rest := rest) ?k1 ?k2 ?k3 ?k4 ?k5 ?kO ?kA ?kF ?kK ?k6 ?k7 ?k8 ?k9 ?kB ?_ ?c2 ?c3 ?c4 ?c5; (case kA => exact rfl); (case kF => exact rfl); (case kK => assumption); (case kO => exact off); (case k1 => k_asm); (case k2 => k_asm); (case k3 => k_asm); (case k4 => exact N); (case k5 => k_asm); (case k6 => k_is); (case k7 => k_is); (case k8 => walk_at "nm room"); (case k9 => exact BindsTo.of_eq rfl); (case c5 => decide); (case kB => exact locs rfl); (case c2 => exact rfl); (case c3 => exact rfl); (case c4 => exact rfl); k_whole; intro g' L' h' aA mM FG' F' N' B' X' T' l1 hRg; (try k_lt l1); (try dsimp only); (try k_lift B'); (try k_fold))
  (walk_at "nm steps")
  exact callsF_end hret N hRg (by k_asm) (by k_asm) (own' := [_]) (fun q hq => by rw [List.mem_singleton.mp hq]; k_mem) ⟨_, _, _, rfl, rfl⟩ (by k_asm) (by k_asm)
end
section
open PySem.StrLaws PySem.Builtin.Str
theorem str_ext {x y : Str} (h : x.cps.toList = y.cps.toList) : x = y := Str.ext' (Array.toList_inj.mp h)
theorem len_list (x : Str) : x.length = x.cps.toList.length := by simp [Str.length]
theorem app_list (x y : Str) : (x ++ y).cps.toList = x.cps.toList ++ y.cps.toList := by rw [Str.cps_append]; simp
/-! strip -/
theorem tw_all (g : Nat → Bool) : ∀ (p r : List Nat), (∀ c ∈ p, g c = true) → (∀ a, r.head? = some a → g a = false) → (p ++ r).takeWhile g = p
  | [], r, _, h => by
    cases r with
    | nil => rfl
    | cons a r => simp [h a rfl]
  | c :: p, r, hp, h => by
    have h1 := hp c (.head _)
    have h2 := tw_all g p r (fun q hq => hp q (.tail _ hq)) h
    simp [h1, h2]
theorem drop_tw (g : Nat → Bool) : ∀ l : List Nat, l.drop (l.takeWhile g).length = l.dropWhile g
  | [] => rfl
  | a :: l => by
    rw [List.takeWhile_cons, List.dropWhile_cons]
    split
    · simpa using drop_tw g l
    · rfl
theorem mem_tw (g : Nat → Bool) : ∀ {l : List Nat} {c : Nat}, c ∈ l.takeWhile g → g c = true
  | a :: l, c, h => by
    rw [List.takeWhile_cons] at h
    split at h
    · rename_i ha
      rcases List.mem_cons.mp h with rfl | h
      · exact ha
      · exact mem_tw g h
    · cases h
theorem strip_mid (g : Nat → Bool) {x y : Str} {p q : List Nat} {a b : Nat} (hx : x.cps.toList = p ++ (y.cps.toList ++ q)) (hp : ∀ c ∈ p, g c = true) (hq : ∀ c ∈ q, g c = true)
    (ha : y.cps.toList.head? = some a) (ga : g a = false) (hb : y.cps.toList.getLast? = some b) (gb : g b = false) : Txt.stripBy g true true x = y := by
  rw [PySem.W.stripBy_eq]
  unfold W.stripped
  have e1 : x.cps.toList.takeWhile g = p := by
    rw [hx]
    refine tw_all g p _ hp fun a' h' => ?_
    rw [List.head?_append, ha] at h'
    cases h'; exact ga
  have e2 : x.cps.toList.drop p.length = y.cps.toList ++ q := by rw [hx]; simp
  have e3 : (y.cps.toList ++ q).reverse.takeWhile g = q.reverse := by
    rw [List.reverse_append]
    refine tw_all g _ _ (fun c hc => hq c (List.mem_reverse.mp hc)) fun b' h' => ?_
    rw [List.head?_reverse, hb] at h'
    cases h'; exact gb
  have e4 : x.length = p.length + (y.cps.toList.length + q.length) := by rw [len_list, hx]; simp
  refine str_ext ?_
  simp only [if_true, strSub_toList, e1, e2, e3, List.length_reverse]
  have e5 : x.length - q.length - p.length = y.cps.toList.length := by omega
  rw [e5]
  simp
theorem strip_is {x y : Str} {p : List Nat} {a b : Nat} (hx : x.cps.toList = p ++ y.cps.toList) (hp : ∀ c ∈ p, Unicode.isSpace c = true)
    (ha : y.cps.toList.head? = some a) (ga : Unicode.isSpace a = false) (hb : y.cps.toList.getLast? = some b) (gb : Unicode.isSpace b = false) : Txt.strip x = y :=
  strip_mid _ (q := []) (by rw [List.append_nil]; exact hx) hp (fun _ h => nomatch h) ha ga hb gb
theorem strip_empty (g : Nat → Bool) {x : Str} (h : (Txt.stripBy g true true x).cps.toList = []) : ∀ c ∈ x.cps.toList, g c = true := by
  rw [PySem.W.stripBy_eq] at h
  unfold W.stripped at h
  simp only [if_true, strSub_toList] at h
  by_cases hd : x.cps.toList.drop (x.cps.toList.takeWhile g).length = []
  · intro c hc
    have e := List.takeWhile_append_dropWhile (p := g) (l := x.cps.toList)
    have e2 : x.cps.toList.dropWhile g = [] := by
      have e3 : x.cps.toList.drop (x.cps.toList.takeWhile g).length = x.cps.toList.dropWhile g := drop_tw g _
      rw [← e3]; exact hd
    rw [e2, List.append_nil] at e
    rw [← e] at hc
    exact (mem_tw _ hc)
  · exfalso
    have e := List.takeWhile_append_dropWhile (p := g) (l := x.cps.toList)
    have e3 : x.cps.toList.drop (x.cps.toList.takeWhile g).length = x.cps.toList.dropWhile g := drop_tw g _
    rw [e3] at h hd
    generalize hD : x.cps.toList.dropWhile g = D at *
    cases D with
    | nil => exact hd rfl
    | cons a r =>
      have ga : g a = false := by
        have := List.head?_dropWhile_not g x.cps.toList
        rw [hD] at this
        simpa using this
      have hlt : ((a :: r).reverse.takeWhile g).length ≤ r.length := by
        rw [List.reverse_cons]
        have : ((r.reverse ++ [a]).takeWhile g).length ≤ r.reverse.length := by
          rw [List.takeWhile_append]
          split
          · simp [ga]
          · exact (List.takeWhile_sublist (l := r.reverse) (p := g)).length_le
        simpa using this
      have hlen : x.length = (x.cps.toList.takeWhile g).length + (r.length + 1) := by
        rw [len_list]; conv => lhs; rw [← e]
        simp
      have := congrArg List.length h
      rw [List.length_take] at this
      simp at this
      simp at hlt
      omega
theorem rstrip_rest {x y : Str} : ∃ q, x.cps.toList = (Txt.rstripChars x y).cps.toList ++ q ∧ ∀ c ∈ q, c ∈ y.cps.toList := by
  refine ⟨(x.cps.toList.reverse.takeWhile y.cps.contains).reverse, ?_, ?_⟩
  · unfold Txt.rstripChars
    rw [PySem.W.stripBy_eq]
    unfold W.stripped
    simp only [if_true, Bool.false_eq_true, if_false, strSub_toList, List.drop_zero, Nat.sub_zero]
    have e := List.takeWhile_append_dropWhile (p := y.cps.contains) (l := x.cps.toList.reverse)
    have e2 : x.cps.toList = (x.cps.toList.reverse.dropWhile y.cps.contains).reverse ++ (x.cps.toList.reverse.takeWhile y.cps.contains).reverse := by
      rw [← List.reverse_append, e, List.reverse_reverse]
    have hl : x.length - (x.cps.toList.reverse.takeWhile y.cps.contains).length = (x.cps.toList.reverse.dropWhile y.cps.contains).reverse.length := by
      rw [len_list]
      conv => lhs; arg 1; rw [e2]
      simp
    rw [hl]
    conv => lhs; rw [e2]
    congr 1
    conv => rhs; rw [e2]
    simp
  · intro c hc
    have := mem_tw _ (List.mem_reverse.mp hc)
    simpa using this
/-! partition, split -/
theorem occ_none_one {x : Str} {c : Nat} (h : c ∉ x.cps.toList) (limit : Nat) (hl : 1 ≤ limit) : occurrences x ⟨#[c]⟩ 0 x.length limit = [] := by
  rcases occ_head x ⟨#[c]⟩ limit hl with ⟨e, _⟩ | ⟨i, r, _, ha, _⟩
  · exact e
  · exact absurd (List.mem_of_getElem? ((subAt_one x c i).mp ha)) h
theorem part_none {x : Str} {c : Nat} (h : c ∉ x.cps.toList) : Txt.partition x ⟨#[c]⟩ = (x, Str.empty, Str.empty) := by
  unfold Txt.partition
  rw [occ_none_one h 1 (Nat.le_refl _)]
theorem part_at {x w r : Str} {c : Nat} (hx : x.cps.toList = w.cps.toList ++ c :: r.cps.toList) (hw : c ∉ w.cps.toList) : Txt.partition x ⟨#[c]⟩ = (w, ⟨#[c]⟩, r) := by
  have hat : x.cps.toList[w.cps.toList.length]? = some c := by rw [hx]; simp
  rcases occ_head x ⟨#[c]⟩ 1 (Nat.le_refl _) with ⟨_, hn⟩ | ⟨i, tl, e, ha, hk⟩
  · exact absurd ((subAt_one x c _).mpr hat) (hn _)
  · have hi : i = w.cps.toList.length := by
      rcases Nat.lt_trichotomy i w.cps.toList.length with h | h | h
      · have h1 := (subAt_one x c i).mp ha
        rw [hx, List.getElem?_append_left h] at h1
        exact absurd (List.mem_of_getElem? h1) hw
      · exact h
      · exact absurd ((subAt_one x c _).mpr hat) (hk _ h)
    unfold Txt.partition
    rw [e]
    subst hi
    have h1 : (⟨#[c]⟩ : Str).length = 1 := rfl
    have e1 : strSub x 0 w.cps.toList.length = w := by
      refine str_ext ?_
      rw [strSub_toList, hx]; simp
    have e2 : strSub x (w.cps.toList.length + 1) x.length = r := by
      refine str_ext ?_
      rw [strSub_toList, len_list, hx]
      have : (w.cps.toList ++ c :: r.cps.toList).drop (w.cps.toList.length + 1) = r.cps.toList := by
        rw [← List.drop_drop]; simp
      rw [this]
      apply List.take_of_length_le
      simp only [List.length_append, List.length_cons]
      omega
    simp only [h1, e1, e2]
theorem split_none {x : Str} {c : Nat} (h : c ∉ x.cps.toList) : Txt.split x ⟨#[c]⟩ = [x] := by
  unfold Txt.split
  rw [occ_none_one h _ (by omega)]
  simp
theorem join_uniq (c : Nat) : ∀ (A B : List Str), A ≠ [] → B ≠ [] → (∀ p ∈ A, c ∉ p.cps.toList) → (∀ p ∈ B, c ∉ p.cps.toList) → (Str.join ⟨#[c]⟩ A).cps.toList = (Str.join ⟨#[c]⟩ B).cps.toList → A = B := by
  have cut : ∀ (a b r s : List Nat), c ∉ a → c ∉ b → a ++ c :: r = b ++ c :: s → a = b ∧ r = s := by
    intro a
    induction a with
    | nil =>
      intro b r s _ hb h
      cases b with
      | nil => simp at h; exact ⟨rfl, h⟩
      | cons d b => simp at h; exact absurd (by rw [← h.1]; simp) hb
    | cons d a ih =>
      intro b r s ha hb h
      cases b with
      | nil => simp at h; exact absurd (by rw [h.1]; simp) ha
      | cons e b =>
        simp at h
        have := ih b r s (fun hh => ha (.tail _ hh)) (fun hh => hb (.tail _ hh)) h.2
        exact ⟨by rw [h.1, this.1], this.2⟩
  have hj : ∀ (a b : Str) (r : List Str), (Str.join ⟨#[c]⟩ (a :: b :: r)).cps.toList = a.cps.toList ++ c :: (Str.join ⟨#[c]⟩ (b :: r)).cps.toList := by
    intro a b r
    show (a ++ (⟨#[c]⟩ : Str) ++ Str.join ⟨#[c]⟩ (b :: r)).cps.toList = _
    rw [app_list, app_list]; simp
  intro A
  induction A with
  | nil => intro B h; exact absurd rfl h
  | cons a A ih =>
    intro B _ hB hA hBf h
    cases B with
    | nil => exact absurd rfl hB
    | cons b B =>
      have ha := hA a (.head _)
      have hb := hBf b (.head _)
      cases A with
      | nil =>
        cases B with
        | nil => rw [str_ext (x := a) (y := b) h]
        | cons b' B =>
          rw [hj] at h
          have h' : a.cps.toList = b.cps.toList ++ c :: (Str.join ⟨#[c]⟩ (b' :: B)).cps.toList := h
          exact absurd (by rw [h']; simp) ha
      | cons a' A =>
        cases B with
        | nil =>
          rw [hj] at h
          have h' : a.cps.toList ++ c :: (Str.join ⟨#[c]⟩ (a' :: A)).cps.toList = b.cps.toList := h
          exact absurd (by rw [← h']; simp) hb
        | cons b' B =>
          rw [hj, hj] at h
          obtain ⟨e1, e2⟩ := cut _ _ _ _ ha hb h
          rw [str_ext e1, ih (b' :: B) (by simp) (by simp) (fun p hp => hA p (.tail _ hp)) (fun p hp => hBf p (.tail _ hp)) e2]
theorem split_ne (x : Str) (c : Nat) : Txt.split x ⟨#[c]⟩ ≠ [] := by
  unfold Txt.split
  split
  · simp
  · split
    · simp
    · rw [partsBetween_eq]
      obtain ⟨p, r, e⟩ := partsFrom_ne x (⟨#[c]⟩ : Str).length 0 (occurrences x ⟨#[c]⟩ 0 x.length (x.length + 1))
      rw [e]; simp
theorem split_join {c : Nat} {B : List Str} (hB : B ≠ []) (hf : ∀ p ∈ B, c ∉ p.cps.toList) : Txt.split (Str.join ⟨#[c]⟩ B) ⟨#[c]⟩ = B :=
  join_uniq c _ _ (split_ne _ _) hB (split_free _ c) hf (by rw [join_split])
end
section
open PySem.StrLaws PySem.Builtin.Str
theorem str_ne {x y : Str} (h : x ≠ y) : (x == y) = false := beq_eq_false_iff_ne.mpr h
theorem str_eq {x y : Str} (h : x = y) : (x == y) = true := beq_iff_eq.mpr h
theorem ne_of_list {x y : Str} (h : x.cps.toList ≠ y.cps.toList) : x ≠ y := fun e => h (e ▸ rfl)
/-! a number's text -/
theorem tx_list {v : Int} (h0 : 0 ≤ v) : (tx v).cps.toList = (Nat.toDigits 10 v.toNat).map Char.toNat := by
  have := KIN.signs_num v.toNat
  rw [Int.toNat_of_nonneg h0] at this
  exact this
theorem tx_dig {v : Int} (h0 : 0 ≤ v) : ∀ c ∈ (tx v).cps.toList, 48 ≤ c ∧ c ≤ 57 := by
  intro c hc
  rw [tx_list h0] at hc
  obtain ⟨d, hd, rfl⟩ := List.mem_map.mp hc
  have h1 := Nat.isDigit_of_mem_toDigits (by decide) (by decide) hd
  simp only [Char.isDigit, Bool.and_eq_true, decide_eq_true_eq] at h1
  have a1 := UInt32.le_iff_toNat_le.mp h1.1
  have a2 := UInt32.le_iff_toNat_le.mp h1.2
  exact ⟨a1, a2⟩
theorem tx_cons {v : Int} (h0 : 0 ≤ v) : ∃ c r, (tx v).cps.toList = c :: r := by
  rw [tx_list h0]
  cases h : Nat.toDigits 10 v.toNat with
  | nil => exact absurd h Nat.toDigits_ne_nil
  | cons d r => exact ⟨d.toNat, r.map Char.toNat, rfl⟩
theorem figs_list : (Str.ofString "0123456789").cps.toList = List.range' 48 10 := by decide
theorem in_figs {c : Nat} : c ∈ (Str.ofString "0123456789").cps.toList ↔ 48 ≤ c ∧ c ≤ 57 := by
  rw [figs_list, List.mem_range'_1]; exact and_congr_right fun _ => Nat.lt_succ_iff
theorem figs_of (c : Nat) : (occurrences (Str.ofString "0123456789") ⟨#[c]⟩ 0 (Str.ofString "0123456789").length 1).isEmpty = !decide (48 ≤ c ∧ c ≤ 57) := by
  have h := found_one (Str.ofString "0123456789") c
  have e : decide (c ∈ (Str.ofString "0123456789").cps.toList) = decide (48 ≤ c ∧ c ≤ 57) := decide_eq_decide.mpr in_figs
  rw [e] at h
  rw [← h, Bool.not_not]
theorem nonFig_nil {x : Str} (h : ∀ c ∈ x.cps.toList, 48 ≤ c ∧ c ≤ 57) : nonFig x = [] := by
  refine List.filter_eq_nil_iff.mpr fun a ha => ?_
  obtain ⟨c, hc, rfl⟩ := List.mem_map.mp ha
  rw [figs_of]
  simp [h c hc]
theorem nonFig_ne {x : Str} {c : Nat} (hc : c ∈ x.cps.toList) (h : ¬ (48 ≤ c ∧ c ≤ 57)) : nonFig x ≠ [] := by
  intro e
  have := List.filter_eq_nil_iff.mp e ⟨#[c]⟩ (List.mem_map.mpr ⟨c, hc, rfl⟩)
  rw [figs_of] at this
  simp [h] at this
theorem slice1 {x : Str} {c : Nat} {r : List Nat} (h : x.cps.toList = c :: r) : Txt.slice x none (some 1) = ⟨#[c]⟩ := by
  have e : Txt.slice x none (some 1) = sliceText x none (some 1) := rfl
  rw [e, sliceText_to ⟨by decide, by rw [h]; simp; omega⟩, h]
  rfl
theorem slice_no {x : Str} {c : Nat} {r : List Nat} (h : x.cps.toList = c :: r) (hc : c ≠ 45) : (Txt.slice x none (some 1) == Str.ofString "-") = false := by
  rw [slice1 h]
  refine str_ne (ne_of_list ?_)
  have e : (Str.ofString "-").cps.toList = [45] := by decide
  rw [e]; simpa using hc
theorem empty_list : (Str.ofString "").cps.toList = [] := by decide
theorem ne_empty {x : Str} {c : Nat} {r : List Nat} (h : x.cps.toList = c :: r) : (x == Str.ofString "") = false := by
  refine str_ne (ne_of_list ?_)
  rw [h, empty_list]; simp
theorem tx_len10 {v : Int} (h0 : 0 ≤ v) (h1 : v < 10 ^ 10) : (tx v).length ≤ 10 := toString_length_le h0 (by decide) h1
theorem numOk {v : Int} (h0 : 0 ≤ v) (h1 : v < 10 ^ 10) : NumOk v := by
  obtain ⟨c, r, e⟩ := tx_cons h0
  have hd := tx_dig h0
  have hc := hd c (by rw [e]; exact .head _)
  exact ⟨h0, h1, Nat.le_trans (tx_len10 h0 h1) (by decide), slice_no e (by omega), ne_empty e, nonFig_nil hd, nonFig_ok fun c hc => by have := hd c hc; omega⟩
theorem noNum {x : Str} {c d : Nat} {r : List Nat} (e : x.cps.toList = c :: r) (hl : x.length ≤ 1000) (hc : c ≠ 45) (hd : d ∈ x.cps.toList) (hn : ¬ (48 ≤ d ∧ d ≤ 57)) (hok : ∀ c ∈ x.cps.toList, c < 1114112) : NoNum x :=
  ⟨hl, slice_no e hc, ne_empty e, nonFig_ne hd hn, nonFig_ok hok⟩
/-! blanks -/
theorem space_dig : ∀ c : Nat, 33 ≤ c → c ≤ 126 → Unicode.isSpace c = false := by
  intro c h1 h2
  have key : ∀ d : Fin 94, Unicode.isSpace (d.val + 33) = false := by decide +kernel
  have := key ⟨c - 33, by omega⟩
  simpa [Nat.sub_add_cancel h1] using this
theorem space9 : Unicode.isSpace 9 = true := by decide +kernel
theorem space32 : Unicode.isSpace 32 = true := by decide +kernel
theorem tx_last {v : Int} (h0 : 0 ≤ v) : ∃ b, (tx v).cps.toList.getLast? = some b ∧ Unicode.isSpace b = false := by
  obtain ⟨c, r, e⟩ := tx_cons h0
  have hm : (c :: r).getLast (by simp) ∈ (tx v).cps.toList := by rw [e]; exact List.getLast_mem _
  have := tx_dig h0 _ hm
  exact ⟨(c :: r).getLast (by simp), by rw [e]; exact List.getLast?_eq_some_getLast (by simp), space_dig _ (by omega) (by omega)⟩
theorem tx_first {v : Int} (h0 : 0 ≤ v) : ∃ a, (tx v).cps.toList.head? = some a ∧ Unicode.isSpace a = false := by
  obtain ⟨c, r, e⟩ := tx_cons h0
  have := tx_dig h0 c (by rw [e]; exact .head _)
  exact ⟨c, by rw [e]; rfl, space_dig _ (by omega) (by omega)⟩
theorem strip_tx {v : Int} (h0 : 0 ≤ v) : Txt.strip (tx v) = tx v := by
  obtain ⟨a, ha, ga⟩ := tx_first h0
  obtain ⟨b, hb, gb⟩ := tx_last h0
  exact strip_is (p := []) rfl (fun _ h => nomatch h) ha ga hb gb
theorem row_parts {x w r : Str} {a b : Nat} {wl : List Nat} (hx : x.cps.toList = 9 :: (w.cps.toList ++ 32 :: r.cps.toList)) (hw : w.cps.toList = a :: wl) (ga : Unicode.isSpace a = false) (hw2 : 32 ∉ w.cps.toList)
    (hb : r.cps.toList.getLast? = some b) (gb : Unicode.isSpace b = false) :
    ∃ y, Txt.strip x = y ∧ Txt.partition y (Str.ofString " ") = (w, Str.ofString " ", r) ∧ y.length ≤ x.length := by
  have hy : ((⟨(w.cps.toList ++ 32 :: r.cps.toList).toArray⟩ : Str)).cps.toList = w.cps.toList ++ 32 :: r.cps.toList := rfl
  refine ⟨⟨(w.cps.toList ++ 32 :: r.cps.toList).toArray⟩, ?_, ?_, ?_⟩
  · refine strip_is (p := [9]) (a := a) (b := b) (by rw [hx, hy]; rfl) (fun c hc => by rw [List.mem_singleton.mp hc]; exact space9) ?_ ga ?_ gb
    · rw [hy, hw]; rfl
    · rw [hy, List.getLast?_append, List.getLast?_cons, hb]; rfl
  · have e : Str.ofString " " = ⟨#[32]⟩ := by decide
    rw [e]
    exact part_at hy hw2
  · rw [len_list, len_list, hx, hy]; simp
theorem comma : Str.ofString "," = ⟨#[44]⟩ := by decide
end
section
open PySem.StrLaws PySem.Builtin.Str
theorem item_at {x : Str} {c : Nat} {i : Nat} (h : x.cps.toList[i]? = some c) : Txt.item x (i : Int) = ⟨#[c]⟩ := by
  have e : Txt.charAt x (i : Int) = some c := at_nonneg (by omega) (by rw [← Array.getElem?_toList]; exact h)
  unfold Txt.item; rw [e]; rfl
theorem item_zero {x : Str} {c : Nat} {r : List Nat} (h : x.cps.toList = c :: r) : Txt.item x 0 = ⟨#[c]⟩ := item_at (i := 0) (by rw [h]; rfl)
theorem item_end {x : Str} {c : Nat} (h : x.cps.toList.getLast? = some c) : Txt.item x (-1) = ⟨#[c]⟩ := by
  have hne : x.cps.toList ≠ [] := by intro e; rw [e] at h; cases h
  have hp := List.length_pos_iff.mpr hne
  have e : Txt.charAt x (-1) = some c := at_neg (by decide) (by rw [len_list]; omega) (by
    have e2 : ((-1 : Int) + (x.length : Int)).toNat = x.cps.toList.length - 1 := by rw [len_list]; omega
    rw [e2, ← Array.getElem?_toList, ← List.getLast?_eq_getElem?]; exact h)
  unfold Txt.item; rw [e]; rfl
theorem one_ne {c d : Nat} (h : c ≠ d) : ((⟨#[c]⟩ : Str) == ⟨#[d]⟩) = false := str_ne fun e => h (by have := congrArg (fun x : Str => x.cps.toList) e; simpa using this)
theorem one_eq (c : Nat) : ((⟨#[c]⟩ : Str) == ⟨#[c]⟩) = true := str_eq rfl
theorem quoS : Str.ofString "\"" = ⟨#[34]⟩ := by decide
theorem bakS : Str.ofString "\\" = ⟨#[92]⟩ := by decide
theorem quo_ok {q body : Str} (hq : q.cps.toList = 34 :: (body.cps.toList ++ [34])) (hl : body.length ≤ 20) (hb : ∀ c ∈ body.cps.toList, c ≠ 34 ∧ c ≠ 92) : QuoOk q body := by
  have e2 : q.length = body.length + 2 := by rw [len_list, len_list, hq]; simp
  refine ⟨by omega, e2, ?_, ?_, fun i hi => ?_⟩
  · rw [item_zero hq, quoS]; exact one_eq _
  · rw [item_end (c := 34) (by rw [hq, List.getLast?_cons, List.getLast?_append]; rfl), quoS]; exact one_eq _
  · have hi' : i < body.cps.toList.length := by rw [← len_list]; exact hi
    have e : q.cps.toList[i + 1]? = some body.cps.toList[i] := by
      rw [hq]; simp [List.getElem?_append_left hi']
    have e3 : Txt.item q ((i : Int) + 1) = ⟨#[body.cps.toList[i]]⟩ := by
      have := item_at e
      simpa using this
    have hm := hb _ (List.getElem_mem hi')
    refine ⟨_, List.getElem?_eq_getElem hi', e3, ?_, ?_⟩
    · rw [e3, quoS]; exact one_ne hm.1
    · rw [e3, bakS]; exact one_ne hm.2
theorem w_ascii : (Str.ofString ".ascii").cps.toList = [46, 97, 115, 99, 105, 105] := by decide
theorem w_space : (Str.ofString ".space").cps.toList = [46, 115, 112, 97, 99, 101] := by decide
theorem w_byte : (Str.ofString ".byte").cps.toList = [46, 98, 121, 116, 101] := by decide
theorem w_half : (Str.ofString ".half").cps.toList = [46, 104, 97, 108, 102] := by decide
theorem w_word : (Str.ofString ".word").cps.toList = [46, 119, 111, 114, 100] := by decide
theorem sp46 : Unicode.isSpace 46 = false := space_dig 46 (by decide) (by decide)
theorem sp34 : Unicode.isSpace 34 = false := space_dig 34 (by decide) (by decide)
theorem row_len {x w r : Str} (hx : x.cps.toList = 9 :: (w.cps.toList ++ 32 :: r.cps.toList)) : x.length = w.length + r.length + 2 := by
  rw [len_list, len_list, len_list, hx]; simp; omega
section
variable {w : World} {mean : ExcName → Option Value} {mg mb : Names}
theorem said_ascii {x q body : Str} (hx : x.cps.toList = 9 :: ((Str.ofString ".ascii").cps.toList ++ 32 :: q.cps.toList)) (hq : q.cps.toList = 34 :: (body.cps.toList ++ [34])) (hl : body.length ≤ 20) (h0 : body.cps.toList ≠ [])
    (hb : ∀ c ∈ body.cps.toList, c ≠ 34 ∧ c ≠ 92) : RowSaid w mean mg mb x (body.cps.toList.map Int.ofNat) := by
  have hlast : q.cps.toList.getLast? = some 34 := by rw [hq, List.getLast?_cons, List.getLast?_append]; rfl
  obtain ⟨y, e1, e2, l1⟩ := row_parts hx w_ascii sp46 (by rw [w_ascii]; decide) hlast sp34
  have hql : q.length = body.length + 2 := by rw [len_list, len_list, hq]; simp
  have hxl := row_len hx
  have hwl : (Str.ofString ".ascii").length = 6 := by decide
  have e3 : Txt.strip q = q := strip_is (p := []) rfl (fun _ h => nomatch h) (a := 34) (by rw [hq]; rfl) sp34 hlast sp34
  refine ⟨fun t => ?_, ?_, ?_⟩
  · exact CallsF.mono (by decide) (row_ascii w mean mg mb x y q q body t (by omega) (by omega) (by omega) e1 e2 e3 (quo_ok hq hl hb))
  · simpa using h0
  · rw [List.length_map, ← len_list]; omega
theorem said_space {x : Str} {v : Int} (hx : x.cps.toList = 9 :: ((Str.ofString ".space").cps.toList ++ 32 :: (tx v).cps.toList)) (h0 : 0 < v) (h1 : v < 500) : RowSaid w mean mg mb x (List.replicate v.toNat 0) := by
  obtain ⟨b, hb, gb⟩ := tx_last (v := v) (by omega)
  obtain ⟨y, e1, e2, l1⟩ := row_parts hx w_space sp46 (by rw [w_space]; decide) hb gb
  have hxl := row_len hx
  have hwl : (Str.ofString ".space").length = 6 := by decide
  have hv := tx_len10 (v := v) (by omega) (by omega)
  refine ⟨fun t => ?_, ?_, ?_⟩
  · exact CallsF.mono (by decide) (row_space w mean mg mb x y v t (by omega) (by omega) (by omega) e1 e2 (numOk (by omega) (by omega)) (by omega) (by omega))
  · intro e
    have := congrArg List.length e
    simp at this; omega
  · rw [List.length_replicate]; omega
theorem tx_no {v : Int} (h0 : 0 ≤ v) {c : Nat} (hc : c < 48) : c ∉ (tx v).cps.toList := fun h => by have := tx_dig h0 c h; omega
theorem said_half {x : Str} {v : Int} (hx : x.cps.toList = 9 :: ((Str.ofString ".half").cps.toList ++ 32 :: (tx v).cps.toList)) (h0 : 0 ≤ v) (h1 : v < 65536) : RowSaid w mean mg mb x (octE 2 v) := by
  obtain ⟨b, hb, gb⟩ := tx_last (v := v) (by omega)
  obtain ⟨y, e1, e2, l1⟩ := row_parts hx w_half sp46 (by rw [w_half]; decide) hb gb
  have hxl := row_len hx
  have hwl : (Str.ofString ".half").length = 5 := by decide
  have hv := tx_len10 (v := v) (by omega) (by omega)
  refine ⟨fun t => ?_, by simp [octE, rangeKs], by simp [octE, rangeKs]⟩
  exact CallsF.mono (by decide) (row_half w mean mg mb x y v t (by omega) (by omega) (by omega) e1 e2 (by rw [comma]; exact split_none (tx_no h0 (by decide))) (strip_tx h0) (numOk (by omega) (by omega)) (by omega) (by omega))
theorem said_word {x : Str} {v : Int} (hx : x.cps.toList = 9 :: ((Str.ofString ".word").cps.toList ++ 32 :: (tx v).cps.toList)) (h0 : 0 ≤ v) (h1 : v < 4294967296) : RowSaid w mean mg mb x (octE 4 v) := by
  obtain ⟨b, hb, gb⟩ := tx_last (v := v) (by omega)
  obtain ⟨y, e1, e2, l1⟩ := row_parts hx w_word sp46 (by rw [w_word]; decide) hb gb
  have hxl := row_len hx
  have hwl : (Str.ofString ".word").length = 5 := by decide
  have hv := tx_len10 (v := v) (by omega) (by omega)
  refine ⟨fun t => ?_, by simp [octE, rangeKs], by simp [octE, rangeKs]⟩
  exact CallsF.mono (by decide) (row_word w mean mg mb x y v t (by omega) (by omega) (by omega) e1 e2 (by rw [comma]; exact split_none (tx_no h0 (by decide))) (strip_tx h0) (numOk (by omega) (by omega)) (by omega) (by omega))
/-! octets in a row -/
theorem join_head (s a b : Str) (l : List Str) : (Str.join s ((a ++ b) :: l)).cps.toList = a.cps.toList ++ (Str.join s (b :: l)).cps.toList := by
  cases l with
  | nil => exact app_list a b
  | cons d r =>
    show ((a ++ b) ++ s ++ Str.join s (d :: r)).cps.toList = _ ++ (b ++ s ++ Str.join s (d :: r)).cps.toList
    simp only [app_list, List.append_assoc]
theorem sepS : (Str.ofString ", ").cps.toList = [44, 32] := by decide
abbrev byteParts (k : Int) (r : List Int) : List Str := tx k :: r.map fun k => (⟨#[32]⟩ : Str) ++ tx k
theorem join_sp : ∀ (r : List Int) (k : Int), (Str.join (Str.ofString ", ") ((k :: r).map tx)).cps.toList = (Str.join ⟨#[44]⟩ (byteParts k r)).cps.toList
  | [], k => rfl
  | k2 :: r, k => by
    show (tx k ++ Str.ofString ", " ++ Str.join (Str.ofString ", ") ((k2 :: r).map tx)).cps.toList = (tx k ++ (⟨#[44]⟩ : Str) ++ Str.join ⟨#[44]⟩ (((⟨#[32]⟩ : Str) ++ tx k2) :: r.map fun k => (⟨#[32]⟩ : Str) ++ tx k)).cps.toList
    simp only [app_list, join_sp r k2, sepS, join_head]
    simp
theorem join_tx2 (ks : List Int) (h : ∀ k ∈ ks, 0 ≤ k ∧ k < 256) (hl : ks.length ≤ 11) : (Str.join (Str.ofString ", ") (ks.map tx)).length ≤ 100 := by
  refine Nat.le_trans (StrLaws.join_length_le _ _) ?_
  have hs : ∀ l : List Int, (∀ k ∈ l, 0 ≤ k ∧ k < 256) → ((l.map tx).map (·.length)).sum ≤ 3 * l.length := by
    intro l
    induction l with
    | nil => intro _; simp
    | cons k r ih =>
      intro h
      have h1 := tx_len (h k (.head _)).1 (by have := (h k (.head _)).2; omega)
      have h2 := ih fun q hq => h q (.tail _ hq)
      simp only [List.map_cons, List.sum_cons, List.length_cons]
      omega
  have h1 := hs ks h
  have h2 : (Str.ofString ", ").length = 2 := by decide
  rw [List.length_map, h2]
  omega
theorem last_join (s : Str) : ∀ (l : List Str) (a : Str), (∀ p ∈ a :: l, ∃ b, p.cps.toList.getLast? = some b ∧ Unicode.isSpace b = false) → ∃ b, (Str.join s (a :: l)).cps.toList.getLast? = some b ∧ Unicode.isSpace b = false
  | [], a, h => h a (.head _)
  | d :: r, a, h => by
    obtain ⟨b, hb, gb⟩ := last_join s r d fun p hp => h p (.tail _ hp)
    refine ⟨b, ?_, gb⟩
    show (a ++ s ++ Str.join s (d :: r)).cps.toList.getLast? = _
    rw [app_list, List.getLast?_append, hb]; rfl
theorem strip_sp {k : Int} (h0 : 0 ≤ k) : Txt.strip ((⟨#[32]⟩ : Str) ++ tx k) = tx k := by
  obtain ⟨a, ha, ga⟩ := tx_first h0
  obtain ⟨b, hb, gb⟩ := tx_last h0
  exact strip_is (p := [32]) (app_list _ _) (fun c hc => by rw [List.mem_singleton.mp hc]; exact space32) ha ga hb gb
theorem said_byte {x r : Str} {ks : List Int} (hx : x.cps.toList = 9 :: ((Str.ofString ".byte").cps.toList ++ 32 :: r.cps.toList)) (hr : r = Str.join (Str.ofString ", ") (ks.map tx)) (hne : ks ≠ []) (hk : ∀ k ∈ ks, 0 ≤ k ∧ k < 256) (hl : ks.length ≤ 11) : RowSaid w mean mg mb x ks := by
  cases ks with
  | nil => exact absurd rfl hne
  | cons k0 rs =>
    have hrl := join_tx2 _ hk hl
    rw [← hr] at hrl
    have hp0 : ∀ p ∈ byteParts k0 rs, ∃ k, k ∈ k0 :: rs ∧ (p = tx k ∨ p = (⟨#[32]⟩ : Str) ++ tx k) := by
      intro p hp
      rcases List.mem_cons.mp hp with rfl | hp
      · exact ⟨_, .head _, .inl rfl⟩
      · obtain ⟨k, hk', rfl⟩ := List.mem_map.mp hp
        exact ⟨k, .tail _ hk', .inr rfl⟩
    have hlast : ∃ b, r.cps.toList.getLast? = some b ∧ Unicode.isSpace b = false := by
      rw [hr, List.map_cons]
      refine last_join _ _ _ fun p hp => ?_
      obtain ⟨k, hk', rfl⟩ : ∃ k ∈ k0 :: rs, tx k = p := List.mem_map.mp (by rw [List.map_cons]; exact hp)
      exact tx_last (hk k hk').1
    obtain ⟨b, hb, gb⟩ := hlast
    obtain ⟨y, e1, e2, l1⟩ := row_parts hx w_byte sp46 (by rw [w_byte]; decide) hb gb
    have hxl := row_len hx
    have hwl : (Str.ofString ".byte").length = 5 := by decide
    have e3 : Txt.split r (Str.ofString ",") = byteParts k0 rs := by
      have e4 : r = Str.join ⟨#[44]⟩ (byteParts k0 rs) := str_ext (by rw [hr]; exact join_sp rs k0)
      rw [comma, e4]
      refine split_join (by simp) fun p hp => ?_
      obtain ⟨k, hk', h | h⟩ := hp0 p hp
      · rw [h]; exact tx_no (hk k hk').1 (by decide)
      · rw [h, app_list]
        intro hm
        rcases List.mem_append.mp hm with hm | hm
        · simp at hm
        · exact tx_no (hk k hk').1 (by decide) hm
    refine ⟨fun t => ?_, hne, by omega⟩
    refine CallsF.mono (by decide) (row_byte w mean mg mb x y r (byteParts k0 rs) (k0 :: rs) t (by omega) (by omega) (by omega) e1 e2 e3 (by simp) hl fun i p hp => ?_)
    have bits : ∀ k, k ∈ k0 :: rs → NumOk k ∧ 0 ≤ k ∧ k < 256 ∧ (tx k).length ≤ 10 := fun k hk' => by
      have h1 := hk k hk'
      exact ⟨numOk (by omega) (by omega), h1.1, h1.2, tx_len10 (by omega) (by omega)⟩
    cases i with
    | zero =>
      have hp' : tx k0 = p := by simpa using hp
      subst hp'
      obtain ⟨b1, b2, b3, b4⟩ := bits k0 (.head _)
      exact ⟨k0, rfl, strip_tx b2, b1, b2, b3, by omega, by omega⟩
    | succ i =>
      have hp' : (rs.map fun k => (⟨#[32]⟩ : Str) ++ tx k)[i]? = some p := by simpa using hp
      rw [List.getElem?_map] at hp'
      cases hk9 : rs[i]? with
      | none => rw [hk9] at hp'; cases hp'
      | some k =>
        rw [hk9] at hp'
        have hp2 : (⟨#[32]⟩ : Str) ++ tx k = p := by simpa using hp'
        subst hp2
        obtain ⟨b1, b2, b3, b4⟩ := bits k (.tail _ (List.mem_of_getElem? hk9))
        refine ⟨k, by simpa using hk9, strip_sp b2, b1, b2, b3, ?_, by omega⟩
        have : ((⟨#[32]⟩ : Str) ++ tx k).length = (tx k).length + 1 := by rw [len_list, app_list, len_list]; simp
        omega
/-! addresses -/
structure NameOk (nm : Str) : Prop where
  ne : ∃ a l, nm.cps.toList = a :: l ∧ ¬ (48 ≤ a ∧ a ≤ 57)
  plain : ∀ c ∈ nm.cps.toList, 46 ≤ c ∧ c ≤ 126
  len : nm.length ≤ 20
theorem NameOk.no {nm : Str} (h : NameOk nm) {c : Nat} (hc : c < 46) : c ∉ nm.cps.toList := fun hm => by have := h.plain c hm; omega
theorem NameOk.n1 {nm : Str} (h : NameOk nm) : (nm == Str.ofString "") = false := by
  obtain ⟨a, l, e, _⟩ := h.ne
  exact ne_empty e
theorem NameOk.n2 {nm : Str} (h : NameOk nm) : (occurrences (Str.ofString "0123456789") (Txt.item nm 0) 0 (Str.ofString "0123456789").length 1).isEmpty = true := by
  obtain ⟨a, l, e, ha⟩ := h.ne
  rw [item_zero e, figs_of, decide_eq_false ha]; rfl
theorem plusS : Str.ofString "+" = ⟨#[43]⟩ := by decide
theorem minusS : Str.ofString "-" = ⟨#[45]⟩ := by decide
theorem e0S : (Str.empty == Str.ofString "") = true := by decide
theorem NameOk.noNum {nm r : Str} {q : List Nat} (h : NameOk nm) (e : r.cps.toList = nm.cps.toList ++ q) (hq : ∀ c ∈ q, c ≤ 126) (hl : q.length ≤ 20) : NoNum r := by
  obtain ⟨a, l, e1, ha⟩ := h.ne
  have hm : a ∈ nm.cps.toList := by rw [e1]; exact .head _
  have hp := h.plain a hm
  have hlen := h.len
  rw [len_list] at hlen
  refine Nm.noNum (c := a) (d := a) (r := l ++ q) (by rw [e, e1]; rfl) (by rw [len_list, e, List.length_append]; omega) (by omega) (by rw [e]; exact List.mem_append.mpr (.inl hm)) ha ?_
  intro c hc
  rw [e] at hc
  rcases List.mem_append.mp hc with hc | hc
  · have := h.plain c hc; omega
  · have := hq c hc; omega
theorem NameOk.strip {nm r : Str} {q : List Nat} (h : NameOk nm) (e : r.cps.toList = nm.cps.toList ++ q) (hq : ∀ c ∈ q, 33 ≤ c ∧ c ≤ 126) : Txt.strip r = r ∧ ∃ b, r.cps.toList.getLast? = some b ∧ Unicode.isSpace b = false := by
  have hall : ∀ c ∈ r.cps.toList, Unicode.isSpace c = false := by
    intro c hc
    rw [e] at hc
    rcases List.mem_append.mp hc with hc | hc
    · have := h.plain c hc; exact space_dig c (by omega) this.2
    · have := hq c hc; exact space_dig c this.1 this.2
  obtain ⟨a, l, e1, ha⟩ := h.ne
  have hne : r.cps.toList ≠ [] := by rw [e, e1]; simp
  have hb := List.getLast?_eq_some_getLast hne
  have gb := hall _ (List.getLast_mem hne)
  have e2 : r.cps.toList.head? = some a := by rw [e, e1]; rfl
  refine ⟨strip_is (p := []) rfl (fun _ h => nomatch h) e2 (hall a (by rw [e, e1]; exact .head _)) hb gb, _, hb, gb⟩
theorem said_addr {x r nm : Str} {z : Int} {q : List Nat} (hx : x.cps.toList = 9 :: ((Str.ofString ".word").cps.toList ++ 32 :: r.cps.toList)) (hn : NameOk nm) (e : r.cps.toList = nm.cps.toList ++ q) (hq : ∀ c ∈ q, 33 ≤ c ∧ c ≤ 126 ∧ c ≠ 44) (hl : q.length ≤ 20)
    (hA : ∀ t, CallsF w mean mg mb 101 2 [] [.str r t] (AddrPost nm z)) : RowAddr w mean mg mb x nm z := by
  obtain ⟨e4, b, hb, gb⟩ := hn.strip e fun c hc => ⟨(hq c hc).1, (hq c hc).2.1⟩
  obtain ⟨y, e1, e2, l1⟩ := row_parts hx w_word sp46 (by rw [w_word]; decide) hb gb
  have hxl := row_len hx
  have hwl : (Str.ofString ".word").length = 5 := by decide
  have hnl := hn.len
  have hrl : r.length = nm.length + q.length := by rw [len_list, len_list, e, List.length_append]
  refine ⟨fun t => row_addr w mean mg mb x y r nm z t (by omega) (by omega) (by omega) e1 e2 ?_ e4 (hn.noNum e (fun c hc => (hq c hc).2.1) hl) hA⟩
  rw [comma]
  refine split_none ?_
  rw [e]
  intro hm
  rcases List.mem_append.mp hm with hm | hm
  · exact hn.no (by decide) hm
  · exact (hq _ hm).2.2 rfl
theorem said_plain {x nm : Str} (hx : x.cps.toList = 9 :: ((Str.ofString ".word").cps.toList ++ 32 :: nm.cps.toList)) (hn : NameOk nm) : RowAddr w mean mg mb x nm (Int.fmod 0 4294967296) := by
  have hl := hn.len
  refine said_addr (q := []) hx hn (by simp) (fun _ h => nomatch h) (by decide) fun t => addr_plain w mean mg mb nm t (by omega) ?_ ?_ e0S hn.n1 hn.n2
  · rw [plusS]; exact part_none (hn.no (by decide))
  · rw [minusS]; exact part_none (hn.no (by decide))
theorem tail_ok {v : Int} (h0 : 0 ≤ v) (h1 : v < 10 ^ 10) {c : Nat} (hc : c = 43 ∨ c = 45) : (∀ d ∈ c :: (tx v).cps.toList, 33 ≤ d ∧ d ≤ 126 ∧ d ≠ 44) ∧ (c :: (tx v).cps.toList).length ≤ 20 := by
  constructor
  · intro d hd
    rcases List.mem_cons.mp hd with rfl | hd
    · omega
    · have := tx_dig h0 d hd; omega
  · have := tx_len10 h0 h1
    rw [len_list] at this
    rw [List.length_cons]; omega
theorem said_plus {x r nm : Str} {v : Int} (hx : x.cps.toList = 9 :: ((Str.ofString ".word").cps.toList ++ 32 :: r.cps.toList)) (hn : NameOk nm) (e : r.cps.toList = nm.cps.toList ++ 43 :: (tx v).cps.toList) (h0 : 0 ≤ v) (h1 : v < 10 ^ 10) : RowAddr w mean mg mb x nm (Int.fmod v 4294967296) := by
  have hl := hn.len
  obtain ⟨t1, t2⟩ := tail_ok h0 h1 (c := 43) (.inl rfl)
  have hv := numOk h0 h1
  have hrl : r.length ≤ 1000 := by
    have : r.length = nm.length + (43 :: (tx v).cps.toList).length := by rw [len_list, len_list, e, List.length_append]
    omega
  refine said_addr (q := 43 :: (tx v).cps.toList) hx hn e t1 t2 fun t => addr_plus w mean mg mb r nm v t hrl (by omega) hv hv.sl hv.len ?_ ?_ e0S hn.n1 hn.n2
  · rw [plusS]; exact part_at e (hn.no (by decide))
  · rw [minusS]; refine part_none ?_
    rw [e]
    intro hm
    rcases List.mem_append.mp hm with hm | hm
    · exact hn.no (by decide) hm
    · rcases List.mem_cons.mp hm with hm | hm
      · exact absurd hm (by decide)
      · exact tx_no h0 (by decide) hm
theorem said_minus {x r nm : Str} {v : Int} (hx : x.cps.toList = 9 :: ((Str.ofString ".word").cps.toList ++ 32 :: r.cps.toList)) (hn : NameOk nm) (e : r.cps.toList = nm.cps.toList ++ 45 :: (tx v).cps.toList) (h0 : 0 ≤ v) (h1 : v < 10 ^ 10) : RowAddr w mean mg mb x nm (Int.fmod (-v) 4294967296) := by
  have hl := hn.len
  obtain ⟨t1, t2⟩ := tail_ok h0 h1 (c := 45) (.inr rfl)
  have hv := numOk h0 h1
  have hrl : r.length ≤ 1000 := by
    have : r.length = nm.length + (45 :: (tx v).cps.toList).length := by rw [len_list, len_list, e, List.length_append]
    omega
  refine said_addr (q := 45 :: (tx v).cps.toList) hx hn e t1 t2 fun t => addr_minus w mean mg mb r nm v t hrl (by omega) hv hv.sl hv.len ?_ ?_ e0S hn.n1 hn.n2
  · rw [plusS]; refine part_none ?_
    rw [e]
    intro hm
    rcases List.mem_append.mp hm with hm | hm
    · exact hn.no (by decide) hm
    · rcases List.mem_cons.mp hm with hm | hm
      · exact absurd hm (by decide)
      · exact tx_no h0 (by decide) hm
  · rw [minusS]; exact part_at e (hn.no (by decide))
end
end
section
open PySem.StrLaws PySem.Builtin.Str
theorem lat_list (b : Array UInt8) : (lat b).cps.toList = b.toList.map (·.toNat) := by simp [lat]
theorem bInts_lat (b : Array UInt8) : KBw.bInts b = (lat b).cps.toList.map Int.ofNat := by
  rw [lat_list, List.map_map]; rfl
theorem plain_no {c : Nat} (h : plainS.cps.contains c = true) : c ≠ 34 ∧ c ≠ 92 := by
  have h1 : plainS.cps.contains 34 = false := by decide +kernel
  have h2 : plainS.cps.contains 92 = false := by decide +kernel
  constructor
  · rintro rfl; rw [h1] at h; cases h
  · rintro rfl; rw [h2] at h; cases h
theorem zeroS : (Str.ofString "\x00").cps.toList = [0] := by decide
theorem str_nil {x : Str} (h : x = Str.ofString "") : x.cps.toList = [] := by rw [h]; exact empty_list
theorem w_asc : (Str.ofString "\t.ascii \"").cps.toList = 9 :: ((Str.ofString ".ascii").cps.toList ++ 32 :: [34]) := by decide
theorem w_spc : (Str.ofString "\t.space ").cps.toList = 9 :: ((Str.ofString ".space").cps.toList ++ [32]) := by decide
theorem w_byt : (Str.ofString "\t.byte ").cps.toList = 9 :: ((Str.ofString ".byte").cps.toList ++ [32]) := by decide
theorem w_hlf : (Str.ofString "\t.half ").cps.toList = 9 :: ((Str.ofString ".half").cps.toList ++ [32]) := by decide
theorem w_wrd : (Str.ofString "\t.word ").cps.toList = 9 :: ((Str.ofString ".word").cps.toList ++ [32]) := by decide
theorem quoL : (Str.ofString "\"").cps.toList = [34] := by decide
section
variable {w : World} {mean : ExcName → Option Value} {mg mb : Names}
theorem oct_law {b : Array UInt8} {body : Str} {rows : List Str} {vs : List Value} (hb : b.size ≤ 11) (e1 : Txt.rstripChars (lat b) (Str.ofString "\x00") = body) (hv : StrsAre vs rows) (h : OctOut b body rows) (l : Addr) (k : Nat) :
    CallsF w mean mg mb 113 4 [(l, listOf vs.toArray k)] [.ref l] (ListPost (KBw.bInts b)) := by
  obtain ⟨q, hq, hz⟩ := rstrip_rest (x := lat b) (y := Str.ofString "\x00")
  rw [e1] at hq
  have hll : (lat b).cps.toList.length = b.size := by rw [← len_list, lat_length]
  have hlen : body.cps.toList.length + q.length = b.size := by rw [← hll, hq, List.length_append]
  have hq0 : q = List.replicate q.length 0 := List.eq_replicate_iff.mpr ⟨rfl, fun c hc => by have := hz c hc; rw [zeroS] at this; simpa using this⟩
  have hdiff : ((lat b).length : Int) - (body.length : Int) = q.length := by rw [len_list, len_list, hll]; omega
  have hbi : KBw.bInts b = body.cps.toList.map Int.ofNat ++ List.replicate q.length 0 := by
    rw [bInts_lat, hq, List.map_append]
    congr 1
    conv => lhs; rw [hq0]
    rw [List.map_replicate]; rfl
  have hasc : ∀ (h0 : Txt.stripChars body plainS = Str.ofString "") (h1 : body ≠ Str.ofString ""), RowSaid w mean mg mb (asciiRow body) (body.cps.toList.map Int.ofNat) := by
    intro h0 h1
    have hpl := strip_empty plainS.cps.contains (str_nil h0)
    refine said_ascii (q := Str.ofString "\"" ++ body ++ Str.ofString "\"") ?_ ?_ (by rw [len_list]; omega) (fun e => h1 (str_ext (by rw [e, empty_list]))) fun c hc => plain_no (hpl c hc)
    · simp only [asciiRow, app_list, w_asc, quoL]; simp
    · simp only [app_list, quoL]; simp
  have hspc : 0 < q.length → RowSaid w mean mg mb (spaceRow ((lat b).length - body.length)) (List.replicate q.length 0) := by
    intro h0
    rw [hdiff]
    have := said_space (w := w) (mean := mean) (mg := mg) (mb := mb) (x := spaceRow (q.length : Int)) (v := q.length) (by simp only [spaceRow, app_list, w_spc]; simp) (by omega) (by omega)
    simpa using this
  have hlt : body.length < (lat b).length ↔ 0 < q.length := by rw [len_list, len_list, hll]; omega
  cases h with
  | bytes h0 =>
    cases hv with
    | cons x t hv => 
      cases hv
      have hne : KBw.bInts b ≠ [] := by
        intro e
        have hl : b.size = 0 := by rw [← KBw.ints_length, e]; rfl
        have hbl : body.cps.toList = [] := List.length_eq_zero_iff.mp (by omega)
        refine h0 ?_
        have : body = ⟨#[]⟩ := str_ext hbl
        rw [this]; decide +kernel
      refine rows_one w mean mg mb _ _ t l k ?_
      refine said_byte (r := Txt.join (Str.ofString ", ") ((KBw.bInts b).map tx)) ?_ (glued_eq_join _ _) hne (fun k hk => KBw.ints_in hk) (by rw [KBw.ints_length]; exact hb)
      simp only [byteRow, app_list, w_byt]; simp
  | both h0 h1 h2 =>
    cases hv with
    | cons x t hv =>
      cases hv with
      | cons x2 t2 hv =>
        cases hv
        rw [hbi]
        exact rows_two w mean mg mb _ _ _ _ t t2 l k (hasc h0 h1) (hspc (hlt.mp h2))
  | ascii h0 h1 h2 =>
    cases hv with
    | cons x t hv =>
      cases hv
      have hq1 : q.length = 0 := by
        have := mt hlt.mpr h2; omega
      rw [hbi, hq1, List.replicate_zero, List.append_nil]
      exact rows_one w mean mg mb _ _ t l k (hasc h0 h1)
  | space h0 h1 h2 =>
    cases hv with
    | cons x t hv =>
      cases hv
      have e : body.cps.toList = [] := str_nil h1
      rw [hbi, e, List.map_nil, List.nil_append]
      exact rows_one w mean mg mb _ _ t l k (hspc (hlt.mp h2))
  | none h0 h1 h2 =>
    cases hv
    have hq1 : q.length = 0 := by
      have := mt hlt.mpr h2; omega
    have e : body.cps.toList = [] := str_nil h1
    rw [hbi, e, hq1]
    exact rows_none w mean mg mb l k
end
end
section
theorem Calls.imp {w : World} {mean : ExcName → Option Value} {mg mb : Names} {f : Addr} {dq : Nat} {news : Led} {vs : List Value} {Post Post' : Value → Led → Prop} (h : ∀ r l, Post r l → Post' r l) (C : Calls w mean mg mb f dq news vs Post) : Calls w mean mg mb f dq news vs Post' := by
  intro dp un gd cn cs a ccd cl outer A₀ base h₀ L m s Q E B F X N T hk hd hu k
  exact C dp un gd cn cs a ccd cl outer A₀ base h₀ L m s Q E B F X N T hk hd hu fun r news' h' tk' F' N' p => k r news' h' tk' F' N' (h _ _ p)
theorem CallsF.imp {w : World} {mean : ExcName → Option Value} {mg mb : Names} {f : Addr} {dq : Nat} {own : Led} {vs : List Value} {Post Post' : Value → Led → Prop} (h : ∀ r l, Post r l → Post' r l) (C : CallsF w mean mg mb f dq own vs Post) : CallsF w mean mg mb f dq own vs Post' :=
  fun rest off => Calls.imp (fun r l ⟨own', e, ho, p⟩ => ⟨own', e, ho, h _ _ p⟩) (C rest off)
def RowsPost (w : World) (mean : ExcName → Option Value) (mg mb : Names) (ds : List Int) (r : Value) (own' : Led) : Prop :=
  ∃ (l : Addr) (vs : List Value) (k : Nat), r = .ref l ∧ own' = [(l, listOf vs.toArray k)] ∧ ∀ l k, CallsF w mean mg mb 113 4 [(l, listOf vs.toArray k)] [.ref l] (ListPost ds)
def RowsPostA (w : World) (mean : ExcName → Option Value) (mg mb : Names) (nm : Str) (z : Int) (r : Value) (own' : Led) : Prop :=
  ∃ (l : Addr) (vs : List Value) (k : Nat), r = .ref l ∧ own' = [(l, listOf vs.toArray k)] ∧ ∀ l k, CallsF w mean mg mb 113 4 [(l, listOf vs.toArray k)] [.ref l] (AddrPost nm z)
section
open PySem.Calls
variable {prog : Program} {w : World} {A : Around} {E : Value → Shared → Prop} {s : Shared} {h₀ : Heap} {L : Addr} {news : Led}
theorem tab3_1 {d : Addr} {o : Obj} {x1 x2 x4 : Str} {a1 b1 a2 b2 a4 b4 t : Tok} {value slice : Expr} {Q : Value → Shared → Prop} (N : News h₀ L s.heap news) (hp : (d, o) ∈ news) (lo : (d == sysModules) = false)
    (hd : o.IsDictOf (PySem.intKind prog w) (intKeyPairs [(.int 1 a1, .str x1 b1), (.int 2 a2, .str x2 b2), (.int 4 a4, .str x4 b4)]))
    (hs : ∀ d t, subscripted slice false (.ref d) (.int 1 t) = operate [.ref d, .int 1 t] (getItem (.ref d) (.int 1 t)))
    (h : ∀ t', Q (.str x1 t') { s with toks := s.toks + 1 }) : wpAny (model prog w) A (subscriptTail value slice (.ref d) (.int 1 t)) Q E s :=
  kdt_tail N hp hd (kdt_getItem N hp hd (intKind_is _ _ _ _) (by rfl) (h _)) (hs _ _)
theorem tab3_2 {d : Addr} {o : Obj} {x1 x2 x4 : Str} {a1 b1 a2 b2 a4 b4 t : Tok} {value slice : Expr} {Q : Value → Shared → Prop} (N : News h₀ L s.heap news) (hp : (d, o) ∈ news) (lo : (d == sysModules) = false)
    (hd : o.IsDictOf (PySem.intKind prog w) (intKeyPairs [(.int 1 a1, .str x1 b1), (.int 2 a2, .str x2 b2), (.int 4 a4, .str x4 b4)]))
    (hs : ∀ d t, subscripted slice false (.ref d) (.int 2 t) = operate [.ref d, .int 2 t] (getItem (.ref d) (.int 2 t)))
    (h : ∀ t', Q (.str x2 t') { s with toks := s.toks + 1 }) : wpAny (model prog w) A (subscriptTail value slice (.ref d) (.int 2 t)) Q E s :=
  kdt_tail N hp hd (kdt_getItem N hp hd (intKind_is _ _ _ _) (by rfl) (h _)) (hs _ _)
theorem tab3_4 {d : Addr} {o : Obj} {x1 x2 x4 : Str} {a1 b1 a2 b2 a4 b4 t : Tok} {value slice : Expr} {Q : Value → Shared → Prop} (N : News h₀ L s.heap news) (hp : (d, o) ∈ news) (lo : (d == sysModules) = false)
    (hd : o.IsDictOf (PySem.intKind prog w) (intKeyPairs [(.int 1 a1, .str x1 b1), (.int 2 a2, .str x2 b2), (.int 4 a4, .str x4 b4)]))
    (hs : ∀ d t, subscripted slice false (.ref d) (.int 4 t) = operate [.ref d, .int 4 t] (getItem (.ref d) (.int 4 t)))
    (h : ∀ t', Q (.str x4 t') { s with toks := s.toks + 1 }) : wpAny (model prog w) A (subscriptTail value slice (.ref d) (.int 4 t)) Q E s :=
  kdt_tail N hp hd (kdt_getItem N hp hd (intKind_is _ _ _ _) (by rfl) (h _)) (hs _ _)
end
theorem str_k {prog : Program} {w : World} {A : Around} {E : Value → Shared → Prop} {s : Shared} {v a : Int} (b : Int) {t : Tok} {Q : Value → Shared → Prop} (e : a = b) (b0 : 0 < b) (b1 : b < 10 ^ 10) (h : ∀ t', Q (.str (tx (v.fmod b)) t') { s with toks := s.toks + 1 }) :
    wpAny (model prog w) A (call (.type "str") [.int (v.fmod a) t]) Q E s := by
  subst e
  have h1 := Int.fmod_nonneg_of_pos v b0
  have h2 := Int.fmod_lt_of_pos v b0
  exact P.str_of_int (shown (N := 2 ^ 1920) (by omega) (by omega) (Int.le_refl _)) (h _)
local macro_rules | `(tactic| walk_at "subscriptTail") => `(tactic| (k_here; (fail_if_success (with_reducible show wpAny _ _ (subscriptTail (PySem.Expr.Name _ _) _ _ _) _ _ _)); (with_reducible rename Obj.IsDictOf _ _ _ => hd9); refine Hold.out ?_))
local macro_rules | `(tactic| walk_at "call type:str") => `(tactic| (k_here; (with_reducible show wpAny _ _ (call (Value.type "str") [Value.int (Int.fmod _ _) _]) _ _ _); refine Hold.out ?_))
local macro_rules | `(tactic| walk_at "binaryOp Add str str") => `(tactic| (k_here; (with_reducible show wpAny _ _ (binaryOp Operator.Add (Value.str _ _) (Value.str _ _)) _ _ _); (refine add_t (by first | assumption | decide) (by first | assumption | decide) ?_); intro _ _))
set_option maxRecDepth 100000 in
set_option maxHeartbeats 8000000 in
theorem piece_num1 (w : World) (mean : ExcName → Option Value) (mg mb : Names) (P : Addr) (v : Int) (t0 t1 t2 : Tok) (h0 : -128 ≤ v) (h1 : v < 512) (hl : (tx (v.fmod 256)).length ≤ 1000) :
    CallsF w mean mg mb 60 3 [(P, tupO [.str (Str.ofString "num") t0, .int 1 t1, .int v t2])] [.ref P] (RowsPost w mean mg mb [v.fmod 256]) := by
  w_top off
  have hrw : PySem.Challenge.rw_nm0003_01 = PySem.Challenge.rw_nm0003_01 := rfl
  revert hrw
  unfold CallsF
  unfold Calls
  k_fill
  intro _ rest off
  intro dp un gd cn cs a ccd cl outer A₀ base h₀ L m s Q E B F X N T hk hd hu hret
  refine wpAny_call ?_
  k_dflt (refine' enterF (rest := rest) ?k1 ?k2 ?k3 ?k4 ?k5 ?kO ?kA ?kF ?kK ?k6 ?k7 ?k8 ?k9 ?kB ?_ ?c2 ?c3 ?c4 ?c5; (case kA => exact rfl); (case kF => exact rfl); (case kK => assumption); (case kO => exact off); (case k1 => k_asm); (case k2 => k_asm); (case k3 => k_asm); (case k4 => exact N); (case k5 => k_asm); (case k6 => k_is); (case k7 => k_is); (case k8 => walk_at "nm room"); (case k9 => exact BindsTo.of_eq rfl); (case c5 => decide); (case kB => exact locs rfl); (case c2 => exact rfl); (case c3 => exact rfl); (case c4 => exact rfl); k_whole; intro g' L' h' aA mM FG' F' N' B' X' T' l1 hRg; (try k_lt l1); (try dsimp only); (try k_lift B'); (try k_fold))
  have hk1 : (Str.ofString "num" == Str.ofString "num") = true := by decide
  (walk_at "nm steps")
  refine Hold.mk ?_
  with_reducible rename Obj.IsDictOf _ _ _ => hd9
  with_reducible rename (_ == sysModules) = false => lo9
  rename News _ _ _ _ => lN'
  refine tab3_1 lN' (.head _) lo9 hd9 ?a2 ?_
  case a2 => intro _ _; with_unfolding_all rfl
  clear hd9
  intro _
  dsimp only
  (walk_at "nm steps")
  refine Hold.mk ?_
  refine str_k 256 (by decide) (by decide) (by decide) ?_
  intro _
  (walk_at "nm steps")
  refine callsF_end hret N hRg (by k_asm) (by k_asm) (own' := [_]) (fun q hq => by rw [List.mem_singleton.mp hq]; k_mem) ⟨_, [_], _, rfl, rfl, fun l k => ?_⟩ (by k_asm) (by k_asm)
  exact rows_one w mean mg mb _ _ _ l k (said_byte (r := tx (v.fmod 256)) (ks := [v.fmod 256]) (by simp only [app_list]; rfl) rfl (by simp) (fun k hk => by rw [List.mem_singleton.mp hk]; exact ⟨Int.fmod_nonneg_of_pos _ (by decide), Int.fmod_lt_of_pos _ (by decide)⟩) (by simp))
set_option maxRecDepth 100000 in
set_option maxHeartbeats 8000000 in
theorem piece_num2 (w : World) (mean : ExcName → Option Value) (mg mb : Names) (P : Addr) (v : Int) (t0 t1 t2 : Tok) (h0 : -32768 ≤ v) (h1 : v < 131072) (hl : (tx (v.fmod 65536)).length ≤ 1000) :
    CallsF w mean mg mb 60 3 [(P, tupO [.str (Str.ofString "num") t0, .int 2 t1, .int v t2])] [.ref P] (RowsPost w mean mg mb (octE 2 (v.fmod 65536))) := by
  w_top off
  have hrw : PySem.Challenge.rw_nm0003_01 = PySem.Challenge.rw_nm0003_01 := rfl
  revert hrw
  unfold CallsF
  unfold Calls
  k_fill
  intro _ rest off
  intro dp un gd cn cs a ccd cl outer A₀ base h₀ L m s Q E B F X N T hk hd hu hret
  refine wpAny_call ?_
  k_dflt (refine' enterF (rest := rest) ?k1 ?k2 ?k3 ?k4 ?k5 ?kO ?kA ?kF ?kK ?k6 ?k7 ?k8 ?k9 ?kB ?_ ?c2 ?c3 ?c4 ?c5; (case kA => exact rfl); (case kF => exact rfl); (case kK => assumption); (case kO => exact off); (case k1 => k_asm); (case k2 => k_asm); (case k3 => k_asm); (case k4 => exact N); (case k5 => k_asm); (case k6 => k_is); (case k7 => k_is); (case k8 => walk_at "nm room"); (case k9 => exact BindsTo.of_eq rfl); (case c5 => decide); (case kB => exact locs rfl); (case c2 => exact rfl); (case c3 => exact rfl); (case c4 => exact rfl); k_whole; intro g' L' h' aA mM FG' F' N' B' X' T' l1 hRg; (try k_lt l1); (try dsimp only); (try k_lift B'); (try k_fold))
  have hk1 : (Str.ofString "num" == Str.ofString "num") = true := by decide
  (walk_at "nm steps")
  refine Hold.mk ?_
  with_reducible rename Obj.IsDictOf _ _ _ => hd9
  with_reducible rename (_ == sysModules) = false => lo9
  rename News _ _ _ _ => lN'
  refine tab3_2 lN' (.head _) lo9 hd9 ?a2 ?_
  case a2 => intro _ _; with_unfolding_all rfl
  clear hd9
  intro _
  dsimp only
  (walk_at "nm steps")
  refine Hold.mk ?_
  refine str_k 65536 (by decide) (by decide) (by decide) ?_
  intro _
  (walk_at "nm steps")
  refine callsF_end hret N hRg (by k_asm) (by k_asm) (own' := [_]) (fun q hq => by rw [List.mem_singleton.mp hq]; k_mem) ⟨_, [_], _, rfl, rfl, fun l k => ?_⟩ (by k_asm) (by k_asm)
  exact rows_one w mean mg mb _ _ _ l k (said_half (v := v.fmod 65536) (by simp only [app_list]; rfl) (Int.fmod_nonneg_of_pos _ (by decide)) (Int.fmod_lt_of_pos _ (by decide)))
set_option maxRecDepth 100000 in
set_option maxHeartbeats 8000000 in
theorem piece_num4 (w : World) (mean : ExcName → Option Value) (mg mb : Names) (P : Addr) (v : Int) (t0 t1 t2 : Tok) (h0 : -2147483648 ≤ v) (h1 : v < 8589934592) (hl : (tx (v.fmod 4294967296)).length ≤ 1000) :
    CallsF w mean mg mb 60 3 [(P, tupO [.str (Str.ofString "num") t0, .int 4 t1, .int v t2])] [.ref P] (RowsPost w mean mg mb (octE 4 (v.fmod 4294967296))) := by
  w_top off
  have hrw : PySem.Challenge.rw_nm0003_01 = PySem.Challenge.rw_nm0003_01 := rfl
  revert hrw
  unfold CallsF
  unfold Calls
  k_fill
  intro _ rest off
  intro dp un gd cn cs a ccd cl outer A₀ base h₀ L m s Q E B F X N T hk hd hu hret
  refine wpAny_call ?_
  k_dflt (refine' enterF (rest := rest) ?k1 ?k2 ?k3 ?k4 ?k5 ?kO ?kA ?kF ?kK ?k6 ?k7 ?k8 ?k9 ?kB ?_ ?c2 ?c3 ?c4 ?c5; (case kA => exact rfl); (case kF => exact rfl); (case kK => assumption); (case kO => exact off); (case k1 => k_asm); (case k2 => k_asm); (case k3 => k_asm); (case k4 => exact N); (case k5 => k_asm); (case k6 => k_is); (case k7 => k_is); (case k8 => walk_at "nm room"); (case k9 => exact BindsTo.of_eq rfl); (case c5 => decide); (case kB => exact locs rfl); (case c2 => exact rfl); (case c3 => exact rfl); (case c4 => exact rfl); k_whole; intro g' L' h' aA mM FG' F' N' B' X' T' l1 hRg; (try k_lt l1); (try dsimp only); (try k_lift B'); (try k_fold))
  have hk1 : (Str.ofString "num" == Str.ofString "num") = true := by decide
  (walk_at "nm steps")
  refine Hold.mk ?_
  with_reducible rename Obj.IsDictOf _ _ _ => hd9
  with_reducible rename (_ == sysModules) = false => lo9
  rename News _ _ _ _ => lN'
  refine tab3_4 lN' (.head _) lo9 hd9 ?a2 ?_
  case a2 => intro _ _; with_unfolding_all rfl
  clear hd9
  intro _
  dsimp only
  (walk_at "nm steps")
  refine Hold.mk ?_
  refine str_k 4294967296 (by decide) (by decide) (by decide) ?_
  intro _
  (walk_at "nm steps")
  refine callsF_end hret N hRg (by k_asm) (by k_asm) (own' := [_]) (fun q hq => by rw [List.mem_singleton.mp hq]; k_mem) ⟨_, [_], _, rfl, rfl, fun l k => ?_⟩ (by k_asm) (by k_asm)
  exact rows_one w mean mg mb _ _ _ l k (said_word (v := v.fmod 4294967296) (by simp only [app_list]; rfl) (Int.fmod_nonneg_of_pos _ (by decide)) (Int.fmod_lt_of_pos _ (by decide)))
end
section
local macro_rules | `(tactic| walk_at "binaryOp Add str str") => `(tactic| (k_here; (with_reducible show wpAny _ _ (binaryOp Operator.Add (Value.str _ _) (Value.str _ _)) _ _ _); (refine add_t (by first | assumption | decide) (by first | assumption | decide) ?_); intro _ _))
set_option maxRecDepth 100000 in
set_option maxHeartbeats 8000000 in
theorem piece_gap (w : World) (mean : ExcName → Option Value) (mg mb : Names) (P : Addr) (n : Int) (h0 : 0 < n) (h1 : n < 500) (hl : (tx n).length ≤ 1000) (t0 t1 : Tok) :
    CallsF w mean mg mb 60 3 [(P, tupO [.str (Str.ofString "gap") t0, .int n t1])] [.ref P] (RowsPost w mean mg mb (List.replicate n.toNat 0)) := by
  w_top off
  have hrw : PySem.Challenge.rw_nm0003_01 = PySem.Challenge.rw_nm0003_01 := rfl
  revert hrw
  unfold CallsF
  unfold Calls
  k_fill
  intro _ rest off
  intro dp un gd cn cs a ccd cl outer A₀ base h₀ L m s Q E B F X N T hk hd hu hret
  refine wpAny_call ?_
  k_dflt (refine' enterF (rest := rest) ?k1 ?k2 ?k3 ?k4 ?k5 ?kO ?kA ?kF ?kK ?k6 ?k7 ?k8 ?k9 ?kB ?_ ?c2 ?c3 ?c4 ?c5; (case kA => exact rfl); (case kF => exact rfl); (case kK => assumption); (case kO => exact off); (case k1 => k_asm); (case k2 => k_asm); (case k3 => k_asm); (case k4 => exact N); (case k5 => k_asm); (case k6 => k_is); (case k7 => k_is); (case k8 => walk_at "nm room"); (case k9 => exact BindsTo.of_eq rfl); (case c5 => decide); (case kB => exact locs rfl); (case c2 => exact rfl); (case c3 => exact rfl); (case c4 => exact rfl); k_whole; intro g' L' h' aA mM FG' F' N' B' X' T' l1 hRg; (try k_lt l1); (try dsimp only); (try k_lift B'); (try k_fold))
  have hk1 : (Str.ofString "gap" == Str.ofString "num") = false := by decide
  have hk2 : (Str.ofString "gap" == Str.ofString "text") = false := by decide
  have hk3 : (Str.ofString "gap" == Str.ofString "addr") = false := by decide
  have hk4 : (Str.ofString "gap" == Str.ofString "gap") = true := by decide
  (walk_at "nm steps")
  refine callsF_end hret N hRg (by k_asm) (by k_asm) (own' := [_]) (fun q hq => by rw [List.mem_singleton.mp hq]; k_mem) ⟨_, [_], _, rfl, rfl, fun l k => ?_⟩ (by k_asm) (by k_asm)
  exact rows_one w mean mg mb _ _ _ l k (said_space (by simp only [app_list]; rfl) h0 h1)
set_option maxRecDepth 100000 in
set_option maxHeartbeats 8000000 in
theorem piece_gap0e (w : World) (mean : ExcName → Option Value) (mg mb : Names) (P : Addr) (t0 t1 : Tok) :
    CallsF w mean mg mb 60 3 [(P, tupO [.str (Str.ofString "gap") t0, .int 0 t1])] [.ref P] (fun r own' => ∃ l k, r = .ref l ∧ own' = [(l, listOf #[] k)]) := by
  w_top off
  have hrw : PySem.Challenge.rw_nm0003_01 = PySem.Challenge.rw_nm0003_01 := rfl
  revert hrw
  unfold CallsF
  unfold Calls
  k_fill
  intro _ rest off
  intro dp un gd cn cs a ccd cl outer A₀ base h₀ L m s Q E B F X N T hk hd hu hret
  refine wpAny_call ?_
  k_dflt (refine' enterF (rest := rest) ?k1 ?k2 ?k3 ?k4 ?k5 ?kO ?kA ?kF ?kK ?k6 ?k7 ?k8 ?k9 ?kB ?_ ?c2 ?c3 ?c4 ?c5; (case kA => exact rfl); (case kF => exact rfl); (case kK => assumption); (case kO => exact off); (case k1 => k_asm); (case k2 => k_asm); (case k3 => k_asm); (case k4 => exact N); (case k5 => k_asm); (case k6 => k_is); (case k7 => k_is); (case k8 => walk_at "nm room"); (case k9 => exact BindsTo.of_eq rfl); (case c5 => decide); (case kB => exact locs rfl); (case c2 => exact rfl); (case c3 => exact rfl); (case c4 => exact rfl); k_whole; intro g' L' h' aA mM FG' F' N' B' X' T' l1 hRg; (try k_lt l1); (try dsimp only); (try k_lift B'); (try k_fold))
  have hk1 : (Str.ofString "gap" == Str.ofString "num") = false := by decide
  have hk2 : (Str.ofString "gap" == Str.ofString "text") = false := by decide
  have hk3 : (Str.ofString "gap" == Str.ofString "addr") = false := by decide
  have hk4 : (Str.ofString "gap" == Str.ofString "gap") = true := by decide
  (walk_at "nm steps")
  exact callsF_end hret N hRg (by k_asm) (by k_asm) (own' := [_]) (fun q hq => by rw [List.mem_singleton.mp hq]; k_mem) ⟨_, _, rfl, rfl⟩ (by k_asm) (by k_asm)
theorem piece_gap0 (w : World) (mean : ExcName → Option Value) (mg mb : Names) (P : Addr) (t0 t1 : Tok) :
    CallsF w mean mg mb 60 3 [(P, tupO [.str (Str.ofString "gap") t0, .int 0 t1])] [.ref P] (RowsPost w mean mg mb []) :=
  CallsF.imp (fun r own' ⟨l, k, e, e2⟩ => ⟨l, [], k, e, e2, fun l k => rows_none w mean mg mb l k⟩) (piece_gap0e w mean mg mb P t0 t1)
end
section
section
variable {w : World} {mean : ExcName → Option Value} {mg mb : Names} {dp un : Nat} {gd : Option (List Code)} {cn : Str} {cs : Scope} {a : Addr} {ccd : Value} {cl : List (Str × Addr)} {outer : List Env} {A₀ : Around} {base h₀ : Heap} {L : Addr} {m : Names} {s : Shared} {Q E : Value → Shared → Prop} {news rest own : Led}
theorem body_len {b : Array UInt8} (hb : b.size ≤ 11) : (Txt.rstripChars (lat b) (Str.ofString "\x00")).length ≤ 1000 := by
  obtain ⟨q, hq, _⟩ := rstrip_rest (x := lat b) (y := Str.ofString "\x00")
  have h1 : (lat b).length = b.size := lat_length b
  rw [len_list, hq, List.length_append] at h1
  rw [len_list]; omega
theorem oct_k {b : Array UInt8} {t : Tok} (hb : b.size ≤ 11) (B : Below A₀ base outer h₀) (F : Fr h₀ L s.heap m) (X : (Nm.hd.heap_39 w.params).In h₀) (N : News h₀ L s.heap news)
    (T : Top Nm.hd.view_39 (looseW Nm.hd.view_39 []) mean mg mb h₀) (hk : cs.kind = .function) (hd : dp + 1 < recursionLimit) (hu : un + 1000 * 1 < cLine)
    (k : ∀ l (vs : List Value) k' h' tk', (∀ l k, CallsF w mean mg mb 113 4 [(l, listOf vs.toArray k)] [.ref l] (ListPost (KBw.bInts b))) → LCg.Off1 l news → Fr h₀ L h' m → News h₀ L h' ((l, listOf vs.toArray k') :: news) → Q (.ref l) { s with heap := h', toks := tk' }) :
    wpAny (model PySem.Challenge.rw_nm0003_01.row.prog w) (ktrTop dp un gd cn cs L a ccd cl outer) (call (.ref 53) [.bytes b t]) Q E s :=
  Calls.use (oct_raw w mean mg mb b t news hb _ _ rfl rfl (by rw [lat_length]; omega) (body_len hb)) B F X N T hk hd hu
    fun r news' h' tk' F' N' ⟨l, vs, k', rows, e, hlt, e2, hv, ho⟩ => e ▸ k l vs k' h' tk' (fun l k => oct_law hb rfl hv ho l k) (off1_of fun q hq => Nat.ne_of_lt (hlt q hq)) F' (e2 ▸ N')
end
end
local macro_rules | `(tactic| walk_at "call ref") => `(tactic| (k_here; (with_reducible show wpAny _ _ (call (Value.ref 53) _) _ _ _); k_dflt (
  refine' oct_k ?kN ?k1 ?k2 ?k3 ?k4 ?k5 ?kK ?kD ?kE ?_; (case kN => assumption); (case k1 => k_asm); (case k2 => k_asm); (case k3 => k_asm); (case k4 => k_asm); (case k5 => k_asm); (case kK => first | exact rfl | assumption); (case kD => walk_at "nm room"); (case kE => walk_at "nm units"); k_whole; intro l' vs' k' h' tk' hC' o1' F' N'; (try simp only [LCg.Off1, and_true] at o1'); (try k_sweep); (try dsimp only))))
local macro_rules | `(tactic| walk_at "nm spare 2") => `(tactic| skip)
section
set_option maxRecDepth 100000 in
set_option maxHeartbeats 8000000 in
theorem piece_text (w : World) (mean : ExcName → Option Value) (mg mb : Names) (P : Addr) (b : Array UInt8) (t0 t1 : Tok) (hb : b.size ≤ 11) :
    CallsF w mean mg mb 60 3 [(P, tupO [.str (Str.ofString "text") t0, .bytes b t1])] [.ref P] (RowsPost w mean mg mb (KBw.bInts b)) := by
  w_top off
  have hrw : PySem.Challenge.rw_nm0003_01 = PySem.Challenge.rw_nm0003_01 := rfl
  revert hrw
  unfold CallsF
  unfold Calls
  k_fill
  intro _ rest off
  intro dp un gd cn cs a ccd cl outer A₀ base h₀ L m s Q E B F X N T hk hd hu hret
  refine wpAny_call ?_
  k_dflt (refine' enterF (rest := rest) ?k1 ?k2 ?k3 ?k4 ?k5 ?kO ?kA ?kF ?kK ?k6 ?k7 ?k8 ?k9 ?kB ?_ ?c2 ?c3 ?c4 ?c5; (case kA => exact rfl); (case kF => exact rfl); (case kK => assumption); (case kO => exact off); (case k1 => k_asm); (case k2 => k_asm); (case k3 => k_asm); (case k4 => exact N); (case k5 => k_asm); (case k6 => k_is); (case k7 => k_is); (case k8 => walk_at "nm room"); (case k9 => exact BindsTo.of_eq rfl); (case c5 => decide); (case kB => exact locs rfl); (case c2 => exact rfl); (case c3 => exact rfl); (case c4 => exact rfl); k_whole; intro g' L' h' aA mM FG' F' N' B' X' T' l1 hRg; (try k_lt l1); (try dsimp only); (try k_lift B'); (try k_fold))
  have hk1 : (Str.ofString "text" == Str.ofString "num") = false := by decide
  have hk2 : (Str.ofString "text" == Str.ofString "text") = true := by decide
  (walk_at "nm steps")
  refine callsF_end hret N hRg (by k_asm) (by k_asm) (own' := [_]) (fun q hq => by rw [List.mem_singleton.mp hq]; k_mem) ⟨_, _, _, rfl, rfl, ?_⟩ (by k_asm) (by k_asm)
  assumption
end
section
theorem symOut_len {nm x : Str} {v : Int} (hn : nm.length ≤ 900) (h : SymOut nm v x) : x.length ≤ 1000 := by
  obtain ⟨z, _, z0, z1, ⟨rfl, rfl⟩ | ⟨h, rfl⟩ | ⟨h, rfl⟩⟩ := h
  · omega
  · have h1 : (Str.ofString "+").length = 1 := by decide
    have h2 : (tx z).length ≤ 10 := tx_len10 (by omega) (by omega)
    rw [PySem.Str.length_append, PySem.Str.length_append]; omega
  · have h1 : (Str.ofString "-").length = 1 := by decide
    have h2 : (tx (-z)).length ≤ 10 := tx_len10 (by omega) (by omega)
    rw [PySem.Str.length_append, PySem.Str.length_append]; omega
section
variable {w : World} {mean : ExcName → Option Value} {mg mb : Names} {dp un : Nat} {gd : Option (List Code)} {cn : Str} {cs : Scope} {a : Addr} {ccd : Value} {cl : List (Str × Addr)} {outer : List Env} {A₀ : Around} {base h₀ : Heap} {L : Addr} {m : Names} {s : Shared} {Q E : Value → Shared → Prop} {news rest own : Led}
theorem sym_k {nm : Str} {v : Int} {t u : Tok} (hn : nm.length ≤ 900) (h0 : -10000000000 ≤ v) (h1 : v ≤ 10000000000) (B : Below A₀ base outer h₀) (F : Fr h₀ L s.heap m) (X : (Nm.hd.heap_39 w.params).In h₀) (N : News h₀ L s.heap news)
    (T : Top Nm.hd.view_39 (looseW Nm.hd.view_39 []) mean mg mb h₀) (hk : cs.kind = .function) (hd : dp + 2 < recursionLimit) (hu : un + 1000 * 2 < cLine)
    (k : ∀ x t' h' tk', SymOut nm v x → x.length ≤ 1000 → Fr h₀ L h' m → News h₀ L h' news → Q (.str x t') { s with heap := h', toks := tk' }) :
    wpAny (model PySem.Challenge.rw_nm0003_01.row.prog w) (ktrTop dp un gd cn cs L a ccd cl outer) (call (.ref 48) [.str nm t, .int v u]) Q E s :=
  Calls.use (sym_raw w mean mg mb nm v t u news hn h0 h1) B F X N T hk hd hu fun r news' h' tk' F' N' ⟨x, t', e, e2, e3⟩ => e ▸ k x t' h' tk' e3 (symOut_len hn e3) F' (e2 ▸ N')
end
end
local macro_rules | `(tactic| walk_at "call ref") => `(tactic| (k_here; (with_reducible show wpAny _ _ (call (Value.ref 48) _) _ _ _); k_dflt (
  refine' sym_k ?hn ?h0 ?h1 ?k1 ?k2 ?k3 ?k4 ?k5 ?kK ?kD ?kE ?_; (case hn => assumption); (case h0 => first | assumption | omega); (case h1 => first | assumption | omega); (case k1 => k_asm); (case k2 => k_asm); (case k3 => k_asm); (case k4 => k_asm); (case k5 => k_asm); (case kK => first | exact rfl | assumption); (case kD => walk_at "nm room"); (case kE => walk_at "nm units"); k_whole; intro x' t' h' tk' so' xl' F' N'; (try k_sweep); (try dsimp only))))
section
theorem sym_said {w : World} {mean : ExcName → Option Value} {mg mb : Names} {nm x : Str} {v : Int} (hn : NameOk nm) (h : SymOut nm v x) : RowAddr w mean mg mb (Str.ofString "\t.word " ++ x) nm (v.fmod 4294967296) := by
  obtain ⟨z, e, z0, z1, h⟩ := h
  have hx : (Str.ofString "\t.word " ++ x).cps.toList = 9 :: ((Str.ofString ".word").cps.toList ++ 32 :: x.cps.toList) := by simp only [app_list, w_wrd]; simp
  rcases h with ⟨rfl, rfl⟩ | ⟨h, hx2⟩ | ⟨h, hx2⟩
  · rw [← e]; exact said_plain hx hn
  · rw [← e]; exact said_plus hx hn (by rw [hx2, app_list, app_list, plusS]; simp) (by omega) (by omega)
  · have e2 : z = - -z := by omega
    rw [← e, e2]; exact said_minus hx hn (by rw [hx2, app_list, app_list, minusS]; simp) (by omega) (by omega)
local macro_rules | `(tactic| walk_at "binaryOp Add str str") => `(tactic| (k_here; (with_reducible show wpAny _ _ (binaryOp Operator.Add (Value.str _ _) (Value.str _ _)) _ _ _); (refine add_t (by first | assumption | decide) (by first | assumption | decide) ?_); intro _ _))
set_option maxRecDepth 100000 in
set_option maxHeartbeats 8000000 in
theorem piece_addr (w : World) (mean : ExcName → Option Value) (mg mb : Names) (P : Addr) (nm : Str) (v : Int) (t0 t1 t2 : Tok) (hn : NameOk nm) (hnl : nm.length ≤ 900) (h0 : -10000000000 ≤ v) (h1 : v ≤ 10000000000) :
    CallsF w mean mg mb 60 3 [(P, tupO [.str (Str.ofString "addr") t0, .str nm t1, .int v t2])] [.ref P] (RowsPostA w mean mg mb nm (v.fmod 4294967296)) := by
  w_top off
  have hrw : PySem.Challenge.rw_nm0003_01 = PySem.Challenge.rw_nm0003_01 := rfl
  revert hrw
  unfold CallsF
  unfold Calls
  k_fill
  intro _ rest off
  intro dp un gd cn cs a ccd cl outer A₀ base h₀ L m s Q E B F X N T hk hd hu hret
  refine wpAny_call ?_
  k_dflt (refine' enterF (rest := rest) ?k1 ?k2 ?k3 ?k4 ?k5 ?kO ?kA ?kF ?kK ?k6 ?k7 ?k8 ?k9 ?kB ?_ ?c2 ?c3 ?c4 ?c5; (case kA => exact rfl); (case kF => exact rfl); (case kK => assumption); (case kO => exact off); (case k1 => k_asm); (case k2 => k_asm); (case k3 => k_asm); (case k4 => exact N); (case k5 => k_asm); (case k6 => k_is); (case k7 => k_is); (case k8 => walk_at "nm room"); (case k9 => exact BindsTo.of_eq rfl); (case c5 => decide); (case kB => exact locs rfl); (case c2 => exact rfl); (case c3 => exact rfl); (case c4 => exact rfl); k_whole; intro g' L' h' aA mM FG' F' N' B' X' T' l1 hRg; (try k_lt l1); (try dsimp only); (try k_lift B'); (try k_fold))
  have hk1 : (Str.ofString "addr" == Str.ofString "num") = false := by decide
  have hk2 : (Str.ofString "addr" == Str.ofString "text") = false := by decide
  have hk3 : (Str.ofString "addr" == Str.ofString "addr") = true := by decide
  (walk_at "nm steps")
  refine callsF_end hret N hRg (by k_asm) (by k_asm) (own' := [_]) (fun q hq => by rw [List.mem_singleton.mp hq]; k_mem) ⟨_, [_], _, rfl, rfl, fun l k => ?_⟩ (by k_asm) (by k_asm)
  exact rows_addr w mean mg mb _ _ _ _ l k (sym_said hn (by assumption))
end
section
section
variable {w : World} {mean : ExcName → Option Value} {mg mb : Names} {dp un : Nat} {gd : Option (List Code)} {cn : Str} {cs : Scope} {a : Addr} {ccd : Value} {cl : List (Str × Addr)} {outer : List Env} {A₀ : Around} {base h₀ : Heap} {L : Addr} {m : Names} {s : Shared} {Q E : Value → Shared → Prop} {news : Led}
theorem signs_use {W C : Addr} {place : Int} {tp : Tok} {st : Int} {ts : Tok} {n nC : Nat} {vs : List Value} {ns : List Int} {news' : Obj → Led}
    (B : Below A₀ base outer h₀) (F : Fr h₀ L s.heap m) (X : (Nm.hd.heap_39 w.params).In h₀) (N : News h₀ L s.heap news)
    (T : Top Nm.hd.view_39 (looseW Nm.hd.view_39 []) mean mg mb h₀) (hk : cs.kind = .function) (hd : dp + 2 < recursionLimit) (hu : un + 1000 * 2 < cLine)
    (U : UpdF W (wellO C place tp st ts n) news news') (hC : (C, listOf vs.toArray nC) ∈ news) (hWC : C ≠ W) (wf : WF vs ns)
    (h0 : 0 ≤ place) (h1 : place < 900000) (s0 : 0 ≤ st) (s1 : st < 2147483647)
    (h : ∀ a t place' tp' st' ts' h' tk', a.size ≤ 11 → place ≤ place' → place' ≤ place + 20 → 0 ≤ st' → st' < 2147483647 → Fr h₀ L h' m → News h₀ L h' (news' (wellO C place' tp' st' ts' n)) → Q (.bytes a t) { s with heap := h', toks := tk' }) :
    wpAny (model PySem.Challenge.rw_nm0003_01.row.prog w) (ktrTop dp un gd cn cs L a ccd cl outer) (call (.ref 77) [.ref W]) Q E s := by
  obtain ⟨rest, r1, r3, r4⟩ := upd_any U
  have hcell : ∀ q ∈ rest, q.1 = C → q = (C, listOf vs.toArray nC) := by
    intro q hq e
    have e1 := (N _ (r3 _ (.tail _ hq))).1
    have e2 := (N _ hC).1
    rw [e] at e1
    dsimp only at e2
    rw [e1] at e2
    cases q
    dsimp only at e e2
    rw [e]
    cases e2
    rfl
  refine signs_raw w mean mg mb W C place tp st ts n nC vs ns (rest.filter fun q => decide (q.1 ≠ C)) hWC ?_ wf h0 h1 s0 s1 dp un gd cn cs a ccd cl outer A₀ base h₀ L m s Q E B F X ?_ T hk hd hu ?_
  · intro q hq b hb
    obtain ⟨q1, q2⟩ := List.mem_filter.mp hq
    simp only [List.mem_cons, List.not_mem_nil, or_false] at hb
    rcases hb with rfl | rfl
    · exact r1 q q1
    · simpa using q2
  · intro p hp
    rcases List.mem_cons.mp hp with rfl | hp
    · exact N _ (r3 _ (.head _))
    · rcases List.mem_cons.mp hp with rfl | hp
      · exact N _ hC
      · exact N _ (r3 _ (.tail _ (List.mem_filter.mp hp).1))
  · rintro r news₂ h' tk' F' N' ⟨b, t, place', tp', st', ts', b0, p0, p1, y0, y1⟩
    refine h b t place' tp' st' ts' h' tk' b0 p0 p1 y0 y1 F' ?_
    intro p hp
    rcases r4 _ p hp with rfl | hp
    · exact N' _ (.head _)
    · by_cases e : p.1 = C
      · rw [hcell p hp e]; exact N' _ (.tail _ (.head _))
      · exact N' _ (.tail _ (.tail _ (List.mem_filter.mpr ⟨hp, by simpa using e⟩)))
end
end
local macro_rules | `(tactic| walk_at "call ref") => `(tactic| (k_here; (with_reducible show wpAny _ _ (call (Value.ref 77) _) _ _ _); k_dflt (
  refine' signs_use ?k1 ?k2 ?k3 ?k4 ?k5 ?kK ?kD ?kE ?kU ?kC ?kW ?kwf ?b0 ?b1 ?b2 ?b3 ?_; (case k1 => k_asm); (case k2 => k_asm); (case k3 => k_asm); (case k4 => k_asm); (case k5 => k_asm); (case kK => first | exact rfl | assumption); (case kD => walk_at "nm room"); (case kE => walk_at "nm units"); (case kU => k_updF); (case kC => k_mem); (case kW => first | assumption | k_ne); (case kwf => assumption); (case b0 => first | assumption | omega); (case b1 => omega); (case b2 => first | assumption | omega); (case b3 => first | assumption | omega); k_whole; intro b' t' pl' tp' st' ts' h' tk' bz' p0' p1' s0' s1' F' N'; (try dsimp only at N'); (try k_sweep); (try dsimp only))))
section
set_option maxRecDepth 100000
section
open PySem.Calls PyProof.V PySem.Spec
variable {prog : Program} {w : World} {A : Around} {E : Value → Shared → Prop} {s : Shared}
theorem hint_bytes {b : Array UInt8} {t : Tok} {Q : Bool → Shared → Prop} (h : Q false s) : wpAny (model prog w) A (Builtin.List.listLengthHint (.bytes b t)) Q E s := by
  unfold Builtin.List.listLengthHint
  refine wpAny_bind (wpAny_specialOf (T := "bytes") (v := .bytes b t) rfl FB.slot_bytes_len.lookup ?_)
  wp_delta
  refine wpAny_bind (wpAny_isInstance (T := "bytes") (b := true) rfl (by rw [isSubtype_type]; kernel_rfl) ?_)
  show wpAny _ _ (typeOf (Value.bytes b t) >>= _) _ _ _
  refine wpAny_bind (wpAny_typeOf (T := "bytes") (v := .bytes b t) rfl ?_)
  exact wpAny_pure h
abbrev ByteAt (b : Array UInt8) (i : Nat) (v : Value) : Prop := ∃ c u, b[i]? = some c ∧ v = .int (c.toNat : Int) u
theorem extend_bytes {R : Result → Shared → Prop} {b : Array UInt8} {t : Tok} (hh : A.handled = none) (hlen : b.size ≤ 2 ^ 24) (S : Addr) (res : Value) (c₀ : Nat) (hS : s.heap.get? S = some { cls := .type "list", data := .seq #[] c₀ })
    (hR : ∀ h' tk acc' c', (∀ b o, b ≠ S → s.heap.get? b = some o → h'.get? b = some o) → h'.get? S = some { cls := .type "list", dict := none, data := .seq acc' c', slots := #[] } →
      ItemsOf (ByteAt b) acc' b.size → R (.ok (.ret res)) { s with heap := h', toks := tk }) :
    wpAny (model prog w) A.in1 (Builtin.List.listExtendWith (.ref S) (.bytes b t) res)
      (fun fin s' => match fin with | .done f => R (.ok f) s' | .again c' => c'.quiet = true ∧ codeAny (model prog w) A c' R s') (fun e s' => R (.error e) s') s := by
  have hSlt : S < s.heap.objs.size := Heap.lt_size hS
  have hSI : S ≠ s.heap.objs.size := Nat.ne_of_lt hSlt
  have hSf : S ∉ [s.heap.objs.size] := fun hm => hSI (List.mem_singleton.mp hm)
  have W := (KBw.walks (prog := prog) (w := w) (A := A.in1) hh s.heap.objs.size b t).toS
  have key : ∀ (h : Heap) (c₁ tk : Nat), KBw.IsBytesIter h s.heap.objs.size b t 0 → (∀ b o, b ≠ S → s.heap.get? b = some o → h.get? b = some o) →
      h.get? S = some { cls := .type "list", data := .seq #[] c₁ } → codeAny (model prog w) A (.builtin "list.extend.loop" ⟨[.ref S, .ref s.heap.objs.size, res], []⟩) R { s with heap := h, toks := tk } := by
    intro h c₁ tk hit hk hS₁
    refine codeAny_extend_loopS W (by rw [sizeLine_eq]; omega) S hSf res b.size 0 _ #[] c₁ rfl (Nat.zero_le _) hit hS₁ (ItemsOf.nil _) fun s' acc' c' hm hS' hacc => ?_
    rw [Moved.eq_with hm]
    refine hR s'.heap s'.toks acc' c' (fun b o hb e => hm.heap b o (fun hmem => ?_) (hk b o hb e)) hS' hacc
    rcases List.mem_cons.mp hmem with e' | hmem
    · exact hb e'
    · exact absurd (Heap.lt_size e) (by rw [List.mem_singleton.mp hmem]; exact Nat.lt_irrefl _)
  unfold Builtin.List.listExtendWith
  refine wpAny_bind (wpAny_typeOf (T := "bytes") (v := .bytes b t) rfl ?_)
  have h1 : Builtin.List.listSameRef (.ref S) (.bytes b t) = false := rfl
  have h2 : (Value.type "bytes" == Value.type "list") = false := by decide
  have h3 : (Value.type "bytes" == Value.type "tuple") = false := by decide
  simp only [h1, h2, h3, Bool.or_false, Bool.false_eq_true, if_false]
  refine wpAny_bind (KBw.pyIter_bytes ?_)
  refine wpAny_bind (wpAny_holding (hint_bytes ?_))
  have hit₁ : KBw.IsBytesIter (s.heap.push { cls := .type "bytes_iterator", data := .fields #[.bytes b t, .int 0 0] }) s.heap.objs.size b t 0 := ⟨_, Heap.get?_push_size _ rfl, rfl, rfl⟩
  have hS₁ := Heap.get?_push_of_some { cls := .type "bytes_iterator", data := .fields #[.bytes b t, .int 0 0] } hS
  rw [if_neg (by decide)]
  exact wpAny_pure ⟨plainId_quiet F.plain_extend_loop _, key _ c₀ _ hit₁ (fun b o _ e => Heap.get?_push_of_some _ e) hS₁⟩
theorem list_init_bytes {R : Result → Shared → Prop} {b : Array UInt8} {t : Tok} (hh : A.handled = none) (hlen : b.size ≤ 2 ^ 24) (S : Addr) (hS : s.heap.get? S = some { cls := .type "list", data := .seq #[] })
    (hR : ∀ h' tk acc' c', (∀ b o, b ≠ S → s.heap.get? b = some o → h'.get? b = some o) → h'.get? S = some { cls := .type "list", dict := none, data := .seq acc' c', slots := #[] } →
      ItemsOf (ByteAt b) acc' b.size → R (.ok (.ret .none)) { s with heap := h', toks := tk }) :
    wpAny (model prog w) A.in1 (Builtin.«list.__init__» ⟨[.ref S, .bytes b t], []⟩)
      (fun fin s' => match fin with | .done f => R (.ok f) s' | .again c' => c'.quiet = true ∧ codeAny (model prog w) A c' R s') (fun e s' => R (.error e) s') s := by
  show wpAny _ _ (do let old ← Builtin.List.listItems (.ref S); Builtin.List.listUpdate (.ref S) (fun _ => #[]); letGo old.toList.reverse; Builtin.List.listExtendWith (.ref S) (.bytes b t) .none) _ _ s
  refine wpAny_bind ?_
  unfold Builtin.List.listItems
  refine wpAny_bind (wpAny_seqItems hS rfl (wpAny_pure ?_))
  show wpAny _ _ (updateSeq S (fun _ => #[]) >>= fun _ => letGo (#[] : Array Value).toList.reverse >>= fun _ => Builtin.List.listExtendWith (.ref S) (.bytes b t) .none) _ _ s
  refine wpAny_bind (wpAny_updateSeq hS rfl ?_)
  have hS₂ := Heap.get?_update_self (Obj.mapSeq (fun _ => (#[] : Array Value))) hS rfl
  have oth : ∀ b o, b ≠ S → s.heap.get? b = some o → (s.heap.update S (Obj.mapSeq (fun _ => (#[] : Array Value)))).get? b = some o :=
    fun b o hb e => (Heap.get?_update_other _ _ (Ne.symm hb)).trans e
  refine wpAny_bind (wpAny_letGo ?_)
  refine extend_bytes hh hlen S .none _ hS₂ fun h' tk acc' c' hk hS' hacc => ?_
  exact hR h' tk acc' c' (fun b o hb e => hk b o hb (oth b o hb e)) hS' hacc
theorem call_list_bytes {Q : Value → Shared → Prop} {b : Array UInt8} {t : Tok} (hh : A.handled = none) (hlen : b.size ≤ 2 ^ 24)
    (hQ : ∀ h' tk acc' c', (∀ b o, s.heap.get? b = some o → h'.get? b = some o) →
      h'.get? s.heap.objs.size = some { cls := .type "list", dict := none, data := .seq acc' c', slots := #[] } → ItemsOf (ByteAt b) acc' b.size → Q (.ref s.heap.objs.size) { s with heap := h', toks := tk }) :
    wpAny (model prog w) A (call (.type "list") [.bytes b t]) Q E s := by
  refine callType_codes (Q₁ := fun obj s₁ => obj = .ref s.heap.objs.size ∧ s₁ = { s with heap := s.heap.push { cls := .type "list", data := .seq #[] } }) F.called_list (F.typeCall_list_1 _) F.entry_list_init
    (code_list_new _ ⟨rfl, rfl⟩) fun obj s₁ h₁ => ?_
  obtain ⟨rfl, rfl⟩ := h₁
  have hS : (s.heap.push { cls := .type "list", data := .seq #[] }).get? s.heap.objs.size = some { cls := .type "list", data := .seq #[] } := Heap.get?_push_size _ rfl
  refine ⟨⟨_, hS, rfl⟩, F.args_list_init_2 _ _, list_init_bytes (A := A.in1) hh hlen _ hS fun h' tk acc' c' hk hS' hacc => ?_⟩
  exact ⟨rfl, hQ h' tk acc' c' (fun b o e => hk b o (Nat.ne_of_lt (Heap.lt_size e)) (Heap.get?_push_of_some _ e)) hS' hacc⟩
theorem ints_of_get : ∀ (vs : List Value) (ks : List Int), vs.length = ks.length → (∀ (j : Nat) v, vs[j]? = some v → ∃ k t, ks[j]? = some k ∧ v = .int k t) → IntsAre vs ks
  | [], [], _, _ => .nil
  | v :: r, k :: q, e, h => by
    obtain ⟨k', t, e1, rfl⟩ := h 0 v rfl
    cases e1
    exact .cons _ _ (ints_of_get r q (by simpa using e) fun j v hv => h (j + 1) v hv)
theorem list_bytes_k {h₀ : Heap} {L : Addr} {m : Names} {news : Led} {Q : Value → Shared → Prop} {b : Array UInt8} {t : Tok} (hh : A.handled = none) (F : Fr h₀ L s.heap m) (N : News h₀ L s.heap news) (hlen : b.size ≤ 11)
    (h : ∀ D (us : List Value) c h' tk, Fr h₀ L h' m → News h₀ L h' ((D, listOf us.toArray c) :: news) → (∀ p ∈ news, p.1 < D) → IntsAre us (KBw.bInts b) → Q (.ref D) { s with heap := h', toks := tk }) :
    wpAny (model prog w) A (call (.type "list") [.bytes b t]) Q E s := by
  refine call_list_bytes hh (by omega) fun h' tk acc c hk hD hI => ?_
  have hD' : h'.get? s.heap.objs.size = some (listOf (List.toArray acc.toList) c) := by
    rw [Array.toArray_toList]
    exact hD
  refine h _ acc.toList c h' tk (F.keeps hk) (news_pushed F N hk hD' rfl) (fun p hp => Heap.lt_size (N p hp).1) (ints_of_get _ _ (by rw [Array.length_toList, hI.1, KBw.ints_length]) fun j v hj => ?_)
  obtain ⟨k, u, hc, rfl⟩ := hI.2 j v (by rw [← hj, Array.getElem?_toList])
  exact ⟨_, u, KBw.ints_get hc, rfl⟩
end
end
local macro_rules | `(tactic| walk_at "call type:list") => `(tactic| (k_here; (with_reducible show wpAny _ _ (call (Value.type _) [Value.bytes _ _]) _ _ _); k_dflt (refine' list_bytes_k ?h ?F ?N ?z ?_; (case h => rfl); (case F => k_asm); (case N => k_asm); (case z => assumption)); intro D' us' c' h' tk' F' N' l1 i1; (try k_lt l1); (try dsimp only)))
section
section
open PySem.Calls PyProof.V PySem.Spec PySem.SeqAt
variable {prog : Program} {w : World} {A : Around} {E : Value → Shared → Prop} {s : Shared}
theorem reads_pair {h : Heap} {a : Addr} {x : Str} {z : Int} {t u : Tok} (ha : h.get? a = some (tupO [.str x t, .int z u])) : Reads h (.ref a) (.tuple [.str x, .int z]) [] := by
  refine Reads.tuple (n := 0) ha rfl rfl ?_
  exact ReadsAll.cons (as := []) (bs := []) (.str x t) (ReadsAll.cons (as := []) (bs := []) (.int z u) .nil)
theorem shaped_pair {x : Str} (hx : PyData.strOk x = true) (z : Int) : shaped (.tuple [.str x, .int z]) = true := by
  show (PyData.canLay0 _ && decide (PyData.depth _ ≤ 64)) = true
  rw [Bool.and_eq_true]
  refine ⟨by simp [PyData.canLay0, PyData.canLayAll0, hx], decide_eq_true ?_⟩
  simp [PyData.depth, PyData.depthAll]
theorem ne_pair_k {a b : Addr} {x : Str} {z : Int} {t u t' u' : Tok} {Q : Value → Shared → Prop} (hx : PyData.strOk x = true) (ha : s.heap.get? a = some (tupO [.str x t, .int z u])) (hb : s.heap.get? b = some (tupO [.str x t', .int z u'])) (hu : A.units + 64 < cLine)
    (h : Q (.bool false) s) : wpAny (model prog w) A (compareOp .NotEq (.ref a) (.ref b)) Q E s := by
  refine ne_dataH_same (reads_pair ha) (reads_pair hb) (shaped_pair hx z) (shaped_pair hx z) hu (by simp [noMix, noMixAll]) ?_
  have e : PySem.Spec.same (.tuple [.str x, .int z]) (.tuple [.str x, .int z]) = true := by simp [PySem.Spec.same, PySem.Spec.sameAll]
  rw [e]; exact h
theorem ne_ints_k {a b : Addr} {vs us : List Value} {k k' : Nat} {ns : List Int} {Q : Value → Shared → Prop} (ha : s.heap.get? a = some (listOf vs.toArray k)) (hi : IntsAre vs ns) (hb : s.heap.get? b = some (listOf us.toArray k')) (hi' : IntsAre us ns) (hu : A.units + 64 < cLine)
    (h : Q (.bool false) s) : wpAny (model prog w) A (compareOp .NotEq (.ref a) (.ref b)) Q E s :=
  ne_intsK ⟨_, ha, rfl, _, rfl⟩ hi ⟨_, hb, rfl, _, rfl⟩ hi' hu (by simpa using h)
end
theorem octE_mod {n : Nat} {v r : Int} {ys : List Value} {m : Nat} (hn : m = n) (hr : 0 < r)
    (h : IntsAre ys ((rangeKs 0 m).map fun k' => if 0 ≤ v.fmod r ∧ v.fmod r < r then Builtin.bitAnd ((v.fmod r).fdiv (2 ^ (8 * k').toNat)) 255 else k')) : IntsAre ys (octE n (v.fmod r)) := by
  subst hn
  have e2 : (rangeKs 0 m).map (fun k' => if 0 ≤ v.fmod r ∧ v.fmod r < r then Builtin.bitAnd ((v.fmod r).fdiv (2 ^ (8 * k').toNat)) 255 else k') = octE m (v.fmod r) := by
    unfold octE
    exact List.map_congr_left fun k _ => if_pos ⟨Int.fmod_nonneg_of_pos _ hr, Int.fmod_lt_of_pos _ hr⟩
  rw [e2] at h
  exact h
theorem octE_mod1 {v : Int} {ys : List Value} {m : Nat} (hm : m = 1)
    (h : IntsAre ys ((rangeKs 0 m).map fun k' => if 0 ≤ v.fmod 256 ∧ v.fmod 256 < 256 then Builtin.bitAnd ((v.fmod 256).fdiv (2 ^ (8 * k').toNat)) 255 else k')) : IntsAre ys [v.fmod 256] := by
  have h2 := octE_mod hm (by decide) h
  have h0 := Int.fmod_nonneg_of_pos v (b := 256) (by decide)
  have h1 := Int.fmod_lt_of_pos v (b := 256) (by decide)
  have key : ∀ n : Fin 256, Builtin.bitAnd ((n.val : Int).fdiv (2 ^ ((8 : Int) * (0 + (0 : Nat))).toNat)) 255 = n.val := by decide +kernel
  have e : octE 1 (v.fmod 256) = [v.fmod 256] := by
    have h3 := key ⟨(v.fmod 256).toNat, by omega⟩
    dsimp only at h3
    rw [Int.toNat_of_nonneg h0] at h3
    simp only [octE, rangeKs, List.range_one, List.map_cons, List.map_nil]
    rw [h3]
  rw [e] at h2
  exact h2
theorem name_ok {x : Str} {a : Nat} {l : List Nat} (e : x.cps.toList = a :: l) (h : (a :: l).all (fun c => decide (46 ≤ c ∧ c ≤ 126)) = true) (ha : ¬ (48 ≤ a ∧ a ≤ 57)) (hl : x.length ≤ 20) : NameOk x :=
  ⟨⟨a, l, e, ha⟩, fun c hc => by rw [e] at hc; exact of_decide_eq_true (List.all_eq_true.mp h c hc), hl⟩
theorem NameOk.strOk {x : Str} (h : NameOk x) : PyData.strOk x = true := by
  unfold PyData.strOk
  rw [← Array.all_toList, List.all_eq_true]
  intro c hc
  have := h.plain c hc
  exact decide_eq_true (by omega)
theorem nm_main : NameOk (Str.ofString "main") := name_ok (a := 109) (l := [97, 105, 110]) (by decide) (by decide) (by decide) (by decide)
theorem nm_s0 : NameOk (Str.ofString ".S0") := name_ok (a := 46) (l := [83, 48]) (by decide) (by decide) (by decide) (by decide)
theorem nm_kept : NameOk (Str.ofString "kept.3") := name_ok (a := 107) (l := [101, 112, 116, 46, 51]) (by decide) (by decide) (by decide) (by decide)
theorem nm_ab : NameOk (Str.ofString "a_b") := name_ok (a := 97) (l := [95, 98]) (by decide) (by decide) (by decide) (by decide)
theorem nm_x : NameOk (Str.ofString "_x") := name_ok (a := 95) (l := [120]) (by decide) (by decide) (by decide) (by decide)
theorem nm_table : NameOk (Str.ofString "table.12") := name_ok (a := 116) (l := [97, 98, 108, 101, 46, 49, 50]) (by decide) (by decide) (by decide) (by decide)
theorem nm_s41 : NameOk (Str.ofString ".S41") := name_ok (a := 46) (l := [83, 52, 49]) (by decide) (by decide) (by decide) (by decide)
theorem offs_ok {x y : Int} (h0 : 0 ≤ x) (h1 : x < 100000) (h2 : 0 ≤ y) (h3 : y < 100000) (i : Nat) :
    -10000000000 ≤ ([0, 4, 1, -4, -1, 2047, 4294967292, x, -y] : List Int).getD i 0 ∧ ([0, 4, 1, -4, -1, 2047, 4294967292, x, -y] : List Int).getD i 0 ≤ 10000000000 := by
  match i with
  | 0 | 1 | 2 | 3 | 4 | 5 | 6 => simp [List.getD]
  | 7 => show -10000000000 ≤ x ∧ x ≤ 10000000000; omega
  | 8 => show -10000000000 ≤ -y ∧ -y ≤ 10000000000; omega
  | k + 9 => simp [List.getD]
section
open PyProof.V PySem.Spec
variable {prog : Program} {w : World} {A : Around} {E : Value → Shared → Prop} {s : Shared} {env : Env} {h₀ : Heap} {x : Str} {body : List Stmt} {Q : Flow → Shared → Prop}
theorem range_loopS {σ : Type} {r : Addr} {b₀ : Int} {t₀ u₀ v₀ : Tok} {m₀ : Names} {fr : Led} {ad : List Addr} (Ld : σ → Led) (P : Nat → σ → Prop) (stored : List Str) (c₀ : σ)
    (hh : A.handled = none) (hr : IsRange s.heap r 0 b₀ 1 t₀ u₀ v₀) (hb0 : 0 ≤ b₀) (hb1 : b₀ < 1000000) (F : Fr h₀ env.locals s.heap m₀) (N : News h₀ env.locals s.heap (Ld c₀ ++ fr))
    (had : ∀ c, (Ld c).map (·.1) = ad) (hoff : OwnOff fr ad) (hp : P 0 c₀)
    (turn : ∀ (c : σ) (i : Nat) t (u : Names) h tk own, (i : Int) < b₀ → OwnOff own ad → P i c → Fr h₀ env.locals h (fun y => if y = x then some (.int (i : Int) t) else if stored.contains y then u y else m₀ y) → News h₀ env.locals h (Ld c ++ own) →
      wpAny (model prog w) A (execs body env) (TurnPostL h₀ env.locals x stored m₀ Ld (P (i + 1)) own { s with heap := h, toks := tk } Q) E { s with heap := h, toks := tk })
    (done : ∀ (c : σ) (u : Names) h tk, P b₀.toNat c → Fr h₀ env.locals h (fun y => if y = x then u y else if stored.contains y then u y else m₀ y) → News h₀ env.locals h (Ld c ++ fr) → Q .next { s with heap := h, toks := tk }) :
    wpAny (model prog w) A (pyIter (.ref r)) (fun it s₂ => LoopAtV prog w A h₀ env x body Q E it s₂) E s := by
  have key : ∀ (m₁ : Names) (v : Option Value), (∀ z, z ≠ x → stored.contains z = false → m₁ z = m₀ z) → (fun y => if y = x then v else m₁ y) = fun y => if y = x then v else if stored.contains y then m₁ y else m₀ y := by
    intro m₁ v hm; funext y; by_cases hy : y = x
    · simp [hy]
    · cases hs : stored.contains y with
      | true => simp [hy]
      | false => simp only [hy, if_false, Bool.false_eq_true]; exact hm y hy hs
  have keyd : ∀ (m₁ : Names), (∀ z, z ≠ x → stored.contains z = false → m₁ z = m₀ z) → (fun y => if y = x then m₁ y else if stored.contains y then m₁ y else m₀ y) = m₁ := by
    intro m₁ hm; funext y; by_cases hy : y = x
    · simp [hy]
    · cases hs : stored.contains y with
      | true => simp [hy]
      | false => simp only [hy, if_false, Bool.false_eq_true]; exact (hm y hy hs).symm
  refine wpAny_pyIter_range hr (small_one (by omega) (by omega) (by omega) (by omega)) ?_
  have hn : Builtin.Range.rangeSize 0 b₀ 1 = (b₀.toNat : Int) := by
    have h1 : b₀ = (b₀.toNat : Int) := by omega
    rw [h1]; first | exact rangeSize_nat _ _ | (have := rangeSize_nat 0 b₀.toNat; simpa using this)
  have W : Walks prog w A s.heap.objs.size [s.heap.objs.size] [s.heap.objs.size] b₀.toNat (fun i v => i < b₀.toNat ∧ ∃ t, v = .int (0 + i * 1) t)
      (fun i h => IsRangeIter h s.heap.objs.size (0 + (i : Nat) * 1) ((b₀.toNat : Int) - (i : Nat)) 1) := (Walks.range hh _ 0 1 b₀.toNat).bound
  refine loop_invN (fun i m nx => ∃ c, nx = Ld c ++ fr ∧ P i c ∧ ∀ z, z ≠ x → stored.contains z = false → m z = m₀ z) W ?_ ?_ ?_ ?_ (by show IsRangeIter _ _ _ _ _; rw [hn]; simpa using Heap.get?_push_size _ rfl) (F.push _) (fun p hp => ⟨Heap.get?_push_of_some _ (N p hp).1, (N p hp).2⟩) ⟨c₀, rfl, hp, fun _ _ _ => rfl⟩ ?_ ?_
  · intro hm
    exact absurd F.ns.lt ((List.mem_singleton.mp hm) ▸ Nat.lt_irrefl _)
  · intro b hb
    rw [List.mem_singleton.mp hb]
    exact next_is_new F
  · intro p hp hI
    exact absurd (Heap.lt_size (N p hp).1) ((List.mem_singleton.mp hI) ▸ Nat.lt_irrefl _)
  · intro p hp hI
    exact absurd (Heap.lt_size (N p hp).1) ((List.mem_singleton.mp hI) ▸ Nat.lt_irrefl _)
  · rintro i v m₁ nx h tk own hi ⟨_, t, rfl⟩ _ hoff' ⟨c, rfl, hp', hm⟩ F₁ N₁
    have e1 : (0 : Int) + (i : Int) * 1 = (i : Int) := by omega
    rw [e1, key _ _ hm] at F₁
    have hoff2 : OwnOff (fr ++ own) ad := by
      intro p hp
      rcases List.mem_append.mp hp with h | h
      · exact hoff p h
      · intro b hb
        refine hoff' p h b ?_
        rw [List.map_append, had c₀]
        exact List.mem_append.mpr (.inl hb)
    refine wpAny_mono (turn c i t m₁ h tk (fr ++ own) (by omega) hoff2 hp' F₁ (by rw [← List.append_assoc]; exact N₁)) (fun f s₂ p => ?_) fun _ _ e => e
    have fin : TurnEndL h₀ env.locals x stored m₀ Ld (P (i + 1)) (fr ++ own) { s with heap := h, toks := tk } s₂ →
        InvEndN h₀ env.locals (fun m nx => ∃ c, nx = Ld c ++ fr ∧ P (i + 1) c ∧ ∀ z, z ≠ x → stored.contains z = false → m z = m₀ z) own ((Ld c₀ ++ fr).map (·.1)) { s with heap := h, toks := tk } s₂ := by
      rintro ⟨c', h', tk', m', e, F', N', hP, hm'⟩
      refine ⟨h', tk', m', _, Ld c' ++ fr, e, F', N', ?_, ?_, ?_, c', rfl, hP, hm'⟩
      · intro p hp
        rcases List.mem_append.mp hp with h | h
        · exact List.mem_append.mpr (.inl h)
        · exact List.mem_append.mpr (.inr (List.mem_append.mpr (.inl h)))
      · intro p hp
        exact List.mem_append.mpr (.inr (List.mem_append.mpr (.inr hp)))
      · rw [List.map_append, List.map_append, had, had]
    cases f with
    | ret v => exact p
    | brk => exact p
    | next => exact fin p
    | cont => exact fin p
  · rintro m₁ nx h tk ⟨c, rfl, hp', hm⟩ F₁ N₁
    refine done c m₁ h tk hp' ?_ N₁
    rw [keyd _ hm]; exact F₁
end
end
section
inductive PieceOut (w : World) (mean : ExcName → Option Value) (mg mb : Names) : Obj → Obj → Prop
  | lst {po : Obj} {dv : List Value} {k : Nat} {ds : List Int} : IntsAre dv ds → (∀ P, CallsF w mean mg mb 60 3 [(P, po)] [.ref P] (RowsPost w mean mg mb ds)) → PieceOut w mean mg mb po (listOf dv.toArray k)
  | adr {po : Obj} {nm : Str} {z : Int} {t1 t2 : Tok} : PyData.strOk nm = true → (∀ P, CallsF w mean mg mb 60 3 [(P, po)] [.ref P] (RowsPostA w mean mg mb nm z)) → PieceOut w mean mg mb po (tupO [.str nm t1, .int z t2])
inductive PiecePost (w : World) (mean : ExcName → Option Value) (mg mb : Names) (W C : Addr) (place : Int) (n nC : Nat) (vs : List Value) : Value → Led → Prop
  | mk (T P D : Addr) (po due : Obj) (place' : Int) (tp' : Tok) (st' : Int) (ts' : Tok) : PieceOut w mean mg mb po due → place ≤ place' → place' ≤ place + 40 → 0 ≤ st' → st' < 2147483647 → T ≠ P → D ≠ P → W ≠ P → C ≠ P →
    PiecePost w mean mg mb W C place n nC vs (.ref T) [(T, tupO [.ref P, .ref D]), (P, po), (D, due), (W, wellO C place' tp' st' ts' n), (C, listOf vs.toArray nC)]
theorem tx_fmod_len {v b : Int} (h0 : 0 < b) (h1 : b < 10 ^ 10) : (tx (v.fmod b)).length ≤ 1000 := by
  have h2 := Int.fmod_nonneg_of_pos v h0
  have h3 := Int.fmod_lt_of_pos v h0
  exact Nat.le_trans (tx_len10 h2 (by omega)) (by decide)
theorem gap_out {w : World} {mean : ExcName → Option Value} {mg mb : Names} {x : Int} {t0 t1 : Tok} {dv : List Value} {k : Nat} (h0 : 0 ≤ x) (h1 : x < 40) (hi : IntsAre dv (List.replicate x.toNat [(0 : Int)]).flatten) :
    PieceOut w mean mg mb (tupO [.str (Str.ofString "gap") t0, .int x t1]) (listOf dv.toArray k) := by
  rw [List.flatten_replicate_singleton (a := (0 : Int))] at hi
  by_cases h : x = 0
  · subst h
    exact .lst (ds := []) hi fun P => piece_gap0 w mean mg mb P t0 t1
  · exact .lst hi fun P => piece_gap w mean mg mb P x (by omega) (by omega) (Nat.le_trans (tx_len10 h0 (by omega)) (by decide)) t0 t1
section
variable {prog : Program} {w : World} {A : Around} {E : Value → Shared → Prop} {s : Shared}
theorem item_menu {value slice : PySem.Expr} {l : Addr} {vs : List Value} {k : Int} {u : Tok} (P : Value → Prop) {Q : Value → Shared → Prop} (hl : s.heap.IsList l vs.toArray) (hv : ∀ v ∈ vs, P v)
    (h0 : 0 ≤ k) (h1 : k < vs.length) (h2 : vs.length ≤ 100) (h : ∀ v, P v → Q v s)
    (hs : subscripted slice false (.ref l) (.int k u) = operate [.ref l, .int k u] (getItem (.ref l) (.int k u))) :
    wpAny (model prog w) A (subscriptTail value slice (.ref l) (.int k u)) Q E s := by
  have hlt : k.toNat < vs.length := by omega
  exact tail_any hl.typeIs slot_list_getitem.lookup (wpAny_getItem_list hl h0 (by omega) (x := vs[k.toNat]) (by simp [hlt]) (h _ (hv _ (List.getElem_mem hlt)))) hs
theorem names_menu {t1 t2 t3 t4 t5 t6 t7 : Tok} : ∀ v ∈ [Value.str (Str.ofString "main") t1, .str (Str.ofString ".S0") t2, .str (Str.ofString "kept.3") t3, .str (Str.ofString "a_b") t4, .str (Str.ofString "_x") t5, .str (Str.ofString "table.12") t6, .str (Str.ofString ".S41") t7], ∃ x t, v = .str x t ∧ NameOk x ∧ x.length ≤ 900 := by
  have key : ∀ {x : Str}, NameOk x → NameOk x ∧ x.length ≤ 900 := fun h => ⟨h, Nat.le_trans h.len (by decide)⟩
  intro v hv
  simp only [List.mem_cons, List.not_mem_nil, or_false] at hv
  rcases hv with rfl | rfl | rfl | rfl | rfl | rfl | rfl
  · exact ⟨_, _, rfl, key nm_main⟩
  · exact ⟨_, _, rfl, key nm_s0⟩
  · exact ⟨_, _, rfl, key nm_kept⟩
  · exact ⟨_, _, rfl, key nm_ab⟩
  · exact ⟨_, _, rfl, key nm_x⟩
  · exact ⟨_, _, rfl, key nm_table⟩
  · exact ⟨_, _, rfl, key nm_s41⟩
end
local macro_rules | `(tactic| walk_at "subscriptTail") => `(tactic| (k_here; (with_reducible show wpAny _ _ (subscriptTail (PySem.Expr.List (PySem.Expr.Constant (PySem.Const.str _) _ _ :: _) _) _ _ _) _ _ _); refine Hold.out ?_))
local macro_rules | `(tactic| walk_at "call ref") => `(tactic| (k_here; (with_reducible show wpAny _ _ (call (Value.ref 72) [Value.ref _, Value.int 3 _]) _ _ _); refine Hold.out ?_))
set_option maxRecDepth 100000 in
set_option maxHeartbeats 8000000 in
theorem piece_raw (w : World) (mean : ExcName → Option Value) (mg mb : Names) (W C : Addr) (place : Int) (tp : Tok) (st : Int) (ts : Tok) (n nC : Nat) (vs : List Value) (ns : List Int)
    (hWC : C ≠ W) (wf : WF vs ns) (h0 : 0 ≤ place) (h1 : place < 800000) (s0 : 0 ≤ st) (s1 : st < 2147483647) :
    CallsF w mean mg mb 82 3 [(W, wellO C place tp st ts n), (C, listOf vs.toArray nC)] [.ref W] (PiecePost w mean mg mb W C place n nC vs) := by
  w_top off
  have hrw : PySem.Challenge.rw_nm0003_01 = PySem.Challenge.rw_nm0003_01 := rfl
  revert hrw
  unfold CallsF
  unfold Calls
  k_fill
  intro _ rest off
  intro dp un gd cn cs a ccd cl outer A₀ base h₀ L m s Q E B F X N T hk hd hu hret
  refine wpAny_call ?_
  k_dflt (refine' enterFC (rest := rest) ?k1 ?k2 ?k3 ?k4 ?k5 ?kO ?kA ?kF ?kK ?k6 ?k7 ?k8 ?k9 ?kB ?kD ?_ ?kL ?c2 ?c3 ?c4; (case kA => exact rfl); (case kF => exact rfl); (case kK => assumption); (case kO => exact off); (case k1 => k_asm); (case k2 => k_asm); (case k3 => k_asm); (case k4 => exact N); (case k5 => k_asm); (case k6 => k_is); (case k7 => k_is); (case k8 => walk_at "nm room"); (case k9 => exact BindsTo.of_eq rfl); (case kB => exact rfl); (case kD => decide +kernel); (case kL => exact fun L9 mc9 c9 Y9 => cells_over Y9 (cellsFrom_ge _ _ _ (fun _ h => nomatch h) (Nat.le_succ _))); (case c2 => exact rfl); (case c3 => exact rfl); (case c4 => exact rfl); k_whole; intro g' L' h' tk' cells' aA mM FG' F' N' Y' B' X' T' l1 hRg; (try k_lt l1); k_cells Y'; (try simp only [List.cons_append, List.nil_append] at N'); (try dsimp only); (try k_lift B'); (try k_fold))
  have hf1 : Int.fdiv 256 2 = 128 := by decide
  have hf2 : Int.fdiv 65536 2 = 32768 := by decide
  have hf4 : Int.fdiv 4294967296 2 = 2147483648 := by decide
  (walk_at "nm steps")
  · refine Hold.mk ?_
    (refine' draw_use ?k1 ?k2 ?k3 ?k4 ?k5 ?kK ?kD ?kE ?kU ?kC ?kW ?kwf ?b0 ?b1 ?b2 ?b3 ?b4 ?b5 ?_; (case k1 => k_asm); (case k2 => k_asm); (case k3 => k_asm); (case k4 => k_asm); (case k5 => k_asm); (case kK => first | exact rfl | assumption); (case kD => walk_at "nm room"); (case kE => walk_at "nm units"); (case kU => k_updF); (case kC => k_mem); (case kW => first | assumption | k_ne); (case kwf => assumption); (case b0 => first | assumption | omega); (case b1 => omega); (case b2 => first | assumption | omega); (case b3 => first | assumption | omega); (case b4 => first | assumption | omega | decide); (case b5 => first | assumption | omega | decide); k_whole; intro x' t' tp' st' ts' h' tk' x0' x1' s0' s1' F' N'; (try dsimp only at N'); (try k_sweep); (try dsimp only))
    obtain rfl | rfl | rfl : x' = 0 ∨ x' = 1 ∨ x' = 2 := by omega
    · (walk_at "nm steps")
      refine' callsF_end hret N hRg ?zF ?zN (own' := [(_, tupO [.ref _, .ref _]), (_, _), (_, _), (W, wellO C _ _ _ _ n), (C, listOf vs.toArray nC)]) ?zsub (.mk _ _ _ _ _ _ _ _ _ ?zpo ?q1 ?q2 ?q3 ?q4 ?d1 ?d2 ?d3 ?d4) ?zF2 ?zN2
      case zF => k_asm
      case zN => k_asm
      case zsub => refine List.forall_mem_cons.mpr ⟨?_, List.forall_mem_cons.mpr ⟨?_, List.forall_mem_cons.mpr ⟨?_, List.forall_mem_cons.mpr ⟨?_, List.forall_mem_cons.mpr ⟨?_, fun _ h => nomatch h⟩⟩⟩⟩⟩ <;> k_mem
      case zF2 => k_asm
      case zN2 => k_asm
      case q1 => omega
      case q2 => omega
      case q3 => assumption
      case q4 => assumption
      case d1 => k_ne
      case d2 => k_ne
      case d3 => k_ne
      case d4 => k_ne
      case zpo => exact .lst (octE_mod1 rfl (by assumption)) (fun P => piece_num1 w mean mg mb P _ _ _ _ (by omega) (by omega) (tx_fmod_len (by decide) (by decide)))
    · (walk_at "nm steps")
      refine' callsF_end hret N hRg ?zF ?zN (own' := [(_, tupO [.ref _, .ref _]), (_, _), (_, _), (W, wellO C _ _ _ _ n), (C, listOf vs.toArray nC)]) ?zsub (.mk _ _ _ _ _ _ _ _ _ ?zpo ?q1 ?q2 ?q3 ?q4 ?d1 ?d2 ?d3 ?d4) ?zF2 ?zN2
      case zF => k_asm
      case zN => k_asm
      case zsub => refine List.forall_mem_cons.mpr ⟨?_, List.forall_mem_cons.mpr ⟨?_, List.forall_mem_cons.mpr ⟨?_, List.forall_mem_cons.mpr ⟨?_, List.forall_mem_cons.mpr ⟨?_, fun _ h => nomatch h⟩⟩⟩⟩⟩ <;> k_mem
      case zF2 => k_asm
      case zN2 => k_asm
      case q1 => omega
      case q2 => omega
      case q3 => assumption
      case q4 => assumption
      case d1 => k_ne
      case d2 => k_ne
      case d3 => k_ne
      case d4 => k_ne
      case zpo => exact .lst (octE_mod (n := 2) rfl (by decide) (by assumption)) (fun P => piece_num2 w mean mg mb P _ _ _ _ (by omega) (by omega) (tx_fmod_len (by decide) (by decide)))
    · (walk_at "nm steps")
      refine' callsF_end hret N hRg ?zF ?zN (own' := [(_, tupO [.ref _, .ref _]), (_, _), (_, _), (W, wellO C _ _ _ _ n), (C, listOf vs.toArray nC)]) ?zsub (.mk _ _ _ _ _ _ _ _ _ ?zpo ?q1 ?q2 ?q3 ?q4 ?d1 ?d2 ?d3 ?d4) ?zF2 ?zN2
      case zF => k_asm
      case zN => k_asm
      case zsub => refine List.forall_mem_cons.mpr ⟨?_, List.forall_mem_cons.mpr ⟨?_, List.forall_mem_cons.mpr ⟨?_, List.forall_mem_cons.mpr ⟨?_, List.forall_mem_cons.mpr ⟨?_, fun _ h => nomatch h⟩⟩⟩⟩⟩ <;> k_mem
      case zF2 => k_asm
      case zN2 => k_asm
      case q1 => omega
      case q2 => omega
      case q3 => assumption
      case q4 => assumption
      case d1 => k_ne
      case d2 => k_ne
      case d3 => k_ne
      case d4 => k_ne
      case zpo => exact .lst (octE_mod (n := 4) rfl (by decide) (by assumption)) (fun P => piece_num4 w mean mg mb P _ _ _ _ (by omega) (by omega) (tx_fmod_len (by decide) (by decide)))
  · refine' callsF_end hret N hRg ?zF ?zN (own' := [(_, tupO [.ref _, .ref _]), (_, _), (_, _), (W, wellO C _ _ _ _ n), (C, listOf vs.toArray nC)]) ?zsub (.mk _ _ _ _ _ _ _ _ _ ?zpo ?q1 ?q2 ?q3 ?q4 ?d1 ?d2 ?d3 ?d4) ?zF2 ?zN2
    case zF => k_asm
    case zN => k_asm
    case zsub => refine List.forall_mem_cons.mpr ⟨?_, List.forall_mem_cons.mpr ⟨?_, List.forall_mem_cons.mpr ⟨?_, List.forall_mem_cons.mpr ⟨?_, List.forall_mem_cons.mpr ⟨?_, fun _ h => nomatch h⟩⟩⟩⟩⟩ <;> k_mem
    case zF2 => k_asm
    case zN2 => k_asm
    case q1 => omega
    case q2 => omega
    case q3 => assumption
    case q4 => assumption
    case d1 => k_ne
    case d2 => k_ne
    case d3 => k_ne
    case d4 => k_ne
    case zpo => exact .lst (by assumption) (fun P => piece_text w mean mg mb P _ _ _ (by assumption))
  · refine Hold.mk ?_
    refine item_menu (fun v => ∃ x t, v = .str x t ∧ NameOk x ∧ x.length ≤ 900) (by is_list) names_menu (by assumption) (by assumption) (by simp) ?_ (by with_unfolding_all rfl)
    rintro v9 ⟨nm9, t9, rfl, hn9, hl9⟩
    (walk_at "nm steps")
    refine' callsF_end hret N hRg ?zF ?zN (own' := [(_, tupO [.ref _, .ref _]), (_, _), (_, _), (W, wellO C _ _ _ _ n), (C, listOf vs.toArray nC)]) ?zsub (.mk _ _ _ _ _ _ _ _ _ ?zpo ?q1 ?q2 ?q3 ?q4 ?d1 ?d2 ?d3 ?d4) ?zF2 ?zN2
    case zF => k_asm
    case zN => k_asm
    case zsub => refine List.forall_mem_cons.mpr ⟨?_, List.forall_mem_cons.mpr ⟨?_, List.forall_mem_cons.mpr ⟨?_, List.forall_mem_cons.mpr ⟨?_, List.forall_mem_cons.mpr ⟨?_, fun _ h => nomatch h⟩⟩⟩⟩⟩ <;> k_mem
    case zF2 => k_asm
    case zN2 => k_asm
    case q1 => omega
    case q2 => omega
    case q3 => assumption
    case q4 => assumption
    case d1 => k_ne
    case d2 => k_ne
    case d3 => k_ne
    case d4 => k_ne
    case zpo => exact .adr hn9.strOk (fun P => piece_addr w mean mg mb P _ _ _ _ _ hn9 hl9 (offs_ok (by assumption) (by assumption) (by assumption) (by assumption) _).1 (offs_ok (by assumption) (by assumption) (by assumption) (by assumption) _).2)
  · refine' callsF_end hret N hRg ?zF ?zN (own' := [(_, tupO [.ref _, .ref _]), (_, _), (_, _), (W, wellO C _ _ _ _ n), (C, listOf vs.toArray nC)]) ?zsub (.mk _ _ _ _ _ _ _ _ _ ?zpo ?q1 ?q2 ?q3 ?q4 ?d1 ?d2 ?d3 ?d4) ?zF2 ?zN2
    case zF => k_asm
    case zN => k_asm
    case zsub => refine List.forall_mem_cons.mpr ⟨?_, List.forall_mem_cons.mpr ⟨?_, List.forall_mem_cons.mpr ⟨?_, List.forall_mem_cons.mpr ⟨?_, List.forall_mem_cons.mpr ⟨?_, fun _ h => nomatch h⟩⟩⟩⟩⟩ <;> k_mem
    case zF2 => k_asm
    case zN2 => k_asm
    case q1 => omega
    case q2 => omega
    case q3 => assumption
    case q4 => assumption
    case d1 => k_ne
    case d2 => k_ne
    case d3 => k_ne
    case d4 => k_ne
    case zpo => exact gap_out (by assumption) (by assumption) (by assumption)
end
section
structure LwSt where
  place : Int
  tp : Tok
  st : Int
  ts : Tok
abbrev lwLed (W C : Addr) (n nC : Nat) (vs : List Value) (c : LwSt) : Led := [(W, wellO C c.place c.tp c.st c.ts n), (C, listOf vs.toArray nC)]
def LwP (i : Nat) (c : LwSt) : Prop := 0 ≤ c.place ∧ c.place ≤ 40 * i ∧ 0 ≤ c.st ∧ c.st < 2147483647
abbrev lwNames : List Str := [Str.ofString "piece", Str.ofString "due"]
section
open PyProof.V PySem.Spec
variable {prog : Program} {w : World} {A : Around} {E : Value → Shared → Prop} {s : Shared} {env : Env} {h₀ : Heap} {x : Str} {body : List Stmt} {Q : Flow → Shared → Prop}
theorem law_loop {r W C : Addr} {tp : Tok} {st : Int} {ts : Tok} {n nC : Nat} {vs : List Value} {t₀ u₀ v₀ : Tok} {m₀ : Names} {news : Led}
    (hh : A.handled = none) (hr : IsRange s.heap r 0 6 1 t₀ u₀ v₀) (F : Fr h₀ env.locals s.heap m₀) (N : News h₀ env.locals s.heap news)
    (m1 : (W, wellO C 0 tp st ts n) ∈ news) (m2 : (C, listOf vs.toArray nC) ∈ news) (h0 : 0 ≤ st) (h1 : st < 2147483647)
    (turn : ∀ (place : Int) tp' (st' : Int) ts' (i : Nat) t (u : Names) h tk own, (i : Int) < 6 → OwnOff own [W, C] → 0 ≤ place → place ≤ 40 * i → 0 ≤ st' → st' < 2147483647 →
      Fr h₀ env.locals h (fun y => if y = x then some (.int (i : Int) t) else if lwNames.contains y then u y else m₀ y) → News h₀ env.locals h ((W, wellO C place tp' st' ts' n) :: (C, listOf vs.toArray nC) :: own) →
      wpAny (model prog w) A (execs body env) (TurnPostL h₀ env.locals x lwNames m₀ (lwLed W C n nC vs) (LwP (i + 1)) own { s with heap := h, toks := tk } Q) E { s with heap := h, toks := tk })
    (done : ∀ (place : Int) tp' (st' : Int) ts' (u : Names) h tk, 0 ≤ place → place ≤ 240 → 0 ≤ st' → st' < 2147483647 → Fr h₀ env.locals h (fun y => if y = x then u y else if lwNames.contains y then u y else m₀ y) → News h₀ env.locals h [(W, wellO C place tp' st' ts' n), (C, listOf vs.toArray nC)] → Q .next { s with heap := h, toks := tk }) :
    wpAny (model prog w) A (pyIter (.ref r)) (fun it s₂ => LoopAtV prog w A h₀ env x body Q E it s₂) E s := by
  refine range_loopS (lwLed W C n nC vs) LwP lwNames ⟨0, tp, st, ts⟩ (fr := []) (ad := [W, C]) hh hr (by decide) (by decide) F ?_ (fun _ => rfl) (fun _ h => nomatch h) ?_ ?_ ?_
  · intro p hp
    simp only [List.mem_cons, List.not_mem_nil, or_false, List.append_nil] at hp
    rcases hp with rfl | rfl
    · exact N _ m1
    · exact N _ m2
  · exact ⟨Int.le_refl _, by simp, h0, h1⟩
  · rintro ⟨place, tp', st', ts'⟩ i t u h tk own hi ho ⟨a1, a2, a3, a4⟩ F' N'
    exact turn place tp' st' ts' i t u h tk own hi ho a1 a2 a3 a4 F' N'
  · rintro ⟨place, tp', st', ts'⟩ u h tk ⟨a1, a2, a3, a4⟩ F' N'
    exact done place tp' st' ts' u h tk a1 (by dsimp only at a2; omega) a3 a4 F' N'
end
theorem law_turn {s₁ : Shared} {Q : Flow → Shared → Prop} {x : Str} {h₀ h' : Heap} {L W C : Addr} {n nC i tk : Nat} {vs : List Value} {place place' st' : Int} {tp' ts' : Tok} {own all : Led} {m₀ m' : Names}
    (F' : Fr h₀ L h' m') (N' : News h₀ L h' all) (sub : ∀ p ∈ (W, wellO C place' tp' st' ts' n) :: (C, listOf vs.toArray nC) :: own, p ∈ all)
    (hm : ∀ z, z ≠ x → lwNames.contains z = false → m' z = m₀ z) (h0 : 0 ≤ place) (h1 : place ≤ 40 * i) (p0 : place ≤ place') (p1 : place' ≤ place + 40) (s0 : 0 ≤ st') (s1 : st' < 2147483647) :
    TurnPostL h₀ L x lwNames m₀ (lwLed W C n nC vs) (LwP (i + 1)) own s₁ Q .next { s₁ with heap := h', toks := tk } :=
  ⟨⟨place', tp', st', ts'⟩, h', tk, m', rfl, F', fun p hp => N' p (sub p hp), ⟨by dsimp only; omega, by dsimp only; omega, s0, s1⟩, hm⟩
section
variable {w : World} {mean : ExcName → Option Value} {mg mb : Names} {dp un : Nat} {gd : Option (List Code)} {cn : Str} {cs : Scope} {a : Addr} {ccd : Value} {cl : List (Str × Addr)} {outer : List Env} {A₀ : Around} {base h₀ : Heap} {L : Addr} {m : Names} {s : Shared} {Q E : Value → Shared → Prop} {news rest own : Led}
theorem CallsF.at2 {f T P : Addr} {dq : Nat} {ot po : Obj} {vs : List Value} {Post : Value → Led → Prop} (C : CallsF w mean mg mb f dq [(P, po)] vs Post)
    (B : Below A₀ base outer h₀) (F : Fr h₀ L s.heap m) (X : (Nm.hd.heap_39 w.params).In h₀) (N : News h₀ L s.heap ((T, ot) :: (P, po) :: rest))
    (Tp : Top Nm.hd.view_39 (looseW Nm.hd.view_39 []) mean mg mb h₀) (hk : cs.kind = .function) (hd : dp + dq < recursionLimit) (hu : un + 1000 * dq < cLine)
    (off : ∀ q ∈ rest, q.1 ≠ P)
    (k : ∀ r own' h' tk', Fr h₀ L h' m → News h₀ L h' (own' ++ rest) → (∀ q ∈ rest, ∀ o ∈ own', q.1 ≠ o.1) → Post r own' → Q r { s with heap := h', toks := tk' }) :
    wpAny (model PySem.Challenge.rw_nm0003_01.row.prog w) (ktrTop dp un gd cn cs L a ccd cl outer) (call (.ref f) vs) Q E s :=
  CallsF.use C B F X (fun q hq => N q (.tail _ hq)) (fun q hq o ho => by rw [List.mem_singleton.mp ho]; exact off q hq) Tp hk hd hu k
theorem piece_k {W C : Addr} {place : Int} {tp : Tok} {st : Int} {ts : Tok} {n nC : Nat} {vs : List Value} {ns : List Int}
    (B : Below A₀ base outer h₀) (F : Fr h₀ L s.heap m) (X : (Nm.hd.heap_39 w.params).In h₀) (N : News h₀ L s.heap ((W, wellO C place tp st ts n) :: (C, listOf vs.toArray nC) :: own))
    (T : Top Nm.hd.view_39 (looseW Nm.hd.view_39 []) mean mg mb h₀) (hk : cs.kind = .function) (hd : dp + 3 < recursionLimit) (hu : un + 1000 * 3 < cLine)
    (hown : OwnOff own [W, C]) (hWC : C ≠ W) (wf : WF vs ns) (h0 : 0 ≤ place) (h1 : place < 800000) (s0 : 0 ≤ st) (s1 : st < 2147483647)
    (k : ∀ T P D po due place' tp' st' ts' h' tk', PieceOut w mean mg mb po due → place ≤ place' → place' ≤ place + 40 → 0 ≤ st' → st' < 2147483647 → T ≠ P → D ≠ P → W ≠ P → C ≠ P → (∀ q ∈ own, q.1 ≠ P) →
      Fr h₀ L h' m → News h₀ L h' ((T, tupO [.ref P, .ref D]) :: (P, po) :: (D, due) :: (W, wellO C place' tp' st' ts' n) :: (C, listOf vs.toArray nC) :: own) → Q (.ref T) { s with heap := h', toks := tk' }) :
    wpAny (model PySem.Challenge.rw_nm0003_01.row.prog w) (ktrTop dp un gd cn cs L a ccd cl outer) (call (.ref 82) [.ref W]) Q E s := by
  refine CallsF.use (rest := own) (piece_raw w mean mg mb W C place tp st ts n nC vs ns hWC wf h0 h1 s0 s1) B F X N ?_ T hk hd hu ?_
  · intro q hq o ho
    simp only [List.mem_cons, List.not_mem_nil, or_false] at ho
    rcases ho with rfl | rfl
    · exact hown q hq _ (.head _)
    · exact hown q hq _ (.tail _ (.head _))
  · rintro r own' h' tk' F' N' ho ⟨T, P, D, po, due, place', tp', st', ts', hpo, p0, p1, q0, q1, d1, d2, d3, d4⟩
    exact k T P D po due place' tp' st' ts' h' tk' hpo p0 p1 q0 q1 d1 d2 d3 d4 (fun q hq => ho q hq _ (.tail _ (.head _))) F' N'
end
end
section
theorem oct_nil_out {body : Str} {rows : List Str} {vs : List Value} (hb : body = Str.ofString "") (h : OctOut #[] body rows) (hv : StrsAre vs rows) : vs = [] := by
  have hl : (lat #[]).length = 0 := lat_length #[]
  cases h with
  | bytes h0 => exact absurd (by rw [hb]; decide +kernel) h0
  | both h0 h1 h2 => exact absurd hb h1
  | ascii h0 h1 h2 => exact absurd hb h1
  | space h0 h1 h2 => rw [hl] at h2; exact absurd h2 (Nat.not_lt_zero _)
  | none h0 h1 h2 => cases hv; rfl
section
variable {w : World} {mean : ExcName → Option Value} {mg mb : Names} {dp un : Nat} {gd : Option (List Code)} {cn : Str} {cs : Scope} {a : Addr} {ccd : Value} {cl : List (Str × Addr)} {outer : List Env} {A₀ : Around} {base h₀ : Heap} {L : Addr} {m : Names} {s : Shared} {Q E : Value → Shared → Prop} {news rest own : Led}
theorem oct_nil_k {t : Tok} (B : Below A₀ base outer h₀) (F : Fr h₀ L s.heap m) (X : (Nm.hd.heap_39 w.params).In h₀) (N : News h₀ L s.heap news)
    (T : Top Nm.hd.view_39 (looseW Nm.hd.view_39 []) mean mg mb h₀) (hk : cs.kind = .function) (hd : dp + 1 < recursionLimit) (hu : un + 1000 * 1 < cLine)
    (k : ∀ l k' h' tk', LCg.Off1 l news → Fr h₀ L h' m → News h₀ L h' ((l, listOf #[] k') :: news) → Q (.ref l) { s with heap := h', toks := tk' }) :
    wpAny (model PySem.Challenge.rw_nm0003_01.row.prog w) (ktrTop dp un gd cn cs L a ccd cl outer) (call (.ref 53) [.bytes #[] t]) Q E s :=
  Calls.use (oct_raw w mean mg mb #[] t news (by decide) _ _ rfl rfl (by rw [lat_length]; decide) (body_len (by decide))) B F X N T hk hd hu
    fun r news' h' tk' F' N' ⟨l, vs, k', rows, e, hlt, e2, hv, ho⟩ => by
      have hvs : vs = [] := oct_nil_out (by decide +kernel) ho hv
      subst hvs
      exact e ▸ k l k' h' tk' (off1_of fun q hq => Nat.ne_of_lt (hlt q hq)) F' (e2 ▸ N')
end
end
section
local macro_rules | `(tactic| walk_at "pyIter ref") => `(tactic| (k_here; (with_reducible show wpAny _ _ (pyIter (Value.ref _)) (fun it s₂ => LoopAtV _ _ _ _ _ _ _ _ _ it s₂) _ _); refine Hold.out ?_))
local macro_rules | `(tactic| walk_at "call ref") => `(tactic| (k_here; (first | with_reducible show wpAny _ _ (call (Value.ref 82) _) _ _ _ | with_reducible show wpAny _ (Around.deeper callerA _) (call (Value.ref 60) _) _ _ _ | with_reducible show wpAny _ _ (call (Value.ref 113) _) _ _ _ | with_reducible show wpAny _ _ (call (Value.ref 53) [Value.bytes #[] _]) _ _ _ | with_reducible show wpAny _ _ (call (Value.ref 120) _) _ _ _); refine Hold.out ?_))
local macro_rules | `(tactic| walk_at "compareOp NotEq ref ref") => `(tactic| (k_here; refine Hold.out ?_))
local macro_rules | `(tactic| walk_at "subscriptTail") => `(tactic| (k_here; (with_reducible show wpAny _ _ (subscriptTail (PySem.Expr.List (PySem.Expr.Constant (PySem.Const.str _) _ _ :: _) _) _ _ _) _ _ _); refine Hold.out ?_))
theorem kinds_menu {t1 t2 t3 t4 : Tok} : ∀ v ∈ [Value.str (Str.ofString "word") t1, .str (Str.ofString "none") t2, .str (Str.ofString "") t3, .str (Str.ofString "TEXT") t4], ∃ x t, v = .str x t ∧ x.length ≤ 1000 ∧ (x == Str.ofString "num") = false ∧ (x == Str.ofString "text") = false ∧ (x == Str.ofString "addr") = false ∧ (x == Str.ofString "gap") = false := by
  intro v hv
  simp only [List.mem_cons, List.not_mem_nil, or_false] at hv
  rcases hv with rfl | rfl | rfl | rfl <;> exact ⟨_, _, rfl, by decide, by decide, by decide, by decide, by decide⟩
theorem wf_cells {ys : List Value} {ns : List Int} (h : IntsAre ys ((ns.take 24).map fun k' => k'.fmod 2147483647)) : WF ys ((ns.take 24).map fun k' => k'.fmod 2147483647) := by
  refine ⟨h, ?_, by simp; omega⟩
  intro c hc
  obtain ⟨k, _, rfl⟩ := List.mem_map.mp hc
  exact ⟨Int.fmod_nonneg_of_pos _ (by decide), Int.fmod_lt_of_pos _ (by decide)⟩
set_option maxRecDepth 100000 in
set_option maxHeartbeats 8000000 in
theorem law_holds : PySem.Challenge.rw_nm0003_01.Holds := by
  w_on
  refine holds_law law_said fun said => ?_
  refine holds_open (q := hd.view_39) (loose := []) (XP := XL hd.view_39 []) (YP := Hook.says (kHook hd.heap_39 addrs addrs_eq)) hd_left (Hook.of (kHook hd.heap_39 addrs addrs_eq)) (Hook.keeps (kHook hd.heap_39 addrs addrs_eq)) (fun s e => xl_of s (Bool.and_eq_true_iff.mp e).1) XL.keeps (by rfl) (by rfl) (by rfl) (fun s e => recFacts_of (Bool.and_eq_true_iff.mp e).2) (by rfl) said (by decide +kernel) ⟨rfl, rfl, rfl, rfl, rfl, by decide +kernel⟩ ?hw ?hc
  case hw => w_witness2
  clear said
  w_strict (
    k_go0
    all_goals (try k_fold)
    (walk_at "nm steps")
    refine Hold.mk ?_
    rename IntsAre _ (List.map _ (List.take 24 _)) => hcells
    have wfC := wf_cells hcells
    rename Fr _ _ _ _ => lF'
    rename News _ _ _ _ => lN'
    rename IsRange _ _ _ _ _ _ _ _ => rgX
    with_unfolding_all refine' law_loop ?hh rgX lF' lN' ?m1 ?m2 ?s0 ?s1 ?_ ?_
    case hh => rfl
    case m1 => k_mem
    case m2 => exact .tail _ (.head _)
    case s0 => omega
    case s1 => omega
    · intro place tp' st' ts' i t u h tk own hi hown hp0 hp1 hs0 hs1 F' N'
      clear lF' lN'
      (walk_at "nm steps")
      refine Hold.mk ?_
      refine' piece_k ?k1 ?k2 ?k3 ?k4 ?k5 ?kK ?kD ?kE hown ?kW wfC hp0 ?b1 hs0 hs1 ?_
      case k1 => k_asm
      case k2 => k_asm
      case k3 => k_asm
      case k4 => exact N'
      case k5 => k_asm
      case kK => rfl
      case kD => walk_at "nm room"
      case kE => walk_at "nm units"
      case kW => k_ne
      case b1 => omega
      intro T P D po due place2 tp2 st2 ts2 h2 tk2 hpo p0 p1 q0 q1 nTP nDP nWP nCP nOP F2 N2
      cases hpo with
      | lst hi2 hc =>
        (walk_at "nm steps")
        refine Hold.mk ?_
        rename News _ _ _ _ => lN'
        refine' CallsF.at2 (hc P) ?k1 ?k2 ?k3 ?k4 ?k5 ?kK ?kD ?kE ?ko ?_
        case k1 => k_asm
        case k2 => k_asm
        case k3 => k_asm
        case k4 => exact lN'
        case k5 => k_asm
        case kK => rfl
        case kD => walk_at "nm room"
        case kE => walk_at "nm units"
        case ko => exact List.forall_mem_cons.mpr ⟨nDP, List.forall_mem_cons.mpr ⟨nWP, List.forall_mem_cons.mpr ⟨nCP, nOP⟩⟩⟩
        rintro r3 own3 h3 tk3 F3 N3 ho3 ⟨l3, vs3, k3, rfl, rfl, hr3⟩
        (walk_at "nm steps")
        refine Hold.mk ?_
        clear lN'
        rename News _ _ _ _ => lN'
        refine' CallsF.use (hr3 l3 k3) ?k1 ?k2 ?k3 ?k4 ?ko ?k5 ?kK ?kD ?kE ?_
        case k1 => k_asm
        case k2 => k_asm
        case k3 => k_asm
        case k4 => exact lN'
        case k5 => k_asm
        case kK => rfl
        case kD => walk_at "nm room"
        case kE => walk_at "nm units"
        case ko => exact ho3
        rintro r4 own4 h4 tk4 F4 N4 ho4 ⟨l4, vs4, k4, rfl, rfl, hi4⟩
        (walk_at "nm steps")
        refine Hold.mk ?_
        refine ne_ints_k (N4 _ (.head _)).1 hi4 (N4 _ (.tail _ (.head _))).1 hi2 (by walk_at "nm units") ?_
        (walk_at "nm steps")
        exact law_turn (by k_asm) (by k_asm) (fun q hq => .tail _ (.tail _ hq)) (by intro z h1 h2; simp only [lwNames, List.contains_cons, List.contains_nil, Bool.or_false, Bool.or_eq_false_iff, beq_eq_false_iff_ne] at h2; simp [h1, h2.1, h2.2]) hp0 hp1 p0 p1 q0 q1
      | adr hok hc =>
        (walk_at "nm steps")
        refine Hold.mk ?_
        rename News _ _ _ _ => lN'
        refine' CallsF.at2 (hc P) ?k1 ?k2 ?k3 ?k4 ?k5 ?kK ?kD ?kE ?ko ?_
        case k1 => k_asm
        case k2 => k_asm
        case k3 => k_asm
        case k4 => exact lN'
        case k5 => k_asm
        case kK => rfl
        case kD => walk_at "nm room"
        case kE => walk_at "nm units"
        case ko => exact List.forall_mem_cons.mpr ⟨nDP, List.forall_mem_cons.mpr ⟨nWP, List.forall_mem_cons.mpr ⟨nCP, nOP⟩⟩⟩
        rintro r3 own3 h3 tk3 F3 N3 ho3 ⟨l3, vs3, k3, rfl, rfl, hr3⟩
        (walk_at "nm steps")
        refine Hold.mk ?_
        clear lN'
        rename News _ _ _ _ => lN'
        refine' CallsF.use (hr3 l3 k3) ?k1 ?k2 ?k3 ?k4 ?ko ?k5 ?kK ?kD ?kE ?_
        case k1 => k_asm
        case k2 => k_asm
        case k3 => k_asm
        case k4 => exact lN'
        case k5 => k_asm
        case kK => rfl
        case kD => walk_at "nm room"
        case kE => walk_at "nm units"
        case ko => exact ho3
        rintro r4 own4 h4 tk4 F4 N4 ho4 ⟨D4, t4, u4, rfl, rfl⟩
        (walk_at "nm steps")
        refine Hold.mk ?_
        refine ne_pair_k hok (N4 _ (.head _)).1 (N4 _ (.tail _ (.head _))).1 (by walk_at "nm units") ?_
        (walk_at "nm steps")
        exact law_turn (by k_asm) (by k_asm) (fun q hq => .tail _ (.tail _ hq)) (by intro z h1 h2; simp only [lwNames, List.contains_cons, List.contains_nil, Bool.or_false, Bool.or_eq_false_iff, beq_eq_false_iff_ne] at h2; simp [h1, h2.1, h2.2]) hp0 hp1 p0 p1 q0 q1
    · intro place tp' st' ts' u h tk hp0 hp1 hs0 hs1 F' N'
      clear lF' lN'
      (walk_at "nm steps")
      refine Hold.mk ?_
      rename ∀ (l : Addr) (k : Nat), CallsF _ _ _ _ 113 _ _ _ _ => hr3
      rename News _ _ _ _ => lN'
      refine' CallsF.use (hr3 _ _) ?k1 ?k2 ?k3 ?k4 ?ko ?k5 ?kK ?kD ?kE ?_
      case k4 => exact lN'
      case k1 => k_asm
      case k2 => k_asm
      case k3 => k_asm
      case k5 => k_asm
      case kK => rfl
      case kD => walk_at "nm room"
      case kE => walk_at "nm units"
      case ko => refine List.forall_mem_cons.mpr ⟨?_, List.forall_mem_cons.mpr ⟨?_, fun _ h => nomatch h⟩⟩ <;> (intro o ho; rw [List.mem_singleton.mp ho]; k_ne)
      rintro r4 own4 h4 tk4 F4 N4 ho4 ⟨l4, vs4, k4, rfl, rfl, hi4⟩
      simp only [List.cons_append, List.nil_append] at N4
      have o4 := off1_one ho4
      simp only [LCg.Off1, and_true] at o4
      (walk_at "nm steps")
      refine Hold.mk ?_
      clear lN'
      rename News _ _ _ _ => lN'
      rename IntsAre _ (KBw.bInts _) => hi5
      refine ne_ints_k (lN' _ (.tail _ (.head _))).1 hi4 (lN' _ (.head _)).1 hi5 (by walk_at "nm units") ?_
      (walk_at "nm steps")
      refine Hold.mk ?_
      refine' oct_nil_k ?k1 ?k2 ?k3 ?k4 ?k5 ?kK ?kD ?kE ?_
      case k4 => k_asm
      case k1 => k_asm
      case k2 => k_asm
      case k3 => k_asm
      case k5 => k_asm
      case kK => rfl
      case kD => walk_at "nm room"
      case kE => walk_at "nm units"
      intro l5 k5 h5 tk5 o5 F5 N5
      simp only [LCg.Off1, and_true] at o5
      (walk_at "nm steps")
      refine Hold.mk ?_
      rename News _ _ _ _ => lM'
      refine ne_ints_k (vs := []) (us := []) (ns := []) (lM' _ (.tail _ (.head _))).1 .nil (lM' _ (.head _)).1 .nil (by walk_at "nm units") ?_
      (walk_at "nm steps")
      refine Hold.mk ?_
      rename News _ _ _ _ => lK'
      refine' CallsF.use (piece_gap0e _ _ _ _ _ _ _) ?k1 ?k2 ?k3 lK' ?ko ?k5 ?kK ?kD ?kE ?_
      case k1 => k_asm
      case k2 => k_asm
      case k3 => k_asm
      case k5 => k_asm
      case kK => rfl
      case kD => walk_at "nm room"
      case kE => walk_at "nm units"
      case ko =>
        intro q hq o ho
        rw [List.mem_singleton.mp ho]
        revert q
        k_all
      rintro r6 own6 h6 tk6 F6 N6 ho6 ⟨l6, k6, rfl, rfl⟩
      simp only [List.cons_append, List.nil_append] at N6
      have o6 := off1_one ho6
      simp only [LCg.Off1, and_true] at o6
      (walk_at "nm steps")
      refine Hold.mk ?_
      rename News _ _ _ _ => lJ'
      refine ne_ints_k (vs := []) (us := []) (ns := []) (lJ' _ (.tail _ (.head _))).1 .nil (lJ' _ (.head _)).1 .nil (by walk_at "nm units") ?_
      (walk_at "nm steps")
      refine Hold.mk ?_
      refine item_menu (fun v => ∃ x t, v = .str x t ∧ x.length ≤ 1000 ∧ (x == Str.ofString "num") = false ∧ (x == Str.ofString "text") = false ∧ (x == Str.ofString "addr") = false ∧ (x == Str.ofString "gap") = false) (by is_list) kinds_menu (by assumption) (by assumption) (by simp) ?_ (by with_unfolding_all rfl)
      rintro v9 ⟨x9, t9, rfl, hx9, e1, e2, e3, e4⟩
      (walk_at "nm steps")
      refine Hold.mk ?_
      rename News _ _ _ _ => lR'
      refine' refused_k hx9 e1 e2 e3 e4 ?k1 ?k2 ?k3 lR' ?k5 ?kK ?kD ?kE ?_
      case k1 => k_asm
      case k2 => k_asm
      case k3 => k_asm
      case k5 => k_asm
      case kK => rfl
      case kD => walk_at "nm room"
      case kE => walk_at "nm units"
      intro h7 tk7 F7 N7
      (walk_at "nm steps"))
end
end Nm
set_option maxRecDepth 100000 in
set_option maxHeartbeats 8000000 in
theorem PySem.Challenge.cw_nm0003_01_holds : PySem.Challenge.rw_nm0003_01.Holds :=
  Nm.law_holds
