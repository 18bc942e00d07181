import PyProof.Rows.All
import Wide.All
import OpenK.AllK
import Wide.FinOn
import PyProof.InstStoreFacts
import Lean
import PySem.Challenge.RW_np0039_01
open PySem PySem.W PyProof.Rows
set_option Elab.async false
set_option maxRecDepth 100000
set_option linter.all false
set_option rowWalk.seconds 0
namespace Mine

noncomputable def hd.nth : Nat → List Stmt → Stmt
  | _, [] => .Pass default
  | 0, a :: _ => a
  | n + 1, _ :: l => hd.nth n l
noncomputable def hd.sel : List Bool → List Stmt → List Stmt
  | [], _ => []
  | _ :: _, [] => []
  | true :: m, a :: l => a :: hd.sel m l
  | false :: m, _ :: l => hd.sel m l
noncomputable def hd.bodyC : Stmt → List Stmt
  | .ClassDef _ _ _ b _ _ _ _ _ _ _ => b
  | _ => []
noncomputable def hd.bodyF : Stmt → List Stmt
  | .FunctionDef _ _ b _ _ _ _ _ _ _ => b
  | _ => []
noncomputable def hd.argsF : Stmt → Arguments
  | .FunctionDef _ a _ _ _ _ _ _ _ _ => a
  | _ => default
noncomputable def hd.scopeF : Stmt → Scope
  | .FunctionDef _ _ _ _ _ _ s _ _ _ => s
  | _ => default
noncomputable def hd.prg : List Stmt := PySem.Challenge.pw_np0039_01.main.body
noncomputable def hd.mask : List Bool := [false, true, false, true, true, true, true, true, true, true, false, true, true, false, true, true, true, true, true, true, true, true, true, true, true, true, true, true, false, true, true, true, true, true, true, true, true, true, false, true, true, true, true, true, true, true, true, true, true, true, true]
set_option maxHeartbeats 8000000 in
noncomputable def hd.viewE : (l : List Stmt) ×' (l = hd.sel hd.mask hd.prg) := by
  refine ⟨?l, ?h⟩
  case h =>
    dsimp only [hd.sel, hd.mask, hd.prg, PySem.Challenge.pw_np0039_01]
    exact rfl
noncomputable def hd.parts (s : Stmt) : Arguments × List Stmt × Scope := (hd.argsF s, hd.bodyF s, hd.scopeF s)
set_option maxHeartbeats 8000000 in
noncomputable def hd.heap_39 : Params → Frag := by
  refine (fun (_ : @Eq (List (Arguments × List Stmt × Scope)) ((?p0, ?b0, ?s0) :: (?p1, ?b1, ?s1) :: (?p2, ?b2, ?s2) :: (?p3, ?b3, ?s3) :: (?p4, ?b4, ?s4) :: (?p5, ?b5, ?s5) :: (?p6, ?b6, ?s6) :: (?p7, ?b7, ?s7) :: (?p8, ?b8, ?s8) :: (?p9, ?b9, ?s9) :: (?p10, ?b10, ?s10) :: (?p11, ?b11, ?s11) :: (?p12, ?b12, ?s12) :: (?p13, ?b13, ?s13) :: (?p14, ?b14, ?s14) :: (?p15, ?b15, ?s15) :: (?p16, ?b16, ?s16) :: (?p17, ?b17, ?s17) :: (?p18, ?b18, ?s18) :: (?p19, ?b19, ?s19) :: (?p20, ?b20, ?s20) :: (?p21, ?b21, ?s21) :: (?p22, ?b22, ?s22) :: (?p23, ?b23, ?s23) :: (?p24, ?b24, ?s24) :: (?p25, ?b25, ?s25) :: (?p26, ?b26, ?s26) :: (?p27, ?b27, ?s27) :: (?p28, ?b28, ?s28) :: (?p29, ?b29, ?s29) :: (?p30, ?b30, ?s30) :: (?p31, ?b31, ?s31) :: (?p32, ?b32, ?s32) :: (?p33, ?b33, ?s33) :: (?p34, ?b34, ?s34) :: (?p35, ?b35, ?s35) :: (?p36, ?b36, ?s36) :: (?p37, ?b37, ?s37) :: (?p38, ?b38, ?s38) :: (?p39, ?b39, ?s39) :: (?p40, ?b40, ?s40) :: (?p41, ?b41, ?s41) :: []) ((hd.parts (hd.nth 0 (hd.bodyC (hd.nth 1 hd.prg)))) :: (hd.parts (hd.nth 0 (hd.bodyC (hd.nth 3 hd.prg)))) :: (hd.parts (hd.nth 0 (hd.bodyC (hd.nth 6 hd.prg)))) :: (hd.parts (hd.nth 7 hd.prg)) :: (hd.parts (hd.nth 8 hd.prg)) :: (hd.parts (hd.nth 9 hd.prg)) :: (hd.parts (hd.nth 11 hd.prg)) :: (hd.parts (hd.nth 12 hd.prg)) :: (hd.parts (hd.nth 14 hd.prg)) :: (hd.parts (hd.nth 15 hd.prg)) :: (hd.parts (hd.nth 16 hd.prg)) :: (hd.parts (hd.nth 17 hd.prg)) :: (hd.parts (hd.nth 18 hd.prg)) :: (hd.parts (hd.nth 19 hd.prg)) :: (hd.parts (hd.nth 20 hd.prg)) :: (hd.parts (hd.nth 21 hd.prg)) :: (hd.parts (hd.nth 22 hd.prg)) :: (hd.parts (hd.nth 23 hd.prg)) :: (hd.parts (hd.nth 24 hd.prg)) :: (hd.parts (hd.nth 25 hd.prg)) :: (hd.parts (hd.nth 26 hd.prg)) :: (hd.parts (hd.nth 27 hd.prg)) :: (hd.parts (hd.nth 30 hd.prg)) :: (hd.parts (hd.nth 31 hd.prg)) :: (hd.parts (hd.nth 32 hd.prg)) :: (hd.parts (hd.nth 33 hd.prg)) :: (hd.parts (hd.nth 34 hd.prg)) :: (hd.parts (hd.nth 35 hd.prg)) :: (hd.parts (hd.nth 36 hd.prg)) :: (hd.parts (hd.nth 37 hd.prg)) :: (hd.parts (hd.nth 39 hd.prg)) :: (hd.parts (hd.nth 40 hd.prg)) :: (hd.parts (hd.nth 41 hd.prg)) :: (hd.parts (hd.nth 42 hd.prg)) :: (hd.parts (hd.nth 43 hd.prg)) :: (hd.parts (hd.nth 44 hd.prg)) :: (hd.parts (hd.nth 45 hd.prg)) :: (hd.parts (hd.nth 46 hd.prg)) :: (hd.parts (hd.nth 47 hd.prg)) :: (hd.parts (hd.nth 48 hd.prg)) :: (hd.parts (hd.nth 49 hd.prg)) :: (hd.parts (hd.nth 50 hd.prg)) :: [])) => fun P =>
  (nat_lit 2, { cls := Value.none, data := Data.dict #[{ hash := PyData.keyHash P (Str.ofString "type.__subclasses__.Exception.0"), key := Value.str (Str.ofString "type.__subclasses__.Exception.0") 216, val := Value.int 31 0 }, { hash := PyData.keyHash P (Str.ofString "type.__subclasses__.Exception.n"), key := Value.str (Str.ofString "type.__subclasses__.Exception.n") 217, val := Value.int 1 0 }] 2 }) ::
  (nat_lit 3, { cls := Value.type "dict", data := Data.dict #[{ hash := PyData.keyHash P (Str.ofString "__name__"), key := Value.str (Str.ofString "__name__") 165, val := Value.str (Str.ofString "law_np0039_01") 555 }, { hash := PyData.keyHash P (Str.ofString "__doc__"), key := Value.str (Str.ofString "__doc__") 166, val := Value.none }, { hash := PyData.keyHash P (Str.ofString "__package__"), key := Value.str (Str.ofString "__package__") 167, val := Value.none }, { hash := PyData.keyHash P (Str.ofString "__loader__"), key := Value.str (Str.ofString "__loader__") 168, val := Value.builtin "__main__.__loader__#opaque" }, { hash := PyData.keyHash P (Str.ofString "__spec__"), key := Value.str (Str.ofString "__spec__") 169, val := Value.none }, { hash := PyData.keyHash P (Str.ofString "__annotations__"), key := Value.str (Str.ofString "__annotations__") 170, val := Value.ref 6 }, { hash := PyData.keyHash P (Str.ofString "__builtins__"), key := Value.str (Str.ofString "__builtins__") 171, val := Value.ref 4 }, { hash := PyData.keyHash P (Str.ofString "__file__"), key := Value.str (Str.ofString "__file__") 173, val := Value.str (Str.ofString "/claim/cut.py") 172 }, { hash := PyData.keyHash P (Str.ofString "__cached__"), key := Value.str (Str.ofString "__cached__") 174, val := Value.none }, { hash := PyData.keyHash P (Str.ofString "LispSignal"), key := Value.str (Str.ofString "LispSignal") 219, val := Value.ref 31 }, { hash := PyData.keyHash P (Str.ofString "Symbol"), key := Value.str (Str.ofString "Symbol") 252, val := Value.ref 51 }, { hash := PyData.keyHash P (Str.ofString "NIL"), key := Value.str (Str.ofString "NIL") 262, val := Value.ref 57 }, { hash := PyData.keyHash P (Str.ofString "T"), key := Value.str (Str.ofString "T") 272, val := Value.ref 60 }, { hash := PyData.keyHash P (Str.ofString "Text"), key := Value.str (Str.ofString "Text") 303, val := Value.ref 79 }, { hash := PyData.keyHash P (Str.ofString "is_whole"), key := Value.str (Str.ofString "is_whole") 310, val := Value.ref 90 }, { hash := PyData.keyHash P (Str.ofString "boolean"), key := Value.str (Str.ofString "boolean") 317, val := Value.ref 97 }, { hash := PyData.keyHash P (Str.ofString "text_of"), key := Value.str (Str.ofString "text_of") 323, val := Value.ref 102 }, { hash := PyData.keyHash P (Str.ofString "downcase"), key := Value.str (Str.ofString "downcase") 332, val := Value.ref 109 }, { hash := PyData.keyHash P (Str.ofString "fold"), key := Value.str (Str.ofString "fold") 339, val := Value.ref 116 }, { hash := PyData.keyHash P (Str.ofString "wrong"), key := Value.str (Str.ofString "wrong") 349, val := Value.ref 123 }, { hash := PyData.keyHash P (Str.ofString "text_in"), key := Value.str (Str.ofString "text_in") 356, val := Value.ref 130 }, { hash := PyData.keyHash P (Str.ofString "named_codes"), key := Value.str (Str.ofString "named_codes") 363, val := Value.ref 137 }, { hash := PyData.keyHash P (Str.ofString "whole_in"), key := Value.str (Str.ofString "whole_in") 370, val := Value.ref 144 }, { hash := PyData.keyHash P (Str.ofString "optional"), key := Value.str (Str.ofString "optional") 378, val := Value.ref 151 }, { hash := PyData.keyHash P (Str.ofString "bounds_in"), key := Value.str (Str.ofString "bounds_in") 390, val := Value.ref 158 }, { hash := PyData.keyHash P (Str.ofString "string_equal"), key := Value.str (Str.ofString "string_equal") 398, val := Value.ref 165 }, { hash := PyData.keyHash P (Str.ofString "string_less"), key := Value.str (Str.ofString "string_less") 406, val := Value.ref 172 }, { hash := PyData.keyHash P (Str.ofString "string_greater"), key := Value.str (Str.ofString "string_greater") 414, val := Value.ref 179 }, { hash := PyData.keyHash P (Str.ofString "folded"), key := Value.str (Str.ofString "folded") 420, val := Value.ref 184 }, { hash := PyData.keyHash P (Str.ofString "clipped_end"), key := Value.str (Str.ofString "clipped_end") 428, val := Value.ref 191 }, { hash := PyData.keyHash P (Str.ofString "compare_strings"), key := Value.str (Str.ofString "compare_strings") 444, val := Value.ref 198 }, { hash := PyData.keyHash P (Str.ofString "string_prefix"), key := Value.str (Str.ofString "string_prefix") 455, val := Value.ref 205 }, { hash := PyData.keyHash P (Str.ofString "string_suffix"), key := Value.str (Str.ofString "string_suffix") 466, val := Value.ref 212 }, { hash := PyData.keyHash P (Str.ofString "MOST_CELLS"), key := Value.str (Str.ofString "MOST_CELLS") 472, val := Value.int 4194304 471 }, { hash := PyData.keyHash P (Str.ofString "place_of"), key := Value.str (Str.ofString "place_of") 484, val := Value.ref 219 }, { hash := PyData.keyHash P (Str.ofString "string_search"), key := Value.str (Str.ofString "string_search") 496, val := Value.ref 226 }, { hash := PyData.keyHash P (Str.ofString "edits_between"), key := Value.str (Str.ofString "edits_between") 510, val := Value.ref 233 }, { hash := PyData.keyHash P (Str.ofString "string_distance"), key := Value.str (Str.ofString "string_distance") 518, val := Value.ref 240 }, { hash := PyData.keyHash P (Str.ofString "is_figure"), key := Value.str (Str.ofString "is_figure") 525, val := Value.ref 247 }, { hash := PyData.keyHash P (Str.ofString "number_at"), key := Value.str (Str.ofString "number_at") 534, val := Value.ref 254 }, { hash := PyData.keyHash P (Str.ofString "is_version_less"), key := Value.str (Str.ofString "is_version_less") 546, val := Value.ref 261 }, { hash := PyData.keyHash P (Str.ofString "string_version_less"), key := Value.str (Str.ofString "string_version_less") 554, val := Value.ref 268 }, { hash := PyData.keyHash P (Str.ofString "_law_deck"), key := Value.str (Str.ofString "_law_deck") 562, val := Value.ref 273 }, { hash := PyData.keyHash P (Str.ofString "_law_draw"), key := Value.str (Str.ofString "_law_draw") 571, val := Value.ref 280 }, { hash := PyData.keyHash P (Str.ofString "_law_signs"), key := Value.str (Str.ofString "_law_signs") 577, val := Value.ref 285 }, { hash := PyData.keyHash P (Str.ofString "_law_small"), key := Value.str (Str.ofString "_law_small") 583, val := Value.ref 290 }, { hash := PyData.keyHash P (Str.ofString "_law_first"), key := Value.str (Str.ofString "_law_first") 593, val := Value.ref 297 }, { hash := PyData.keyHash P (Str.ofString "_law_edits"), key := Value.str (Str.ofString "_law_edits") 601, val := Value.ref 304 }, { hash := PyData.keyHash P (Str.ofString "_law_compared"), key := Value.str (Str.ofString "_law_compared") 610, val := Value.ref 311 }, { hash := PyData.keyHash P (Str.ofString "_law_parts"), key := Value.str (Str.ofString "_law_parts") 616, val := Value.ref 316 }, { hash := PyData.keyHash P (Str.ofString "_law_is_ahead"), key := Value.str (Str.ofString "_law_is_ahead") 626, val := Value.ref 323 }, { hash := PyData.keyHash P (Str.ofString "_law_truth"), key := Value.str (Str.ofString "_law_truth") 633, val := Value.ref 330 }, { hash := PyData.keyHash P (Str.ofString "_law_is_pair"), key := Value.str (Str.ofString "_law_is_pair") 639, val := Value.ref 335 }, { hash := PyData.keyHash P (Str.ofString "law"), key := Value.str (Str.ofString "law") 645, val := Value.ref 340 }] 54 }) ::
  (nat_lit 15, { cls := Value.type "tuple", data := Data.seq #[Value.type "Exception"] }) ::
  (nat_lit 22, { cls := Value.type "tuple", data := Data.seq #[] }) ::
  (nat_lit 24, { cls := Value.type "tuple", data := Data.seq #[Value.str (Str.ofString "self") 204, Value.str (Str.ofString "symbol") 205, Value.str (Str.ofString "data") 206] }) ::
  (nat_lit 25, { cls := Value.type "tuple", data := Data.seq #[] }) ::
  (nat_lit 27, { cls := Value.type "code", data := Data.fields #[Value.str (Str.ofString "__init__") 201, Value.str (Str.ofString "LispSignal.__init__") 202, Value.str (Str.ofString "/claim/cut.py") 203, Value.int 4 0, Value.int 3 0, Value.int 0 0, Value.int 0 0, Value.int 3 0, Value.ref 22, Value.bool Bool.true, Value.int 181 0, Value.ref 23, Value.none, Value.ref 24, Value.ref 25, Value.ref 26, Value.int 207 0, Value.int 4 0, Value.str (Str.ofString "/claim/cut.py") 208] }) ::
  (nat_lit 28, { cls := Value.type "function", data := Data.func { name := Str.ofString "__init__", qualname := Str.ofString "LispSignal.__init__", params := ?p0, body := FuncBody.stmts ?b0, scope := ?s0, globals := 3, closure := [], defaults := Value.none, kwdefaults := Value.none, pyModule := Value.str (Str.ofString "emacs.errors") 187, code := Value.ref 27 } }) ::
  (nat_lit 29, { cls := Value.type "tuple", data := Data.seq #[Value.str (Str.ofString "data") 210, Value.str (Str.ofString "symbol") 211] }) ::
  (nat_lit 30, { cls := Value.type "dict", data := Data.dict #[{ hash := PyData.keyHash P (Str.ofString "__module__"), key := Value.str (Str.ofString "__module__") 196, val := Value.str (Str.ofString "emacs.errors") 187 }, { hash := PyData.keyHash P (Str.ofString "__firstlineno__"), key := Value.str (Str.ofString "__firstlineno__") 200, val := Value.int 2 199 }, { hash := PyData.keyHash P (Str.ofString "__init__"), key := Value.str (Str.ofString "__init__") 209, val := Value.ref 28 }, { hash := PyData.keyHash P (Str.ofString "__static_attributes__"), key := Value.str (Str.ofString "__static_attributes__") 212, val := Value.ref 29 }, { hash := PyData.keyHash P (Str.ofString "__weakref__"), key := Value.str (Str.ofString "__weakref__") 214, val := Value.ref 32 }, { hash := PyData.keyHash P (Str.ofString "__doc__"), key := Value.str (Str.ofString "__doc__") 215, val := Value.none }] 3 }) ::
  (nat_lit 31, { cls := Value.type "type", data := Data.cls { name := Str.ofString "LispSignal", bases := [Value.type "Exception"], mro := [Value.ref 31, Value.type "Exception", Value.type "BaseException", Value.type "object"], ns := 30, qualname := Str.ofString "LispSignal" }, slots := #[Option.some (Value.ref 15), Option.none, Option.some (Value.str (Str.ofString "LispSignal") 189), Option.some (Value.str (Str.ofString "LispSignal") 197), Option.some (Value.builtin "Exception.__new__"), Option.some (Value.bool Bool.true)] }) ::
  (nat_lit 32, { cls := Value.type "getset_descriptor", data := Data.fields #[Value.str (Str.ofString "__weakref__") 213, Value.ref 31, Value.builtin "ExceptionGroup.__weakref__", Value.none] }) ::
  (nat_lit 42, { cls := Value.type "tuple", data := Data.seq #[] }) ::
  (nat_lit 44, { cls := Value.type "tuple", data := Data.seq #[Value.str (Str.ofString "self") 237, Value.str (Str.ofString "number") 238, Value.str (Str.ofString "name") 239] }) ::
  (nat_lit 45, { cls := Value.type "tuple", data := Data.seq #[] }) ::
  (nat_lit 47, { cls := Value.type "code", data := Data.fields #[Value.str (Str.ofString "__init__") 234, Value.str (Str.ofString "Symbol.__init__") 235, Value.str (Str.ofString "/claim/cut.py") 236, Value.int 10 0, Value.int 3 0, Value.int 0 0, Value.int 0 0, Value.int 3 0, Value.ref 42, Value.bool Bool.true, Value.int 181 0, Value.ref 43, Value.none, Value.ref 44, Value.ref 45, Value.ref 46, Value.int 240 0, Value.int 10 0, Value.str (Str.ofString "/claim/cut.py") 241] }) ::
  (nat_lit 48, { cls := Value.type "function", data := Data.func { name := Str.ofString "__init__", qualname := Str.ofString "Symbol.__init__", params := ?p1, body := FuncBody.stmts ?b1, scope := ?s1, globals := 3, closure := [], defaults := Value.none, kwdefaults := Value.none, pyModule := Value.str (Str.ofString "emacs.objects") 220, code := Value.ref 47 } }) ::
  (nat_lit 49, { cls := Value.type "tuple", data := Data.seq #[Value.str (Str.ofString "name") 243, Value.str (Str.ofString "number") 244] }) ::
  (nat_lit 50, { cls := Value.type "dict", data := Data.dict #[{ hash := PyData.keyHash P (Str.ofString "__module__"), key := Value.str (Str.ofString "__module__") 229, val := Value.str (Str.ofString "emacs.objects") 220 }, { hash := PyData.keyHash P (Str.ofString "__firstlineno__"), key := Value.str (Str.ofString "__firstlineno__") 233, val := Value.int 8 232 }, { hash := PyData.keyHash P (Str.ofString "__init__"), key := Value.str (Str.ofString "__init__") 242, val := Value.ref 48 }, { hash := PyData.keyHash P (Str.ofString "__static_attributes__"), key := Value.str (Str.ofString "__static_attributes__") 245, val := Value.ref 49 }, { hash := PyData.keyHash P (Str.ofString "__dict__"), key := Value.str (Str.ofString "__dict__") 247, val := Value.ref 52 }, { hash := PyData.keyHash P (Str.ofString "__weakref__"), key := Value.str (Str.ofString "__weakref__") 249, val := Value.ref 53 }, { hash := PyData.keyHash P (Str.ofString "__doc__"), key := Value.str (Str.ofString "__doc__") 250, val := Value.none }] 4 }) ::
  (nat_lit 51, { cls := Value.type "type", data := Data.cls { name := Str.ofString "Symbol", bases := [Value.type "object"], mro := [Value.ref 51, Value.type "object"], ns := 50, qualname := Str.ofString "Symbol" }, slots := #[Option.none, Option.none, Option.some (Value.str (Str.ofString "Symbol") 222), Option.some (Value.str (Str.ofString "Symbol") 230), Option.some (Value.builtin "object.__new__"), Option.some (Value.bool Bool.true)] }) ::
  (nat_lit 52, { cls := Value.type "getset_descriptor", data := Data.fields #[Value.str (Str.ofString "__dict__") 246, Value.ref 51, Value.builtin "function.__dict__", Value.builtin "function.__dict__#set"] }) ::
  (nat_lit 53, { cls := Value.type "getset_descriptor", data := Data.fields #[Value.str (Str.ofString "__weakref__") 248, Value.ref 51, Value.builtin "ExceptionGroup.__weakref__", Value.none] }) ::
  (nat_lit 56, { cls := Value.type "dict", data := Data.dict #[{ hash := PyData.keyHash P (Str.ofString "number"), key := Value.str (Str.ofString "number") 259, val := Value.int 0 253 }, { hash := PyData.keyHash P (Str.ofString "name"), key := Value.str (Str.ofString "name") 261, val := Value.str (Str.ofString "nil") 254 }] 2 }) ::
  (nat_lit 57, { cls := Value.ref 51, dict := Option.some 56 }) ::
  (nat_lit 59, { cls := Value.type "dict", data := Data.dict #[{ hash := PyData.keyHash P (Str.ofString "number"), key := Value.str (Str.ofString "number") 269, val := Value.int 1 263 }, { hash := PyData.keyHash P (Str.ofString "name"), key := Value.str (Str.ofString "name") 271, val := Value.str (Str.ofString "t") 264 }] 2 }) ::
  (nat_lit 60, { cls := Value.ref 51, dict := Option.some 59 }) ::
  (nat_lit 69, { cls := Value.type "tuple", data := Data.seq #[Value.none] }) ::
  (nat_lit 70, { cls := Value.type "tuple", data := Data.seq #[] }) ::
  (nat_lit 72, { cls := Value.type "tuple", data := Data.seq #[Value.str (Str.ofString "self") 288, Value.str (Str.ofString "codes") 289, Value.str (Str.ofString "spans") 290] }) ::
  (nat_lit 73, { cls := Value.type "tuple", data := Data.seq #[] }) ::
  (nat_lit 75, { cls := Value.type "code", data := Data.fields #[Value.str (Str.ofString "__init__") 285, Value.str (Str.ofString "Text.__init__") 286, Value.str (Str.ofString "/claim/cut.py") 287, Value.int 17 0, Value.int 3 0, Value.int 0 0, Value.int 0 0, Value.int 3 0, Value.ref 70, Value.bool Bool.true, Value.int 181 0, Value.ref 71, Value.none, Value.ref 72, Value.ref 73, Value.ref 74, Value.int 291 0, Value.int 17 0, Value.str (Str.ofString "/claim/cut.py") 292] }) ::
  (nat_lit 76, { cls := Value.type "function", data := Data.func { name := Str.ofString "__init__", qualname := Str.ofString "Text.__init__", params := ?p2, body := FuncBody.stmts ?b2, scope := ?s2, globals := 3, closure := [], defaults := Value.ref 69, kwdefaults := Value.none, pyModule := Value.str (Str.ofString "emacs.objects") 220, code := Value.ref 75 } }) ::
  (nat_lit 77, { cls := Value.type "tuple", data := Data.seq #[Value.str (Str.ofString "codes") 294, Value.str (Str.ofString "spans") 295] }) ::
  (nat_lit 78, { cls := Value.type "dict", data := Data.dict #[{ hash := PyData.keyHash P (Str.ofString "__module__"), key := Value.str (Str.ofString "__module__") 280, val := Value.str (Str.ofString "emacs.objects") 220 }, { hash := PyData.keyHash P (Str.ofString "__firstlineno__"), key := Value.str (Str.ofString "__firstlineno__") 284, val := Value.int 15 283 }, { hash := PyData.keyHash P (Str.ofString "__init__"), key := Value.str (Str.ofString "__init__") 293, val := Value.ref 76 }, { hash := PyData.keyHash P (Str.ofString "__static_attributes__"), key := Value.str (Str.ofString "__static_attributes__") 296, val := Value.ref 77 }, { hash := PyData.keyHash P (Str.ofString "__dict__"), key := Value.str (Str.ofString "__dict__") 298, val := Value.ref 80 }, { hash := PyData.keyHash P (Str.ofString "__weakref__"), key := Value.str (Str.ofString "__weakref__") 300, val := Value.ref 81 }, { hash := PyData.keyHash P (Str.ofString "__doc__"), key := Value.str (Str.ofString "__doc__") 301, val := Value.none }] 4 }) ::
  (nat_lit 79, { cls := Value.type "type", data := Data.cls { name := Str.ofString "Text", bases := [Value.type "object"], mro := [Value.ref 79, Value.type "object"], ns := 78, qualname := Str.ofString "Text" }, slots := #[Option.none, Option.none, Option.some (Value.str (Str.ofString "Text") 273), Option.some (Value.str (Str.ofString "Text") 281), Option.some (Value.builtin "object.__new__"), Option.some (Value.bool Bool.true)] }) ::
  (nat_lit 80, { cls := Value.type "getset_descriptor", data := Data.fields #[Value.str (Str.ofString "__dict__") 297, Value.ref 79, Value.builtin "function.__dict__", Value.builtin "function.__dict__#set"] }) ::
  (nat_lit 81, { cls := Value.type "getset_descriptor", data := Data.fields #[Value.str (Str.ofString "__weakref__") 299, Value.ref 79, Value.builtin "ExceptionGroup.__weakref__", Value.none] }) ::
  (nat_lit 84, { cls := Value.type "tuple", data := Data.seq #[] }) ::
  (nat_lit 86, { cls := Value.type "tuple", data := Data.seq #[Value.str (Str.ofString "datum") 307] }) ::
  (nat_lit 87, { cls := Value.type "tuple", data := Data.seq #[] }) ::
  (nat_lit 89, { cls := Value.type "code", data := Data.fields #[Value.str (Str.ofString "is_whole") 304, Value.str (Str.ofString "is_whole") 305, Value.str (Str.ofString "/claim/cut.py") 306, Value.int 20 0, Value.int 1 0, Value.int 0 0, Value.int 0 0, Value.int 3 0, Value.ref 84, Value.bool Bool.true, Value.int 181 0, Value.ref 85, Value.none, Value.ref 86, Value.ref 87, Value.ref 88, Value.int 308 0, Value.int 20 0, Value.str (Str.ofString "/claim/cut.py") 309] }) ::
  (nat_lit 90, { cls := Value.type "function", data := Data.func { name := Str.ofString "is_whole", qualname := Str.ofString "is_whole", params := ?p3, body := FuncBody.stmts ?b3, scope := ?s3, globals := 3, closure := [], defaults := Value.none, kwdefaults := Value.none, pyModule := Value.str (Str.ofString "emacs.objects") 220, code := Value.ref 89 } }) ::
  (nat_lit 91, { cls := Value.type "tuple", data := Data.seq #[] }) ::
  (nat_lit 93, { cls := Value.type "tuple", data := Data.seq #[Value.str (Str.ofString "flag") 314] }) ::
  (nat_lit 94, { cls := Value.type "tuple", data := Data.seq #[] }) ::
  (nat_lit 96, { cls := Value.type "code", data := Data.fields #[Value.str (Str.ofString "boolean") 311, Value.str (Str.ofString "boolean") 312, Value.str (Str.ofString "/claim/cut.py") 313, Value.int 22 0, Value.int 1 0, Value.int 0 0, Value.int 0 0, Value.int 3 0, Value.ref 91, Value.bool Bool.true, Value.int 181 0, Value.ref 92, Value.none, Value.ref 93, Value.ref 94, Value.ref 95, Value.int 315 0, Value.int 22 0, Value.str (Str.ofString "/claim/cut.py") 316] }) ::
  (nat_lit 97, { cls := Value.type "function", data := Data.func { name := Str.ofString "boolean", qualname := Str.ofString "boolean", params := ?p4, body := FuncBody.stmts ?b4, scope := ?s4, globals := 3, closure := [], defaults := Value.none, kwdefaults := Value.none, pyModule := Value.str (Str.ofString "emacs.objects") 220, code := Value.ref 96 } }) ::
  (nat_lit 98, { cls := Value.type "tuple", data := Data.seq #[] }) ::
  (nat_lit 101, { cls := Value.type "code", data := Data.fields #[Value.str (Str.ofString "text_of") 318, Value.str (Str.ofString "text_of") 319, Value.str (Str.ofString "/claim/cut.py") 320, Value.int 24 0, Value.int 1 0, Value.int 0 0, Value.int 0 0, Value.int 3 0, Value.ref 98, Value.bool Bool.true, Value.int 181 0, Value.ref 99, Value.none, Value.none, Value.none, Value.ref 100, Value.int 321 0, Value.int 24 0, Value.str (Str.ofString "/claim/cut.py") 322] }) ::
  (nat_lit 102, { cls := Value.type "function", data := Data.func { name := Str.ofString "text_of", qualname := Str.ofString "text_of", params := ?p5, body := FuncBody.stmts ?b5, scope := ?s5, globals := 3, closure := [], defaults := Value.none, kwdefaults := Value.none, pyModule := Value.str (Str.ofString "emacs.objects") 220, code := Value.ref 101 } }) ::
  (nat_lit 103, { cls := Value.type "tuple", data := Data.seq #[] }) ::
  (nat_lit 105, { cls := Value.type "tuple", data := Data.seq #[Value.str (Str.ofString "code") 329] }) ::
  (nat_lit 106, { cls := Value.type "tuple", data := Data.seq #[] }) ::
  (nat_lit 108, { cls := Value.type "code", data := Data.fields #[Value.str (Str.ofString "downcase") 326, Value.str (Str.ofString "downcase") 327, Value.str (Str.ofString "/claim/cut.py") 328, Value.int 27 0, Value.int 1 0, Value.int 0 0, Value.int 0 0, Value.int 3 0, Value.ref 103, Value.bool Bool.true, Value.int 181 0, Value.ref 104, Value.none, Value.ref 105, Value.ref 106, Value.ref 107, Value.int 330 0, Value.int 27 0, Value.str (Str.ofString "/claim/cut.py") 331] }) ::
  (nat_lit 109, { cls := Value.type "function", data := Data.func { name := Str.ofString "downcase", qualname := Str.ofString "downcase", params := ?p6, body := FuncBody.stmts ?b6, scope := ?s6, globals := 3, closure := [], defaults := Value.none, kwdefaults := Value.none, pyModule := Value.str (Str.ofString "emacs.casefold") 324, code := Value.ref 108 } }) ::
  (nat_lit 110, { cls := Value.type "tuple", data := Data.seq #[] }) ::
  (nat_lit 112, { cls := Value.type "tuple", data := Data.seq #[Value.str (Str.ofString "code") 336] }) ::
  (nat_lit 113, { cls := Value.type "tuple", data := Data.seq #[] }) ::
  (nat_lit 115, { cls := Value.type "code", data := Data.fields #[Value.str (Str.ofString "fold") 333, Value.str (Str.ofString "fold") 334, Value.str (Str.ofString "/claim/cut.py") 335, Value.int 31 0, Value.int 1 0, Value.int 0 0, Value.int 0 0, Value.int 3 0, Value.ref 110, Value.bool Bool.true, Value.int 181 0, Value.ref 111, Value.none, Value.ref 112, Value.ref 113, Value.ref 114, Value.int 337 0, Value.int 31 0, Value.str (Str.ofString "/claim/cut.py") 338] }) ::
  (nat_lit 116, { cls := Value.type "function", data := Data.func { name := Str.ofString "fold", qualname := Str.ofString "fold", params := ?p7, body := FuncBody.stmts ?b7, scope := ?s7, globals := 3, closure := [], defaults := Value.none, kwdefaults := Value.none, pyModule := Value.str (Str.ofString "emacs.casefold") 324, code := Value.ref 115 } }) ::
  (nat_lit 117, { cls := Value.type "tuple", data := Data.seq #[] }) ::
  (nat_lit 119, { cls := Value.type "tuple", data := Data.seq #[Value.str (Str.ofString "predicate") 345, Value.str (Str.ofString "value") 346] }) ::
  (nat_lit 120, { cls := Value.type "tuple", data := Data.seq #[] }) ::
  (nat_lit 122, { cls := Value.type "code", data := Data.fields #[Value.str (Str.ofString "wrong") 342, Value.str (Str.ofString "wrong") 343, Value.str (Str.ofString "/claim/cut.py") 344, Value.int 34 0, Value.int 2 0, Value.int 0 0, Value.int 0 0, Value.int 3 0, Value.ref 117, Value.bool Bool.true, Value.int 181 0, Value.ref 118, Value.none, Value.ref 119, Value.ref 120, Value.ref 121, Value.int 347 0, Value.int 34 0, Value.str (Str.ofString "/claim/cut.py") 348] }) ::
  (nat_lit 123, { cls := Value.type "function", data := Data.func { name := Str.ofString "wrong", qualname := Str.ofString "wrong", params := ?p8, body := FuncBody.stmts ?b8, scope := ?s8, globals := 3, closure := [], defaults := Value.none, kwdefaults := Value.none, pyModule := Value.str (Str.ofString "emacs.stringprims") 340, code := Value.ref 122 } }) ::
  (nat_lit 124, { cls := Value.type "tuple", data := Data.seq #[] }) ::
  (nat_lit 126, { cls := Value.type "tuple", data := Data.seq #[Value.str (Str.ofString "value") 353] }) ::
  (nat_lit 127, { cls := Value.type "tuple", data := Data.seq #[] }) ::
  (nat_lit 129, { cls := Value.type "code", data := Data.fields #[Value.str (Str.ofString "text_in") 350, Value.str (Str.ofString "text_in") 351, Value.str (Str.ofString "/claim/cut.py") 352, Value.int 36 0, Value.int 1 0, Value.int 0 0, Value.int 0 0, Value.int 3 0, Value.ref 124, Value.bool Bool.true, Value.int 181 0, Value.ref 125, Value.none, Value.ref 126, Value.ref 127, Value.ref 128, Value.int 354 0, Value.int 36 0, Value.str (Str.ofString "/claim/cut.py") 355] }) ::
  (nat_lit 130, { cls := Value.type "function", data := Data.func { name := Str.ofString "text_in", qualname := Str.ofString "text_in", params := ?p9, body := FuncBody.stmts ?b9, scope := ?s9, globals := 3, closure := [], defaults := Value.none, kwdefaults := Value.none, pyModule := Value.str (Str.ofString "emacs.stringprims") 340, code := Value.ref 129 } }) ::
  (nat_lit 131, { cls := Value.type "tuple", data := Data.seq #[] }) ::
  (nat_lit 133, { cls := Value.type "tuple", data := Data.seq #[Value.str (Str.ofString "value") 360] }) ::
  (nat_lit 134, { cls := Value.type "tuple", data := Data.seq #[] }) ::
  (nat_lit 136, { cls := Value.type "code", data := Data.fields #[Value.str (Str.ofString "named_codes") 357, Value.str (Str.ofString "named_codes") 358, Value.str (Str.ofString "/claim/cut.py") 359, Value.int 40 0, Value.int 1 0, Value.int 0 0, Value.int 0 0, Value.int 3 0, Value.ref 131, Value.bool Bool.true, Value.int 181 0, Value.ref 132, Value.none, Value.ref 133, Value.ref 134, Value.ref 135, Value.int 361 0, Value.int 40 0, Value.str (Str.ofString "/claim/cut.py") 362] }) ::
  (nat_lit 137, { cls := Value.type "function", data := Data.func { name := Str.ofString "named_codes", qualname := Str.ofString "named_codes", params := ?p10, body := FuncBody.stmts ?b10, scope := ?s10, globals := 3, closure := [], defaults := Value.none, kwdefaults := Value.none, pyModule := Value.str (Str.ofString "emacs.stringprims") 340, code := Value.ref 136 } }) ::
  (nat_lit 138, { cls := Value.type "tuple", data := Data.seq #[] }) ::
  (nat_lit 140, { cls := Value.type "tuple", data := Data.seq #[Value.str (Str.ofString "value") 367] }) ::
  (nat_lit 141, { cls := Value.type "tuple", data := Data.seq #[] }) ::
  (nat_lit 143, { cls := Value.type "code", data := Data.fields #[Value.str (Str.ofString "whole_in") 364, Value.str (Str.ofString "whole_in") 365, Value.str (Str.ofString "/claim/cut.py") 366, Value.int 44 0, Value.int 1 0, Value.int 0 0, Value.int 0 0, Value.int 3 0, Value.ref 138, Value.bool Bool.true, Value.int 181 0, Value.ref 139, Value.none, Value.ref 140, Value.ref 141, Value.ref 142, Value.int 368 0, Value.int 44 0, Value.str (Str.ofString "/claim/cut.py") 369] }) ::
  (nat_lit 144, { cls := Value.type "function", data := Data.func { name := Str.ofString "whole_in", qualname := Str.ofString "whole_in", params := ?p11, body := FuncBody.stmts ?b11, scope := ?s11, globals := 3, closure := [], defaults := Value.none, kwdefaults := Value.none, pyModule := Value.str (Str.ofString "emacs.stringprims") 340, code := Value.ref 143 } }) ::
  (nat_lit 145, { cls := Value.type "tuple", data := Data.seq #[] }) ::
  (nat_lit 147, { cls := Value.type "tuple", data := Data.seq #[Value.str (Str.ofString "args") 374, Value.str (Str.ofString "place") 375] }) ::
  (nat_lit 148, { cls := Value.type "tuple", data := Data.seq #[] }) ::
  (nat_lit 150, { cls := Value.type "code", data := Data.fields #[Value.str (Str.ofString "optional") 371, Value.str (Str.ofString "optional") 372, Value.str (Str.ofString "/claim/cut.py") 373, Value.int 48 0, Value.int 2 0, Value.int 0 0, Value.int 0 0, Value.int 3 0, Value.ref 145, Value.bool Bool.true, Value.int 181 0, Value.ref 146, Value.none, Value.ref 147, Value.ref 148, Value.ref 149, Value.int 376 0, Value.int 48 0, Value.str (Str.ofString "/claim/cut.py") 377] }) ::
  (nat_lit 151, { cls := Value.type "function", data := Data.func { name := Str.ofString "optional", qualname := Str.ofString "optional", params := ?p12, body := FuncBody.stmts ?b12, scope := ?s12, globals := 3, closure := [], defaults := Value.none, kwdefaults := Value.none, pyModule := Value.str (Str.ofString "emacs.stringprims") 340, code := Value.ref 150 } }) ::
  (nat_lit 152, { cls := Value.type "tuple", data := Data.seq #[] }) ::
  (nat_lit 154, { cls := Value.type "tuple", data := Data.seq #[Value.str (Str.ofString "text") 382, Value.str (Str.ofString "first") 383, Value.str (Str.ofString "last") 384, Value.str (Str.ofString "many") 385, Value.str (Str.ofString "start") 386, Value.str (Str.ofString "end") 387] }) ::
  (nat_lit 155, { cls := Value.type "tuple", data := Data.seq #[] }) ::
  (nat_lit 157, { cls := Value.type "code", data := Data.fields #[Value.str (Str.ofString "bounds_in") 379, Value.str (Str.ofString "bounds_in") 380, Value.str (Str.ofString "/claim/cut.py") 381, Value.int 50 0, Value.int 3 0, Value.int 0 0, Value.int 0 0, Value.int 3 0, Value.ref 152, Value.bool Bool.true, Value.int 181 0, Value.ref 153, Value.none, Value.ref 154, Value.ref 155, Value.ref 156, Value.int 388 0, Value.int 50 0, Value.str (Str.ofString "/claim/cut.py") 389] }) ::
  (nat_lit 158, { cls := Value.type "function", data := Data.func { name := Str.ofString "bounds_in", qualname := Str.ofString "bounds_in", params := ?p13, body := FuncBody.stmts ?b13, scope := ?s13, globals := 3, closure := [], defaults := Value.none, kwdefaults := Value.none, pyModule := Value.str (Str.ofString "emacs.stringprims") 340, code := Value.ref 157 } }) ::
  (nat_lit 159, { cls := Value.type "tuple", data := Data.seq #[] }) ::
  (nat_lit 161, { cls := Value.type "tuple", data := Data.seq #[Value.str (Str.ofString "world") 394, Value.str (Str.ofString "args") 395] }) ::
  (nat_lit 162, { cls := Value.type "tuple", data := Data.seq #[] }) ::
  (nat_lit 164, { cls := Value.type "code", data := Data.fields #[Value.str (Str.ofString "string_equal") 391, Value.str (Str.ofString "string_equal") 392, Value.str (Str.ofString "/claim/cut.py") 393, Value.int 58 0, Value.int 2 0, Value.int 0 0, Value.int 0 0, Value.int 3 0, Value.ref 159, Value.bool Bool.true, Value.int 181 0, Value.ref 160, Value.none, Value.ref 161, Value.ref 162, Value.ref 163, Value.int 396 0, Value.int 58 0, Value.str (Str.ofString "/claim/cut.py") 397] }) ::
  (nat_lit 165, { cls := Value.type "function", data := Data.func { name := Str.ofString "string_equal", qualname := Str.ofString "string_equal", params := ?p14, body := FuncBody.stmts ?b14, scope := ?s14, globals := 3, closure := [], defaults := Value.none, kwdefaults := Value.none, pyModule := Value.str (Str.ofString "emacs.stringprims") 340, code := Value.ref 164 } }) ::
  (nat_lit 166, { cls := Value.type "tuple", data := Data.seq #[] }) ::
  (nat_lit 168, { cls := Value.type "tuple", data := Data.seq #[Value.str (Str.ofString "world") 402, Value.str (Str.ofString "args") 403] }) ::
  (nat_lit 169, { cls := Value.type "tuple", data := Data.seq #[] }) ::
  (nat_lit 171, { cls := Value.type "code", data := Data.fields #[Value.str (Str.ofString "string_less") 399, Value.str (Str.ofString "string_less") 400, Value.str (Str.ofString "/claim/cut.py") 401, Value.int 60 0, Value.int 2 0, Value.int 0 0, Value.int 0 0, Value.int 3 0, Value.ref 166, Value.bool Bool.true, Value.int 181 0, Value.ref 167, Value.none, Value.ref 168, Value.ref 169, Value.ref 170, Value.int 404 0, Value.int 60 0, Value.str (Str.ofString "/claim/cut.py") 405] }) ::
  (nat_lit 172, { cls := Value.type "function", data := Data.func { name := Str.ofString "string_less", qualname := Str.ofString "string_less", params := ?p15, body := FuncBody.stmts ?b15, scope := ?s15, globals := 3, closure := [], defaults := Value.none, kwdefaults := Value.none, pyModule := Value.str (Str.ofString "emacs.stringprims") 340, code := Value.ref 171 } }) ::
  (nat_lit 173, { cls := Value.type "tuple", data := Data.seq #[] }) ::
  (nat_lit 175, { cls := Value.type "tuple", data := Data.seq #[Value.str (Str.ofString "world") 410, Value.str (Str.ofString "args") 411] }) ::
  (nat_lit 176, { cls := Value.type "tuple", data := Data.seq #[] }) ::
  (nat_lit 178, { cls := Value.type "code", data := Data.fields #[Value.str (Str.ofString "string_greater") 407, Value.str (Str.ofString "string_greater") 408, Value.str (Str.ofString "/claim/cut.py") 409, Value.int 62 0, Value.int 2 0, Value.int 0 0, Value.int 0 0, Value.int 3 0, Value.ref 173, Value.bool Bool.true, Value.int 181 0, Value.ref 174, Value.none, Value.ref 175, Value.ref 176, Value.ref 177, Value.int 412 0, Value.int 62 0, Value.str (Str.ofString "/claim/cut.py") 413] }) ::
  (nat_lit 179, { cls := Value.type "function", data := Data.func { name := Str.ofString "string_greater", qualname := Str.ofString "string_greater", params := ?p16, body := FuncBody.stmts ?b16, scope := ?s16, globals := 3, closure := [], defaults := Value.none, kwdefaults := Value.none, pyModule := Value.str (Str.ofString "emacs.stringprims") 340, code := Value.ref 178 } }) ::
  (nat_lit 180, { cls := Value.type "tuple", data := Data.seq #[] }) ::
  (nat_lit 183, { cls := Value.type "code", data := Data.fields #[Value.str (Str.ofString "folded") 415, Value.str (Str.ofString "folded") 416, Value.str (Str.ofString "/claim/cut.py") 417, Value.int 64 0, Value.int 2 0, Value.int 0 0, Value.int 0 0, Value.int 3 0, Value.ref 180, Value.bool Bool.true, Value.int 181 0, Value.ref 181, Value.none, Value.none, Value.none, Value.ref 182, Value.int 418 0, Value.int 64 0, Value.str (Str.ofString "/claim/cut.py") 419] }) ::
  (nat_lit 184, { cls := Value.type "function", data := Data.func { name := Str.ofString "folded", qualname := Str.ofString "folded", params := ?p17, body := FuncBody.stmts ?b17, scope := ?s17, globals := 3, closure := [], defaults := Value.none, kwdefaults := Value.none, pyModule := Value.str (Str.ofString "emacs.stringprims") 340, code := Value.ref 183 } }) ::
  (nat_lit 185, { cls := Value.type "tuple", data := Data.seq #[] }) ::
  (nat_lit 187, { cls := Value.type "tuple", data := Data.seq #[Value.str (Str.ofString "text") 424, Value.str (Str.ofString "value") 425] }) ::
  (nat_lit 188, { cls := Value.type "tuple", data := Data.seq #[] }) ::
  (nat_lit 190, { cls := Value.type "code", data := Data.fields #[Value.str (Str.ofString "clipped_end") 421, Value.str (Str.ofString "clipped_end") 422, Value.str (Str.ofString "/claim/cut.py") 423, Value.int 66 0, Value.int 2 0, Value.int 0 0, Value.int 0 0, Value.int 3 0, Value.ref 185, Value.bool Bool.true, Value.int 181 0, Value.ref 186, Value.none, Value.ref 187, Value.ref 188, Value.ref 189, Value.int 426 0, Value.int 66 0, Value.str (Str.ofString "/claim/cut.py") 427] }) ::
  (nat_lit 191, { cls := Value.type "function", data := Data.func { name := Str.ofString "clipped_end", qualname := Str.ofString "clipped_end", params := ?p18, body := FuncBody.stmts ?b18, scope := ?s18, globals := 3, closure := [], defaults := Value.none, kwdefaults := Value.none, pyModule := Value.str (Str.ofString "emacs.stringprims") 340, code := Value.ref 190 } }) ::
  (nat_lit 192, { cls := Value.type "tuple", data := Data.seq #[] }) ::
  (nat_lit 194, { cls := Value.type "tuple", data := Data.seq #[Value.str (Str.ofString "world") 432, Value.str (Str.ofString "args") 433, Value.str (Str.ofString "first") 434, Value.str (Str.ofString "second") 435, Value.str (Str.ofString "one") 436, Value.str (Str.ofString "other") 437, Value.str (Str.ofString "is_folded") 438, Value.str (Str.ofString "left") 439, Value.str (Str.ofString "right") 440, Value.str (Str.ofString "same") 441] }) ::
  (nat_lit 195, { cls := Value.type "tuple", data := Data.seq #[] }) ::
  (nat_lit 197, { cls := Value.type "code", data := Data.fields #[Value.str (Str.ofString "compare_strings") 429, Value.str (Str.ofString "compare_strings") 430, Value.str (Str.ofString "/claim/cut.py") 431, Value.int 68 0, Value.int 2 0, Value.int 0 0, Value.int 0 0, Value.int 3 0, Value.ref 192, Value.bool Bool.true, Value.int 181 0, Value.ref 193, Value.none, Value.ref 194, Value.ref 195, Value.ref 196, Value.int 442 0, Value.int 68 0, Value.str (Str.ofString "/claim/cut.py") 443] }) ::
  (nat_lit 198, { cls := Value.type "function", data := Data.func { name := Str.ofString "compare_strings", qualname := Str.ofString "compare_strings", params := ?p19, body := FuncBody.stmts ?b19, scope := ?s19, globals := 3, closure := [], defaults := Value.none, kwdefaults := Value.none, pyModule := Value.str (Str.ofString "emacs.stringprims") 340, code := Value.ref 197 } }) ::
  (nat_lit 199, { cls := Value.type "tuple", data := Data.seq #[] }) ::
  (nat_lit 201, { cls := Value.type "tuple", data := Data.seq #[Value.str (Str.ofString "world") 448, Value.str (Str.ofString "args") 449, Value.str (Str.ofString "is_folded") 450, Value.str (Str.ofString "one") 451, Value.str (Str.ofString "other") 452] }) ::
  (nat_lit 202, { cls := Value.type "tuple", data := Data.seq #[] }) ::
  (nat_lit 204, { cls := Value.type "code", data := Data.fields #[Value.str (Str.ofString "string_prefix") 445, Value.str (Str.ofString "string_prefix") 446, Value.str (Str.ofString "/claim/cut.py") 447, Value.int 81 0, Value.int 2 0, Value.int 0 0, Value.int 0 0, Value.int 3 0, Value.ref 199, Value.bool Bool.true, Value.int 181 0, Value.ref 200, Value.none, Value.ref 201, Value.ref 202, Value.ref 203, Value.int 453 0, Value.int 81 0, Value.str (Str.ofString "/claim/cut.py") 454] }) ::
  (nat_lit 205, { cls := Value.type "function", data := Data.func { name := Str.ofString "string_prefix", qualname := Str.ofString "string_prefix", params := ?p20, body := FuncBody.stmts ?b20, scope := ?s20, globals := 3, closure := [], defaults := Value.none, kwdefaults := Value.none, pyModule := Value.str (Str.ofString "emacs.stringprims") 340, code := Value.ref 204 } }) ::
  (nat_lit 206, { cls := Value.type "tuple", data := Data.seq #[] }) ::
  (nat_lit 208, { cls := Value.type "tuple", data := Data.seq #[Value.str (Str.ofString "world") 459, Value.str (Str.ofString "args") 460, Value.str (Str.ofString "is_folded") 461, Value.str (Str.ofString "one") 462, Value.str (Str.ofString "other") 463] }) ::
  (nat_lit 209, { cls := Value.type "tuple", data := Data.seq #[] }) ::
  (nat_lit 211, { cls := Value.type "code", data := Data.fields #[Value.str (Str.ofString "string_suffix") 456, Value.str (Str.ofString "string_suffix") 457, Value.str (Str.ofString "/claim/cut.py") 458, Value.int 85 0, Value.int 2 0, Value.int 0 0, Value.int 0 0, Value.int 3 0, Value.ref 206, Value.bool Bool.true, Value.int 181 0, Value.ref 207, Value.none, Value.ref 208, Value.ref 209, Value.ref 210, Value.int 464 0, Value.int 85 0, Value.str (Str.ofString "/claim/cut.py") 465] }) ::
  (nat_lit 212, { cls := Value.type "function", data := Data.func { name := Str.ofString "string_suffix", qualname := Str.ofString "string_suffix", params := ?p21, body := FuncBody.stmts ?b21, scope := ?s21, globals := 3, closure := [], defaults := Value.none, kwdefaults := Value.none, pyModule := Value.str (Str.ofString "emacs.stringprims") 340, code := Value.ref 211 } }) ::
  (nat_lit 213, { cls := Value.type "tuple", data := Data.seq #[] }) ::
  (nat_lit 215, { cls := Value.type "tuple", data := Data.seq #[Value.str (Str.ofString "needle") 476, Value.str (Str.ofString "codes") 477, Value.str (Str.ofString "start") 478, Value.str (Str.ofString "ends") 479, Value.str (Str.ofString "known") 480, Value.str (Str.ofString "at") 481] }) ::
  (nat_lit 216, { cls := Value.type "tuple", data := Data.seq #[] }) ::
  (nat_lit 218, { cls := Value.type "code", data := Data.fields #[Value.str (Str.ofString "place_of") 473, Value.str (Str.ofString "place_of") 474, Value.str (Str.ofString "/claim/cut.py") 475, Value.int 91 0, Value.int 3 0, Value.int 0 0, Value.int 0 0, Value.int 3 0, Value.ref 213, Value.bool Bool.true, Value.int 181 0, Value.ref 214, Value.none, Value.ref 215, Value.ref 216, Value.ref 217, Value.int 482 0, Value.int 91 0, Value.str (Str.ofString "/claim/cut.py") 483] }) ::
  (nat_lit 219, { cls := Value.type "function", data := Data.func { name := Str.ofString "place_of", qualname := Str.ofString "place_of", params := ?p22, body := FuncBody.stmts ?b22, scope := ?s22, globals := 3, closure := [], defaults := Value.none, kwdefaults := Value.none, pyModule := Value.str (Str.ofString "emacs.stringways") 467, code := Value.ref 218 } }) ::
  (nat_lit 220, { cls := Value.type "tuple", data := Data.seq #[] }) ::
  (nat_lit 222, { cls := Value.type "tuple", data := Data.seq #[Value.str (Str.ofString "world") 488, Value.str (Str.ofString "args") 489, Value.str (Str.ofString "needle") 490, Value.str (Str.ofString "text") 491, Value.str (Str.ofString "start") 492, Value.str (Str.ofString "found") 493] }) ::
  (nat_lit 223, { cls := Value.type "tuple", data := Data.seq #[] }) ::
  (nat_lit 225, { cls := Value.type "code", data := Data.fields #[Value.str (Str.ofString "string_search") 485, Value.str (Str.ofString "string_search") 486, Value.str (Str.ofString "/claim/cut.py") 487, Value.int 108 0, Value.int 2 0, Value.int 0 0, Value.int 0 0, Value.int 3 0, Value.ref 220, Value.bool Bool.true, Value.int 181 0, Value.ref 221, Value.none, Value.ref 222, Value.ref 223, Value.ref 224, Value.int 494 0, Value.int 108 0, Value.str (Str.ofString "/claim/cut.py") 495] }) ::
  (nat_lit 226, { cls := Value.type "function", data := Data.func { name := Str.ofString "string_search", qualname := Str.ofString "string_search", params := ?p23, body := FuncBody.stmts ?b23, scope := ?s23, globals := 3, closure := [], defaults := Value.none, kwdefaults := Value.none, pyModule := Value.str (Str.ofString "emacs.stringways") 467, code := Value.ref 225 } }) ::
  (nat_lit 227, { cls := Value.type "tuple", data := Data.seq #[] }) ::
  (nat_lit 229, { cls := Value.type "tuple", data := Data.seq #[Value.str (Str.ofString "one") 500, Value.str (Str.ofString "other") 501, Value.str (Str.ofString "last") 502, Value.str (Str.ofString "at") 503, Value.str (Str.ofString "left") 504, Value.str (Str.ofString "line") 505, Value.str (Str.ofString "to") 506, Value.str (Str.ofString "right") 507] }) ::
  (nat_lit 230, { cls := Value.type "tuple", data := Data.seq #[] }) ::
  (nat_lit 232, { cls := Value.type "code", data := Data.fields #[Value.str (Str.ofString "edits_between") 497, Value.str (Str.ofString "edits_between") 498, Value.str (Str.ofString "/claim/cut.py") 499, Value.int 115 0, Value.int 2 0, Value.int 0 0, Value.int 0 0, Value.int 3 0, Value.ref 227, Value.bool Bool.true, Value.int 181 0, Value.ref 228, Value.none, Value.ref 229, Value.ref 230, Value.ref 231, Value.int 508 0, Value.int 115 0, Value.str (Str.ofString "/claim/cut.py") 509] }) ::
  (nat_lit 233, { cls := Value.type "function", data := Data.func { name := Str.ofString "edits_between", qualname := Str.ofString "edits_between", params := ?p24, body := FuncBody.stmts ?b24, scope := ?s24, globals := 3, closure := [], defaults := Value.none, kwdefaults := Value.none, pyModule := Value.str (Str.ofString "emacs.stringways") 467, code := Value.ref 232 } }) ::
  (nat_lit 234, { cls := Value.type "tuple", data := Data.seq #[] }) ::
  (nat_lit 236, { cls := Value.type "tuple", data := Data.seq #[Value.str (Str.ofString "world") 514, Value.str (Str.ofString "args") 515] }) ::
  (nat_lit 237, { cls := Value.type "tuple", data := Data.seq #[] }) ::
  (nat_lit 239, { cls := Value.type "code", data := Data.fields #[Value.str (Str.ofString "string_distance") 511, Value.str (Str.ofString "string_distance") 512, Value.str (Str.ofString "/claim/cut.py") 513, Value.int 125 0, Value.int 2 0, Value.int 0 0, Value.int 0 0, Value.int 3 0, Value.ref 234, Value.bool Bool.true, Value.int 181 0, Value.ref 235, Value.none, Value.ref 236, Value.ref 237, Value.ref 238, Value.int 516 0, Value.int 125 0, Value.str (Str.ofString "/claim/cut.py") 517] }) ::
  (nat_lit 240, { cls := Value.type "function", data := Data.func { name := Str.ofString "string_distance", qualname := Str.ofString "string_distance", params := ?p25, body := FuncBody.stmts ?b25, scope := ?s25, globals := 3, closure := [], defaults := Value.none, kwdefaults := Value.none, pyModule := Value.str (Str.ofString "emacs.stringways") 467, code := Value.ref 239 } }) ::
  (nat_lit 241, { cls := Value.type "tuple", data := Data.seq #[] }) ::
  (nat_lit 243, { cls := Value.type "tuple", data := Data.seq #[Value.str (Str.ofString "code") 522] }) ::
  (nat_lit 244, { cls := Value.type "tuple", data := Data.seq #[] }) ::
  (nat_lit 246, { cls := Value.type "code", data := Data.fields #[Value.str (Str.ofString "is_figure") 519, Value.str (Str.ofString "is_figure") 520, Value.str (Str.ofString "/claim/cut.py") 521, Value.int 127 0, Value.int 1 0, Value.int 0 0, Value.int 0 0, Value.int 3 0, Value.ref 241, Value.bool Bool.true, Value.int 181 0, Value.ref 242, Value.none, Value.ref 243, Value.ref 244, Value.ref 245, Value.int 523 0, Value.int 127 0, Value.str (Str.ofString "/claim/cut.py") 524] }) ::
  (nat_lit 247, { cls := Value.type "function", data := Data.func { name := Str.ofString "is_figure", qualname := Str.ofString "is_figure", params := ?p26, body := FuncBody.stmts ?b26, scope := ?s26, globals := 3, closure := [], defaults := Value.none, kwdefaults := Value.none, pyModule := Value.str (Str.ofString "emacs.stringways") 467, code := Value.ref 246 } }) ::
  (nat_lit 248, { cls := Value.type "tuple", data := Data.seq #[] }) ::
  (nat_lit 250, { cls := Value.type "tuple", data := Data.seq #[Value.str (Str.ofString "codes") 529, Value.str (Str.ofString "at") 530, Value.str (Str.ofString "found") 531] }) ::
  (nat_lit 251, { cls := Value.type "tuple", data := Data.seq #[] }) ::
  (nat_lit 253, { cls := Value.type "code", data := Data.fields #[Value.str (Str.ofString "number_at") 526, Value.str (Str.ofString "number_at") 527, Value.str (Str.ofString "/claim/cut.py") 528, Value.int 129 0, Value.int 2 0, Value.int 0 0, Value.int 0 0, Value.int 3 0, Value.ref 248, Value.bool Bool.true, Value.int 181 0, Value.ref 249, Value.none, Value.ref 250, Value.ref 251, Value.ref 252, Value.int 532 0, Value.int 129 0, Value.str (Str.ofString "/claim/cut.py") 533] }) ::
  (nat_lit 254, { cls := Value.type "function", data := Data.func { name := Str.ofString "number_at", qualname := Str.ofString "number_at", params := ?p27, body := FuncBody.stmts ?b27, scope := ?s27, globals := 3, closure := [], defaults := Value.none, kwdefaults := Value.none, pyModule := Value.str (Str.ofString "emacs.stringways") 467, code := Value.ref 253 } }) ::
  (nat_lit 255, { cls := Value.type "tuple", data := Data.seq #[] }) ::
  (nat_lit 257, { cls := Value.type "tuple", data := Data.seq #[Value.str (Str.ofString "one") 538, Value.str (Str.ofString "other") 539, Value.str (Str.ofString "at") 540, Value.str (Str.ofString "to") 541, Value.str (Str.ofString "left") 542, Value.str (Str.ofString "right") 543] }) ::
  (nat_lit 258, { cls := Value.type "tuple", data := Data.seq #[] }) ::
  (nat_lit 260, { cls := Value.type "code", data := Data.fields #[Value.str (Str.ofString "is_version_less") 535, Value.str (Str.ofString "is_version_less") 536, Value.str (Str.ofString "/claim/cut.py") 537, Value.int 134 0, Value.int 2 0, Value.int 0 0, Value.int 0 0, Value.int 3 0, Value.ref 255, Value.bool Bool.true, Value.int 181 0, Value.ref 256, Value.none, Value.ref 257, Value.ref 258, Value.ref 259, Value.int 544 0, Value.int 134 0, Value.str (Str.ofString "/claim/cut.py") 545] }) ::
  (nat_lit 261, { cls := Value.type "function", data := Data.func { name := Str.ofString "is_version_less", qualname := Str.ofString "is_version_less", params := ?p28, body := FuncBody.stmts ?b28, scope := ?s28, globals := 3, closure := [], defaults := Value.none, kwdefaults := Value.none, pyModule := Value.str (Str.ofString "emacs.stringways") 467, code := Value.ref 260 } }) ::
  (nat_lit 262, { cls := Value.type "tuple", data := Data.seq #[] }) ::
  (nat_lit 264, { cls := Value.type "tuple", data := Data.seq #[Value.str (Str.ofString "world") 550, Value.str (Str.ofString "args") 551] }) ::
  (nat_lit 265, { cls := Value.type "tuple", data := Data.seq #[] }) ::
  (nat_lit 267, { cls := Value.type "code", data := Data.fields #[Value.str (Str.ofString "string_version_less") 547, Value.str (Str.ofString "string_version_less") 548, Value.str (Str.ofString "/claim/cut.py") 549, Value.int 147 0, Value.int 2 0, Value.int 0 0, Value.int 0 0, Value.int 3 0, Value.ref 262, Value.bool Bool.true, Value.int 181 0, Value.ref 263, Value.none, Value.ref 264, Value.ref 265, Value.ref 266, Value.int 552 0, Value.int 147 0, Value.str (Str.ofString "/claim/cut.py") 553] }) ::
  (nat_lit 268, { cls := Value.type "function", data := Data.func { name := Str.ofString "string_version_less", qualname := Str.ofString "string_version_less", params := ?p29, body := FuncBody.stmts ?b29, scope := ?s29, globals := 3, closure := [], defaults := Value.none, kwdefaults := Value.none, pyModule := Value.str (Str.ofString "emacs.stringways") 467, code := Value.ref 267 } }) ::
  (nat_lit 269, { cls := Value.type "tuple", data := Data.seq #[] }) ::
  (nat_lit 272, { cls := Value.type "code", data := Data.fields #[Value.str (Str.ofString "_law_deck") 557, Value.str (Str.ofString "_law_deck") 558, Value.str (Str.ofString "/claim/cut.py") 559, Value.int 150 0, Value.int 1 0, Value.int 0 0, Value.int 0 0, Value.int 3 0, Value.ref 269, Value.bool Bool.true, Value.int 181 0, Value.ref 270, Value.none, Value.none, Value.none, Value.ref 271, Value.int 560 0, Value.int 150 0, Value.str (Str.ofString "/claim/cut.py") 561] }) ::
  (nat_lit 273, { cls := Value.type "function", data := Data.func { name := Str.ofString "_law_deck", qualname := Str.ofString "_law_deck", params := ?p30, body := FuncBody.stmts ?b30, scope := ?s30, globals := 3, closure := [], defaults := Value.none, kwdefaults := Value.none, pyModule := Value.str (Str.ofString "law_np0039_01") 555, code := Value.ref 272 } }) ::
  (nat_lit 274, { cls := Value.type "tuple", data := Data.seq #[] }) ::
  (nat_lit 276, { cls := Value.type "tuple", data := Data.seq #[Value.str (Str.ofString "deck") 566, Value.str (Str.ofString "many") 567, Value.str (Str.ofString "found") 568] }) ::
  (nat_lit 277, { cls := Value.type "tuple", data := Data.seq #[] }) ::
  (nat_lit 279, { cls := Value.type "code", data := Data.fields #[Value.str (Str.ofString "_law_draw") 563, Value.str (Str.ofString "_law_draw") 564, Value.str (Str.ofString "/claim/cut.py") 565, Value.int 152 0, Value.int 2 0, Value.int 0 0, Value.int 0 0, Value.int 3 0, Value.ref 274, Value.bool Bool.true, Value.int 181 0, Value.ref 275, Value.none, Value.ref 276, Value.ref 277, Value.ref 278, Value.int 569 0, Value.int 152 0, Value.str (Str.ofString "/claim/cut.py") 570] }) ::
  (nat_lit 280, { cls := Value.type "function", data := Data.func { name := Str.ofString "_law_draw", qualname := Str.ofString "_law_draw", params := ?p31, body := FuncBody.stmts ?b31, scope := ?s31, globals := 3, closure := [], defaults := Value.none, kwdefaults := Value.none, pyModule := Value.str (Str.ofString "law_np0039_01") 555, code := Value.ref 279 } }) ::
  (nat_lit 281, { cls := Value.type "tuple", data := Data.seq #[] }) ::
  (nat_lit 284, { cls := Value.type "code", data := Data.fields #[Value.str (Str.ofString "_law_signs") 572, Value.str (Str.ofString "_law_signs") 573, Value.str (Str.ofString "/claim/cut.py") 574, Value.int 160 0, Value.int 3 0, Value.int 0 0, Value.int 0 0, Value.int 3 0, Value.ref 281, Value.bool Bool.true, Value.int 181 0, Value.ref 282, Value.none, Value.none, Value.none, Value.ref 283, Value.int 575 0, Value.int 160 0, Value.str (Str.ofString "/claim/cut.py") 576] }) ::
  (nat_lit 285, { cls := Value.type "function", data := Data.func { name := Str.ofString "_law_signs", qualname := Str.ofString "_law_signs", params := ?p32, body := FuncBody.stmts ?b32, scope := ?s32, globals := 3, closure := [], defaults := Value.none, kwdefaults := Value.none, pyModule := Value.str (Str.ofString "law_np0039_01") 555, code := Value.ref 284 } }) ::
  (nat_lit 286, { cls := Value.type "tuple", data := Data.seq #[] }) ::
  (nat_lit 289, { cls := Value.type "code", data := Data.fields #[Value.str (Str.ofString "_law_small") 578, Value.str (Str.ofString "_law_small") 579, Value.str (Str.ofString "/claim/cut.py") 580, Value.int 162 0, Value.int 1 0, Value.int 0 0, Value.int 0 0, Value.int 3 0, Value.ref 286, Value.bool Bool.true, Value.int 181 0, Value.ref 287, Value.none, Value.none, Value.none, Value.ref 288, Value.int 581 0, Value.int 162 0, Value.str (Str.ofString "/claim/cut.py") 582] }) ::
  (nat_lit 290, { cls := Value.type "function", data := Data.func { name := Str.ofString "_law_small", qualname := Str.ofString "_law_small", params := ?p33, body := FuncBody.stmts ?b33, scope := ?s33, globals := 3, closure := [], defaults := Value.none, kwdefaults := Value.none, pyModule := Value.str (Str.ofString "law_np0039_01") 555, code := Value.ref 289 } }) ::
  (nat_lit 291, { cls := Value.type "tuple", data := Data.seq #[] }) ::
  (nat_lit 293, { cls := Value.type "tuple", data := Data.seq #[Value.str (Str.ofString "needle") 587, Value.str (Str.ofString "signs") 588, Value.str (Str.ofString "start") 589, Value.str (Str.ofString "at") 590] }) ::
  (nat_lit 294, { cls := Value.type "tuple", data := Data.seq #[] }) ::
  (nat_lit 296, { cls := Value.type "code", data := Data.fields #[Value.str (Str.ofString "_law_first") 584, Value.str (Str.ofString "_law_first") 585, Value.str (Str.ofString "/claim/cut.py") 586, Value.int 164 0, Value.int 3 0, Value.int 0 0, Value.int 0 0, Value.int 3 0, Value.ref 291, Value.bool Bool.true, Value.int 181 0, Value.ref 292, Value.none, Value.ref 293, Value.ref 294, Value.ref 295, Value.int 591 0, Value.int 164 0, Value.str (Str.ofString "/claim/cut.py") 592] }) ::
  (nat_lit 297, { cls := Value.type "function", data := Data.func { name := Str.ofString "_law_first", qualname := Str.ofString "_law_first", params := ?p34, body := FuncBody.stmts ?b34, scope := ?s34, globals := 3, closure := [], defaults := Value.none, kwdefaults := Value.none, pyModule := Value.str (Str.ofString "law_np0039_01") 555, code := Value.ref 296 } }) ::
  (nat_lit 298, { cls := Value.type "tuple", data := Data.seq #[] }) ::
  (nat_lit 300, { cls := Value.type "tuple", data := Data.seq #[Value.str (Str.ofString "one") 597, Value.str (Str.ofString "other") 598] }) ::
  (nat_lit 301, { cls := Value.type "tuple", data := Data.seq #[] }) ::
  (nat_lit 303, { cls := Value.type "code", data := Data.fields #[Value.str (Str.ofString "_law_edits") 594, Value.str (Str.ofString "_law_edits") 595, Value.str (Str.ofString "/claim/cut.py") 596, Value.int 169 0, Value.int 2 0, Value.int 0 0, Value.int 0 0, Value.int 3 0, Value.ref 298, Value.bool Bool.true, Value.int 181 0, Value.ref 299, Value.none, Value.ref 300, Value.ref 301, Value.ref 302, Value.int 599 0, Value.int 169 0, Value.str (Str.ofString "/claim/cut.py") 600] }) ::
  (nat_lit 304, { cls := Value.type "function", data := Data.func { name := Str.ofString "_law_edits", qualname := Str.ofString "_law_edits", params := ?p35, body := FuncBody.stmts ?b35, scope := ?s35, globals := 3, closure := [], defaults := Value.none, kwdefaults := Value.none, pyModule := Value.str (Str.ofString "law_np0039_01") 555, code := Value.ref 303 } }) ::
  (nat_lit 305, { cls := Value.type "tuple", data := Data.seq #[] }) ::
  (nat_lit 307, { cls := Value.type "tuple", data := Data.seq #[Value.str (Str.ofString "one") 605, Value.str (Str.ofString "other") 606, Value.str (Str.ofString "same") 607] }) ::
  (nat_lit 308, { cls := Value.type "tuple", data := Data.seq #[] }) ::
  (nat_lit 310, { cls := Value.type "code", data := Data.fields #[Value.str (Str.ofString "_law_compared") 602, Value.str (Str.ofString "_law_compared") 603, Value.str (Str.ofString "/claim/cut.py") 604, Value.int 175 0, Value.int 2 0, Value.int 0 0, Value.int 0 0, Value.int 3 0, Value.ref 305, Value.bool Bool.true, Value.int 181 0, Value.ref 306, Value.none, Value.ref 307, Value.ref 308, Value.ref 309, Value.int 608 0, Value.int 175 0, Value.str (Str.ofString "/claim/cut.py") 609] }) ::
  (nat_lit 311, { cls := Value.type "function", data := Data.func { name := Str.ofString "_law_compared", qualname := Str.ofString "_law_compared", params := ?p36, body := FuncBody.stmts ?b36, scope := ?s36, globals := 3, closure := [], defaults := Value.none, kwdefaults := Value.none, pyModule := Value.str (Str.ofString "law_np0039_01") 555, code := Value.ref 310 } }) ::
  (nat_lit 312, { cls := Value.type "tuple", data := Data.seq #[] }) ::
  (nat_lit 315, { cls := Value.type "code", data := Data.fields #[Value.str (Str.ofString "_law_parts") 611, Value.str (Str.ofString "_law_parts") 612, Value.str (Str.ofString "/claim/cut.py") 613, Value.int 182 0, Value.int 1 0, Value.int 0 0, Value.int 0 0, Value.int 3 0, Value.ref 312, Value.bool Bool.true, Value.int 181 0, Value.ref 313, Value.none, Value.none, Value.none, Value.ref 314, Value.int 614 0, Value.int 182 0, Value.str (Str.ofString "/claim/cut.py") 615] }) ::
  (nat_lit 316, { cls := Value.type "function", data := Data.func { name := Str.ofString "_law_parts", qualname := Str.ofString "_law_parts", params := ?p37, body := FuncBody.stmts ?b37, scope := ?s37, globals := 3, closure := [], defaults := Value.none, kwdefaults := Value.none, pyModule := Value.str (Str.ofString "law_np0039_01") 555, code := Value.ref 315 } }) ::
  (nat_lit 317, { cls := Value.type "tuple", data := Data.seq #[] }) ::
  (nat_lit 319, { cls := Value.type "tuple", data := Data.seq #[Value.str (Str.ofString "one") 620, Value.str (Str.ofString "other") 621, Value.str (Str.ofString "left") 622, Value.str (Str.ofString "right") 623] }) ::
  (nat_lit 320, { cls := Value.type "tuple", data := Data.seq #[] }) ::
  (nat_lit 322, { cls := Value.type "code", data := Data.fields #[Value.str (Str.ofString "_law_is_ahead") 617, Value.str (Str.ofString "_law_is_ahead") 618, Value.str (Str.ofString "/claim/cut.py") 619, Value.int 194 0, Value.int 2 0, Value.int 0 0, Value.int 0 0, Value.int 3 0, Value.ref 317, Value.bool Bool.true, Value.int 181 0, Value.ref 318, Value.none, Value.ref 319, Value.ref 320, Value.ref 321, Value.int 624 0, Value.int 194 0, Value.str (Str.ofString "/claim/cut.py") 625] }) ::
  (nat_lit 323, { cls := Value.type "function", data := Data.func { name := Str.ofString "_law_is_ahead", qualname := Str.ofString "_law_is_ahead", params := ?p38, body := FuncBody.stmts ?b38, scope := ?s38, globals := 3, closure := [], defaults := Value.none, kwdefaults := Value.none, pyModule := Value.str (Str.ofString "law_np0039_01") 555, code := Value.ref 322 } }) ::
  (nat_lit 324, { cls := Value.type "tuple", data := Data.seq #[] }) ::
  (nat_lit 326, { cls := Value.type "tuple", data := Data.seq #[Value.str (Str.ofString "value") 630] }) ::
  (nat_lit 327, { cls := Value.type "tuple", data := Data.seq #[] }) ::
  (nat_lit 329, { cls := Value.type "code", data := Data.fields #[Value.str (Str.ofString "_law_truth") 627, Value.str (Str.ofString "_law_truth") 628, Value.str (Str.ofString "/claim/cut.py") 629, Value.int 202 0, Value.int 1 0, Value.int 0 0, Value.int 0 0, Value.int 3 0, Value.ref 324, Value.bool Bool.true, Value.int 181 0, Value.ref 325, Value.none, Value.ref 326, Value.ref 327, Value.ref 328, Value.int 631 0, Value.int 202 0, Value.str (Str.ofString "/claim/cut.py") 632] }) ::
  (nat_lit 330, { cls := Value.type "function", data := Data.func { name := Str.ofString "_law_truth", qualname := Str.ofString "_law_truth", params := ?p39, body := FuncBody.stmts ?b39, scope := ?s39, globals := 3, closure := [], defaults := Value.none, kwdefaults := Value.none, pyModule := Value.str (Str.ofString "law_np0039_01") 555, code := Value.ref 329 } }) ::
  (nat_lit 331, { cls := Value.type "tuple", data := Data.seq #[] }) ::
  (nat_lit 334, { cls := Value.type "code", data := Data.fields #[Value.str (Str.ofString "_law_is_pair") 634, Value.str (Str.ofString "_law_is_pair") 635, Value.str (Str.ofString "/claim/cut.py") 636, Value.int 204 0, Value.int 3 0, Value.int 0 0, Value.int 0 0, Value.int 3 0, Value.ref 331, Value.bool Bool.true, Value.int 181 0, Value.ref 332, Value.none, Value.none, Value.none, Value.ref 333, Value.int 637 0, Value.int 204 0, Value.str (Str.ofString "/claim/cut.py") 638] }) ::
  (nat_lit 335, { cls := Value.type "function", data := Data.func { name := Str.ofString "_law_is_pair", qualname := Str.ofString "_law_is_pair", params := ?p40, body := FuncBody.stmts ?b40, scope := ?s40, globals := 3, closure := [], defaults := Value.none, kwdefaults := Value.none, pyModule := Value.str (Str.ofString "law_np0039_01") 555, code := Value.ref 334 } }) ::
  (nat_lit 336, { cls := Value.type "tuple", data := Data.seq #[] }) ::
  (nat_lit 339, { cls := Value.type "code", data := Data.fields #[Value.str (Str.ofString "law") 640, Value.str (Str.ofString "law") 641, Value.str (Str.ofString "/claim/cut.py") 642, Value.int 221 0, Value.int 1 0, Value.int 0 0, Value.int 0 0, Value.int 3 0, Value.ref 336, Value.bool Bool.true, Value.int 181 0, Value.ref 337, Value.none, Value.none, Value.none, Value.ref 338, Value.int 643 0, Value.int 221 0, Value.str (Str.ofString "/claim/cut.py") 644] }) ::
  (nat_lit 340, { cls := Value.type "function", data := Data.func { name := Str.ofString "law", qualname := Str.ofString "law", params := ?p41, body := FuncBody.stmts ?b41, scope := ?s41, globals := 3, closure := [], defaults := Value.none, kwdefaults := Value.none, pyModule := Value.str (Str.ofString "law_np0039_01") 555, code := Value.ref 339 } }) :: []) ?h
  case h =>
    dsimp only [hd.parts, hd.nth, hd.bodyC, hd.bodyF, hd.argsF, hd.scopeF, hd.prg, PySem.Challenge.pw_np0039_01]
    exact rfl
noncomputable def hd.view_39 : Program := { PySem.Challenge.pw_np0039_01 with main := { PySem.Challenge.pw_np0039_01.main with body := hd.viewE.1 } }
noncomputable def hd.hookAs : List Addr := [nat_lit 2, nat_lit 3, nat_lit 15, nat_lit 22, nat_lit 24, nat_lit 25, nat_lit 27, nat_lit 28, nat_lit 29, nat_lit 30, nat_lit 31, nat_lit 32, nat_lit 42, nat_lit 44, nat_lit 45, nat_lit 47, nat_lit 48, nat_lit 49, nat_lit 50, nat_lit 51, nat_lit 52, nat_lit 53, nat_lit 56, nat_lit 57, nat_lit 59, nat_lit 60, nat_lit 69, nat_lit 70, nat_lit 72, nat_lit 73, nat_lit 75, nat_lit 76, nat_lit 77, nat_lit 78, nat_lit 79, nat_lit 80, nat_lit 81, nat_lit 84, nat_lit 86, nat_lit 87, nat_lit 89, nat_lit 90, nat_lit 91, nat_lit 93, nat_lit 94, nat_lit 96, nat_lit 97, nat_lit 98, nat_lit 101, nat_lit 102, nat_lit 103, nat_lit 105, nat_lit 106, nat_lit 108, nat_lit 109, nat_lit 110, nat_lit 112, nat_lit 113, nat_lit 115, nat_lit 116, nat_lit 117, nat_lit 119, nat_lit 120, nat_lit 122, nat_lit 123, nat_lit 124, nat_lit 126, nat_lit 127, nat_lit 129, nat_lit 130, nat_lit 131, nat_lit 133, nat_lit 134, nat_lit 136, nat_lit 137, nat_lit 138, nat_lit 140, nat_lit 141, nat_lit 143, nat_lit 144, nat_lit 145, nat_lit 147, nat_lit 148, nat_lit 150, nat_lit 151, nat_lit 152, nat_lit 154, nat_lit 155, nat_lit 157, nat_lit 158, nat_lit 159, nat_lit 161, nat_lit 162, nat_lit 164, nat_lit 165, nat_lit 166, nat_lit 168, nat_lit 169, nat_lit 171, nat_lit 172, nat_lit 173, nat_lit 175, nat_lit 176, nat_lit 178, nat_lit 179, nat_lit 180, nat_lit 183, nat_lit 184, nat_lit 185, nat_lit 187, nat_lit 188, nat_lit 190, nat_lit 191, nat_lit 192, nat_lit 194, nat_lit 195, nat_lit 197, nat_lit 198, nat_lit 199, nat_lit 201, nat_lit 202, nat_lit 204, nat_lit 205, nat_lit 206, nat_lit 208, nat_lit 209, nat_lit 211, nat_lit 212, nat_lit 213, nat_lit 215, nat_lit 216, nat_lit 218, nat_lit 219, nat_lit 220, nat_lit 222, nat_lit 223, nat_lit 225, nat_lit 226, nat_lit 227, nat_lit 229, nat_lit 230, nat_lit 232, nat_lit 233, nat_lit 234, nat_lit 236, nat_lit 237, nat_lit 239, nat_lit 240, nat_lit 241, nat_lit 243, nat_lit 244, nat_lit 246, nat_lit 247, nat_lit 248, nat_lit 250, nat_lit 251, nat_lit 253, nat_lit 254, nat_lit 255, nat_lit 257, nat_lit 258, nat_lit 260, nat_lit 261, nat_lit 262, nat_lit 264, nat_lit 265, nat_lit 267, nat_lit 268, nat_lit 269, nat_lit 272, nat_lit 273, nat_lit 274, nat_lit 276, nat_lit 277, nat_lit 279, nat_lit 280, nat_lit 281, nat_lit 284, nat_lit 285, nat_lit 286, nat_lit 289, nat_lit 290, nat_lit 291, nat_lit 293, nat_lit 294, nat_lit 296, nat_lit 297, nat_lit 298, nat_lit 300, nat_lit 301, nat_lit 303, nat_lit 304, nat_lit 305, nat_lit 307, nat_lit 308, nat_lit 310, nat_lit 311, nat_lit 312, nat_lit 315, nat_lit 316, nat_lit 317, nat_lit 319, nat_lit 320, nat_lit 322, nat_lit 323, nat_lit 324, nat_lit 326, nat_lit 327, nat_lit 329, nat_lit 330, nat_lit 331, nat_lit 334, nat_lit 335, nat_lit 336, nat_lit 339, nat_lit 340]
theorem hd.hookAs_eq : ∀ P, hd.hookAs = (hd.heap_39 P).map (·.1) := fun _ => by kernel_rfl
section
set_option maxHeartbeats 8000000
noncomputable def hd.merge : Nat → List (Addr × Obj) → List (Addr × Obj) → List Obj
  | 0, _, _ => []
  | _ + 1, [], ys => ys.map (·.2)
  | _ + 1, xs, [] => xs.map (·.2)
  | n + 1, (a, x) :: xs, (b, y) :: ys => match Nat.blt a b with
    | true => x :: hd.merge n xs ((b, y) :: ys)
    | false => y :: hd.merge n ((a, x) :: xs) ys
noncomputable def hd.proto : Option Obj → Obj
  | some ⟨_, _, .func f, _⟩ => { cls := .none, data := .func { name := f.name, qualname := f.qualname, params := f.params, body := f.body, scope := f.scope, globals := 0, closure := [], defaults := .none, kwdefaults := .none } }
  | _ => { cls := .none }
noncomputable def hd.rest (P : Params) : List (Addr × Obj) :=
  (nat_lit 0, boot_o_0 P) ::
  (nat_lit 1, boot_o_1 P) ::
  (nat_lit 4, boot_o_4 P) ::
  (nat_lit 5, boot_o_5 P) ::
  (nat_lit 6, boot_o_6 P) ::
  (nat_lit 7, boot_o_7 P) ::
  (nat_lit 8, boot_o_8 P) ::
  (nat_lit 9, boot_o_9 P) ::
  (nat_lit 10, boot_o_10 P) ::
  (nat_lit 11, { cls := Value.type "tuple", data := Data.seq #[] }) ::
  (nat_lit 12, { cls := Value.none, data := Data.fields #[Value.int 2 0, Value.int 0 0, Value.ref 20, Value.int 8 0, Value.int 0 0, Value.ref 40, Value.int 15 0, Value.int 0 0, Value.ref 67, Value.int 20 0, Value.int 0 0, Value.ref 89, Value.int 22 0, Value.int 0 0, Value.ref 96, Value.int 24 0, Value.int 0 0, Value.ref 101, Value.int 27 0, Value.int 0 0, Value.ref 108, Value.int 31 0, Value.int 0 0, Value.ref 115, Value.int 34 0, Value.int 0 0, Value.ref 122, Value.int 36 0, Value.int 0 0, Value.ref 129, Value.int 40 0, Value.int 0 0, Value.ref 136, Value.int 44 0, Value.int 0 0, Value.ref 143, Value.int 48 0, Value.int 0 0, Value.ref 150, Value.int 50 0, Value.int 0 0, Value.ref 157, Value.int 58 0, Value.int 0 0, Value.ref 164, Value.int 60 0, Value.int 0 0, Value.ref 171, Value.int 62 0, Value.int 0 0, Value.ref 178, Value.int 64 0, Value.int 0 0, Value.ref 183, Value.int 66 0, Value.int 0 0, Value.ref 190, Value.int 68 0, Value.int 0 0, Value.ref 197, Value.int 81 0, Value.int 0 0, Value.ref 204, Value.int 85 0, Value.int 0 0, Value.ref 211, Value.int 91 0, Value.int 0 0, Value.ref 218, Value.int 108 0, Value.int 0 0, Value.ref 225, Value.int 115 0, Value.int 0 0, Value.ref 232, Value.int 125 0, Value.int 0 0, Value.ref 239, Value.int 127 0, Value.int 0 0, Value.ref 246, Value.int 129 0, Value.int 0 0, Value.ref 253, Value.int 134 0, Value.int 0 0, Value.ref 260, Value.int 147 0, Value.int 0 0, Value.ref 267, Value.int 150 0, Value.int 0 0, Value.ref 272, Value.int 152 0, Value.int 0 0, Value.ref 279, Value.int 160 0, Value.int 0 0, Value.ref 284, Value.int 162 0, Value.int 0 0, Value.ref 289, Value.int 164 0, Value.int 0 0, Value.ref 296, Value.int 169 0, Value.int 0 0, Value.ref 303, Value.int 175 0, Value.int 0 0, Value.ref 310, Value.int 182 0, Value.int 0 0, Value.ref 315, Value.int 194 0, Value.int 0 0, Value.ref 322, Value.int 202 0, Value.int 0 0, Value.ref 329, Value.int 204 0, Value.int 0 0, Value.ref 334, Value.int 221 0, Value.int 0 0, Value.ref 339] }) ::
  (nat_lit 13, { cls := Value.type "code", data := Data.fields #[Value.str (Str.ofString "<module>") 182, Value.str (Str.ofString "<module>") 183, Value.str (Str.ofString "/claim/cut.py") 184, Value.int 1 0, Value.int 0 0, Value.int 0 0, Value.int 0 0, Value.int 0 0, Value.ref 11, Value.bool false, Value.int 181 0, Value.ref 12, Value.none, Value.none, Value.none, Value.none, Value.int 185 0, Value.int 1 0, Value.str (Str.ofString "/claim/cut.py") 186] }) ::
  (nat_lit 14, { cls := Value.type "frame", slots := #[some (Value.ref 13), some (Value.ref 3), some (Value.ref 3), none, some (Value.str (Str.ofString "__main__") 164), none, some (Value.ref 0)] }) ::
  (nat_lit 16, { cls := Value.type "builtin_function_or_method", data := Data.fields #[Value.builtin "type.__prepare__", Value.type "type"] }) ::
  (nat_lit 17, { cls := Value.type "dict", data := Data.dict #[{ hash := PyData.keyHash P (Str.ofString "__module__"), key := Value.str (Str.ofString "__module__") 196, val := Value.str (Str.ofString "emacs.errors") 187 }, { hash := PyData.keyHash P (Str.ofString "__qualname__"), key := Value.str (Str.ofString "__qualname__") 198, val := Value.str (Str.ofString "LispSignal") 197 }, { hash := PyData.keyHash P (Str.ofString "__firstlineno__"), key := Value.str (Str.ofString "__firstlineno__") 200, val := Value.int 2 199 }, { hash := PyData.keyHash P (Str.ofString "__init__"), key := Value.str (Str.ofString "__init__") 209, val := Value.ref 28 }, { hash := PyData.keyHash P (Str.ofString "__static_attributes__"), key := Value.str (Str.ofString "__static_attributes__") 212, val := Value.ref 29 }] 5 }) ::
  (nat_lit 18, { cls := Value.type "tuple", data := Data.seq #[] }) ::
  (nat_lit 19, { cls := Value.none, data := Data.fields #[Value.int 4 0, Value.int 4 0, Value.ref 27] }) ::
  (nat_lit 20, { cls := Value.type "code", data := Data.fields #[Value.str (Str.ofString "LispSignal") 191, Value.str (Str.ofString "LispSignal") 192, Value.str (Str.ofString "/claim/cut.py") 193, Value.int 2 0, Value.int 0 0, Value.int 0 0, Value.int 0 0, Value.int 0 0, Value.ref 18, Value.bool false, Value.int 181 0, Value.ref 19, Value.none, Value.none, Value.none, Value.none, Value.int 194 0, Value.int 2 0, Value.str (Str.ofString "/claim/cut.py") 195] }) ::
  (nat_lit 21, { cls := Value.type "frame", slots := #[some (Value.ref 20), some (Value.ref 3), some (Value.ref 17), none, some (Value.str (Str.ofString "emacs.errors") 187), none, some (Value.ref 0)] }) ::
  (nat_lit 23, { cls := Value.none, data := Data.fields #[] }) ::
  (nat_lit 26, hd.proto ((hd.heap_39 P).lookup (nat_lit 28))) ::
  (nat_lit 33, { cls := Value.type "super", data := Data.fields #[Value.ref 31, Value.ref 31, Value.ref 31] }) ::
  (nat_lit 34, { cls := Value.type "builtin_function_or_method", data := Data.fields #[Value.builtin "object.__init_subclass__", Value.ref 31] }) ::
  (nat_lit 35, { cls := Value.type "tuple", data := Data.seq #[] }) ::
  (nat_lit 36, { cls := Value.type "builtin_function_or_method", data := Data.fields #[Value.builtin "type.__prepare__", Value.type "type"] }) ::
  (nat_lit 37, { cls := Value.type "dict", data := Data.dict #[{ hash := PyData.keyHash P (Str.ofString "__module__"), key := Value.str (Str.ofString "__module__") 229, val := Value.str (Str.ofString "emacs.objects") 220 }, { hash := PyData.keyHash P (Str.ofString "__qualname__"), key := Value.str (Str.ofString "__qualname__") 231, val := Value.str (Str.ofString "Symbol") 230 }, { hash := PyData.keyHash P (Str.ofString "__firstlineno__"), key := Value.str (Str.ofString "__firstlineno__") 233, val := Value.int 8 232 }, { hash := PyData.keyHash P (Str.ofString "__init__"), key := Value.str (Str.ofString "__init__") 242, val := Value.ref 48 }, { hash := PyData.keyHash P (Str.ofString "__static_attributes__"), key := Value.str (Str.ofString "__static_attributes__") 245, val := Value.ref 49 }] 5 }) ::
  (nat_lit 38, { cls := Value.type "tuple", data := Data.seq #[] }) ::
  (nat_lit 39, { cls := Value.none, data := Data.fields #[Value.int 10 0, Value.int 4 0, Value.ref 47] }) ::
  (nat_lit 40, { cls := Value.type "code", data := Data.fields #[Value.str (Str.ofString "Symbol") 224, Value.str (Str.ofString "Symbol") 225, Value.str (Str.ofString "/claim/cut.py") 226, Value.int 8 0, Value.int 0 0, Value.int 0 0, Value.int 0 0, Value.int 0 0, Value.ref 38, Value.bool false, Value.int 181 0, Value.ref 39, Value.none, Value.none, Value.none, Value.none, Value.int 227 0, Value.int 8 0, Value.str (Str.ofString "/claim/cut.py") 228] }) ::
  (nat_lit 41, { cls := Value.type "frame", slots := #[some (Value.ref 40), some (Value.ref 3), some (Value.ref 37), none, some (Value.str (Str.ofString "emacs.objects") 220), none, some (Value.ref 0)] }) ::
  (nat_lit 43, { cls := Value.none, data := Data.fields #[] }) ::
  (nat_lit 46, hd.proto ((hd.heap_39 P).lookup (nat_lit 48))) ::
  (nat_lit 54, { cls := Value.type "super", data := Data.fields #[Value.ref 51, Value.ref 51, Value.ref 51] }) ::
  (nat_lit 55, { cls := Value.type "builtin_function_or_method", data := Data.fields #[Value.builtin "object.__init_subclass__", Value.ref 51] }) ::
  (nat_lit 58, { cls := Value.type "frame", data := Data.dict #[{ hash := PyData.keyHash P (Str.ofString "self"), key := Value.str (Str.ofString "self") 255, val := Value.ref 57 }, { hash := PyData.keyHash P (Str.ofString "number"), key := Value.str (Str.ofString "number") 256, val := Value.int 0 253 }, { hash := PyData.keyHash P (Str.ofString "name"), key := Value.str (Str.ofString "name") 257, val := Value.str (Str.ofString "nil") 254 }] 3 }) ::
  (nat_lit 61, { cls := Value.type "frame", data := Data.dict #[{ hash := PyData.keyHash P (Str.ofString "self"), key := Value.str (Str.ofString "self") 265, val := Value.ref 60 }, { hash := PyData.keyHash P (Str.ofString "number"), key := Value.str (Str.ofString "number") 266, val := Value.int 1 263 }, { hash := PyData.keyHash P (Str.ofString "name"), key := Value.str (Str.ofString "name") 267, val := Value.str (Str.ofString "t") 264 }] 3 }) ::
  (nat_lit 62, { cls := Value.type "tuple", data := Data.seq #[] }) ::
  (nat_lit 63, { cls := Value.type "builtin_function_or_method", data := Data.fields #[Value.builtin "type.__prepare__", Value.type "type"] }) ::
  (nat_lit 64, { cls := Value.type "dict", data := Data.dict #[{ hash := PyData.keyHash P (Str.ofString "__module__"), key := Value.str (Str.ofString "__module__") 280, val := Value.str (Str.ofString "emacs.objects") 220 }, { hash := PyData.keyHash P (Str.ofString "__qualname__"), key := Value.str (Str.ofString "__qualname__") 282, val := Value.str (Str.ofString "Text") 281 }, { hash := PyData.keyHash P (Str.ofString "__firstlineno__"), key := Value.str (Str.ofString "__firstlineno__") 284, val := Value.int 15 283 }, { hash := PyData.keyHash P (Str.ofString "__init__"), key := Value.str (Str.ofString "__init__") 293, val := Value.ref 76 }, { hash := PyData.keyHash P (Str.ofString "__static_attributes__"), key := Value.str (Str.ofString "__static_attributes__") 296, val := Value.ref 77 }] 5 }) ::
  (nat_lit 65, { cls := Value.type "tuple", data := Data.seq #[] }) ::
  (nat_lit 66, { cls := Value.none, data := Data.fields #[Value.int 17 0, Value.int 4 0, Value.ref 75] }) ::
  (nat_lit 67, { cls := Value.type "code", data := Data.fields #[Value.str (Str.ofString "Text") 275, Value.str (Str.ofString "Text") 276, Value.str (Str.ofString "/claim/cut.py") 277, Value.int 15 0, Value.int 0 0, Value.int 0 0, Value.int 0 0, Value.int 0 0, Value.ref 65, Value.bool false, Value.int 181 0, Value.ref 66, Value.none, Value.none, Value.none, Value.none, Value.int 278 0, Value.int 15 0, Value.str (Str.ofString "/claim/cut.py") 279] }) ::
  (nat_lit 68, { cls := Value.type "frame", slots := #[some (Value.ref 67), some (Value.ref 3), some (Value.ref 64), none, some (Value.str (Str.ofString "emacs.objects") 220), none, some (Value.ref 0)] }) ::
  (nat_lit 71, { cls := Value.none, data := Data.fields #[] }) ::
  (nat_lit 74, hd.proto ((hd.heap_39 P).lookup (nat_lit 76))) ::
  (nat_lit 82, { cls := Value.type "super", data := Data.fields #[Value.ref 79, Value.ref 79, Value.ref 79] }) ::
  (nat_lit 83, { cls := Value.type "builtin_function_or_method", data := Data.fields #[Value.builtin "object.__init_subclass__", Value.ref 79] }) ::
  (nat_lit 85, { cls := Value.none, data := Data.fields #[] }) ::
  (nat_lit 88, hd.proto ((hd.heap_39 P).lookup (nat_lit 90))) ::
  (nat_lit 92, { cls := Value.none, data := Data.fields #[] }) ::
  (nat_lit 95, hd.proto ((hd.heap_39 P).lookup (nat_lit 97))) ::
  (nat_lit 99, { cls := Value.none, data := Data.fields #[] }) ::
  (nat_lit 100, hd.proto ((hd.heap_39 P).lookup (nat_lit 102))) ::
  (nat_lit 104, { cls := Value.none, data := Data.fields #[] }) ::
  (nat_lit 107, hd.proto ((hd.heap_39 P).lookup (nat_lit 109))) ::
  (nat_lit 111, { cls := Value.none, data := Data.fields #[] }) ::
  (nat_lit 114, hd.proto ((hd.heap_39 P).lookup (nat_lit 116))) ::
  (nat_lit 118, { cls := Value.none, data := Data.fields #[] }) ::
  (nat_lit 121, hd.proto ((hd.heap_39 P).lookup (nat_lit 123))) ::
  (nat_lit 125, { cls := Value.none, data := Data.fields #[] }) ::
  (nat_lit 128, hd.proto ((hd.heap_39 P).lookup (nat_lit 130))) ::
  (nat_lit 132, { cls := Value.none, data := Data.fields #[] }) ::
  (nat_lit 135, hd.proto ((hd.heap_39 P).lookup (nat_lit 137))) ::
  (nat_lit 139, { cls := Value.none, data := Data.fields #[] }) ::
  (nat_lit 142, hd.proto ((hd.heap_39 P).lookup (nat_lit 144))) ::
  (nat_lit 146, { cls := Value.none, data := Data.fields #[] }) ::
  (nat_lit 149, hd.proto ((hd.heap_39 P).lookup (nat_lit 151))) ::
  (nat_lit 153, { cls := Value.none, data := Data.fields #[] }) ::
  (nat_lit 156, hd.proto ((hd.heap_39 P).lookup (nat_lit 158))) ::
  (nat_lit 160, { cls := Value.none, data := Data.fields #[] }) ::
  (nat_lit 163, hd.proto ((hd.heap_39 P).lookup (nat_lit 165))) ::
  (nat_lit 167, { cls := Value.none, data := Data.fields #[] }) ::
  (nat_lit 170, hd.proto ((hd.heap_39 P).lookup (nat_lit 172))) ::
  (nat_lit 174, { cls := Value.none, data := Data.fields #[] }) ::
  (nat_lit 177, hd.proto ((hd.heap_39 P).lookup (nat_lit 179))) ::
  (nat_lit 181, { cls := Value.none, data := Data.fields #[] }) ::
  (nat_lit 182, hd.proto ((hd.heap_39 P).lookup (nat_lit 184))) ::
  (nat_lit 186, { cls := Value.none, data := Data.fields #[] }) ::
  (nat_lit 189, hd.proto ((hd.heap_39 P).lookup (nat_lit 191))) ::
  (nat_lit 193, { cls := Value.none, data := Data.fields #[] }) ::
  (nat_lit 196, hd.proto ((hd.heap_39 P).lookup (nat_lit 198))) ::
  (nat_lit 200, { cls := Value.none, data := Data.fields #[] }) ::
  (nat_lit 203, hd.proto ((hd.heap_39 P).lookup (nat_lit 205))) ::
  (nat_lit 207, { cls := Value.none, data := Data.fields #[] }) ::
  (nat_lit 210, hd.proto ((hd.heap_39 P).lookup (nat_lit 212))) ::
  (nat_lit 214, { cls := Value.none, data := Data.fields #[] }) ::
  (nat_lit 217, hd.proto ((hd.heap_39 P).lookup (nat_lit 219))) ::
  (nat_lit 221, { cls := Value.none, data := Data.fields #[] }) ::
  (nat_lit 224, hd.proto ((hd.heap_39 P).lookup (nat_lit 226))) ::
  (nat_lit 228, { cls := Value.none, data := Data.fields #[] }) ::
  (nat_lit 231, hd.proto ((hd.heap_39 P).lookup (nat_lit 233))) ::
  (nat_lit 235, { cls := Value.none, data := Data.fields #[] }) ::
  (nat_lit 238, hd.proto ((hd.heap_39 P).lookup (nat_lit 240))) ::
  (nat_lit 242, { cls := Value.none, data := Data.fields #[] }) ::
  (nat_lit 245, hd.proto ((hd.heap_39 P).lookup (nat_lit 247))) ::
  (nat_lit 249, { cls := Value.none, data := Data.fields #[] }) ::
  (nat_lit 252, hd.proto ((hd.heap_39 P).lookup (nat_lit 254))) ::
  (nat_lit 256, { cls := Value.none, data := Data.fields #[] }) ::
  (nat_lit 259, hd.proto ((hd.heap_39 P).lookup (nat_lit 261))) ::
  (nat_lit 263, { cls := Value.none, data := Data.fields #[] }) ::
  (nat_lit 266, hd.proto ((hd.heap_39 P).lookup (nat_lit 268))) ::
  (nat_lit 270, { cls := Value.none, data := Data.fields #[] }) ::
  (nat_lit 271, hd.proto ((hd.heap_39 P).lookup (nat_lit 273))) ::
  (nat_lit 275, { cls := Value.none, data := Data.fields #[] }) ::
  (nat_lit 278, hd.proto ((hd.heap_39 P).lookup (nat_lit 280))) ::
  (nat_lit 282, { cls := Value.none, data := Data.fields #[] }) ::
  (nat_lit 283, hd.proto ((hd.heap_39 P).lookup (nat_lit 285))) ::
  (nat_lit 287, { cls := Value.none, data := Data.fields #[] }) ::
  (nat_lit 288, hd.proto ((hd.heap_39 P).lookup (nat_lit 290))) ::
  (nat_lit 292, { cls := Value.none, data := Data.fields #[] }) ::
  (nat_lit 295, hd.proto ((hd.heap_39 P).lookup (nat_lit 297))) ::
  (nat_lit 299, { cls := Value.none, data := Data.fields #[] }) ::
  (nat_lit 302, hd.proto ((hd.heap_39 P).lookup (nat_lit 304))) ::
  (nat_lit 306, { cls := Value.none, data := Data.fields #[] }) ::
  (nat_lit 309, hd.proto ((hd.heap_39 P).lookup (nat_lit 311))) ::
  (nat_lit 313, { cls := Value.none, data := Data.fields #[] }) ::
  (nat_lit 314, hd.proto ((hd.heap_39 P).lookup (nat_lit 316))) ::
  (nat_lit 318, { cls := Value.none, data := Data.fields #[] }) ::
  (nat_lit 321, hd.proto ((hd.heap_39 P).lookup (nat_lit 323))) ::
  (nat_lit 325, { cls := Value.none, data := Data.fields #[] }) ::
  (nat_lit 328, hd.proto ((hd.heap_39 P).lookup (nat_lit 330))) ::
  (nat_lit 332, { cls := Value.none, data := Data.fields #[] }) ::
  (nat_lit 333, hd.proto ((hd.heap_39 P).lookup (nat_lit 335))) ::
  (nat_lit 337, { cls := Value.none, data := Data.fields #[] }) ::
  (nat_lit 338, hd.proto ((hd.heap_39 P).lookup (nat_lit 340))) :: []
noncomputable def hd.fin (P : Params) : Heap := { objs := Array.mk (hd.merge (nat_lit 400) (hd.rest P) (hd.heap_39 P)), life := { } }
noncomputable def hd.loose : List Str := [Str.ofString "NIL", Str.ofString "T", Str.ofString "MOST_CELLS"]
noncomputable def hd.done (w : World) (os : OsState) : Shared := ⟨hd.fin w.params, Array.mk [], boot_drawn, nat_lit 646, os⟩
noncomputable def hd.xt (s : Shared) : Bool := xlAt hd.view_39 [(Str.ofString "MOST_CELLS", WData.int 4194304)] s && recOk (RowW.records PySem.Challenge.rw_np0039_01.row.toRowW) s
theorem hd.size (w : World) : ((boot_heap w.params).isNs mainGlobals && (Array.mk [] : Array GenState).size == 0, (boot_heap w.params).objs.size, (boot_heap w.params).nsMap mainGlobals "__annotations__") = (true, nat_lit 11, some (.ref 6)) := by kernel_rfl
theorem hd.l0a (w : World) (os : OsState) : staticsOk (importedModules PySem.Challenge.rw_np0039_01.row.toRowW.prog.main.body) (boot_heap w.params) (hd.fin w.params) = true := by kernel_rfl
theorem hd.l0b (w : World) (os : OsState) : namesBound PySem.Challenge.rw_np0039_01.row.toRowW.prog (hd.fin w.params) = true := by
  unfold namesBound
  rw [PySem.W.Fast.te18344453789297297638]
  kernel_rfl
theorem hd.l0c (w : World) (os : OsState) : gensDone (hd.done w os) = true := by kernel_rfl
theorem hd.l0d (w : World) (os : OsState) : laidKept (boot_heap w.params) (hd.fin w.params) = true := by kernel_rfl
theorem hd.l1 (w : World) (os : OsState) : seen ((recsOf hd.view_39).map (·.name)) (ownsOf hd.view_39) [] { hd.done w os with gens := #[] } = expectedOf hd.view_39 := by
  unfold expectedOf
  rw [PySem.W.Fast.te5160383126252970620, PySem.W.Fast.te3399658132070893891, PySem.W.Fast.te5991557255702980513]
  kernel_rfl
theorem hd.l2 (w : World) (os : OsState) : (hd.done w os).heap.bltView = bltViewBooted := by kernel_rfl
theorem hd.l3a (w : World) (os : OsState) : (hd.done w os).heap.keysOk (looseW hd.view_39 hd.loose) ((recsOf hd.view_39).map (·.name)) ((litsOf hd.view_39).map (·.1)) ((clssOf hd.view_39 (looseW hd.view_39 hd.loose)).map (·.name)) = true := by
  rw [PySem.W.Fast.te10880121769531294198, PySem.W.Fast.te3399658132070893891, PySem.W.Fast.te821141287760084731, PySem.W.Fast.te7409074990110511671, PySem.W.Fast.te13664370479719496447]
  kernel_rfl
theorem hd.l3b (w : World) (os : OsState) : (hd.done w os).heap.accountedOkI (importedModules PySem.Challenge.rw_np0039_01.row.toRowW.prog.main.body) = true := by kernel_rfl
theorem hd.l3c (w : World) (os : OsState) : (hd.done w os).heap.isNs mainGlobals = true := by kernel_rfl
theorem hd.l3d (w : World) (os : OsState) : (hd.done w os).heap.isNs builtinsNs = true := by kernel_rfl
theorem hd.l3e (w : World) (os : OsState) : tablesOk hd.view_39 (hd.done w os).heap = true := by kernel_rfl
theorem hd.l3f (w : World) (os : OsState) : hd.xt (hd.done w os) = true := by kernel_rfl
theorem hd.l4 (w : World) (os : OsState) : tabsOk hd.view_39 (hd.done w os) = true := by
  rw [PySem.W.Fast.te479339242167458305]
  kernel_rfl
theorem hd.l5 (w : World) (os : OsState) : pinSeenD hd.view_39 (drecsOf hd.view_39) (hd.done w os) = pinGoodD (drecsOf hd.view_39) := by
  unfold pinGoodD
  rw [PySem.W.Fast.te16090120013241838585, PySem.W.Fast.te3247288618530077131]
  kernel_rfl
theorem hd.l6 (w : World) (os : OsState) : plainSeenE hd.view_39 (looseW hd.view_39 hd.loose) (hd.done w os) = plainGoodE hd.view_39 (looseW hd.view_39 hd.loose) := by
  unfold plainGoodE
  rw [PySem.W.Fast.te2386780881361962483, PySem.W.Fast.te821141287760084731, PySem.W.Fast.te210736558901404530]
  kernel_rfl
theorem hd.l7 (w : World) (os : OsState) : plainSeenD hd.view_39 hd.loose (hd.done w os) = plainGoodD hd.view_39 hd.loose := by kernel_rfl
theorem hd.l8 (w : World) (os : OsState) : wideSeen hd.view_39 (hd.done w os) = wideGood hd.view_39 := by
  unfold wideGood
  rw [PySem.W.Fast.te7317090234206586261, PySem.W.Fast.te694669760492028198]
  kernel_rfl
theorem hd.l9 (w : World) (os : OsState) : clsSeenW hd.view_39 hd.loose (hd.done w os) = clsGoodW hd.view_39 hd.loose := by kernel_rfl
theorem hd.lH (w : World) (os : OsState) : Hook.obs (kHook hd.heap_39 hd.hookAs hd.hookAs_eq) (hd.done w os) = Hook.val (kHook hd.heap_39 hd.hookAs hd.hookAs_eq) w := by kernel_rfl
theorem hd.goes (w : World) (os : OsState) : topRun treeTable PySem.Challenge.rw_np0039_01.row.toRowW.prog w (nat_lit 11) (some (.ref 6)) (nat_lit 4514) ⟨boot_heap w.params, Array.mk [], boot_drawn, boot_toks, os⟩ (topStub PySem.Challenge.rw_np0039_01.row.toRowW.prog) = some ⟨hd.fin w.params, Array.mk [], boot_drawn, nat_lit 646, os⟩ := by
  rw [PySem.W.Fast.te14082659384304107361, PySem.W.Fast.te14364793385576792824]
  kernel_rfl
theorem hd.opens : opening PySem.Challenge.rw_np0039_01.row.toRowW.prog = plainProg PySem.Challenge.rw_np0039_01.row.toRowW.prog.main.scope.names := by kernel_rfl
theorem hd.fence (s : Shared) : fenceModules? PySem.Challenge.rw_np0039_01.row.toRowW.prog s = some s := by kernel_rfl
theorem hd.left : LeftO PySem.Challenge.rw_np0039_01.row.toRowW.prog hd.view_39 [Str.ofString "NIL", Str.ofString "T", Str.ofString "MOST_CELLS"] (fun s => xlAt hd.view_39 [(Str.ofString "MOST_CELLS", WData.int 4194304)] s && recOk (RowW.records PySem.Challenge.rw_np0039_01.row.toRowW) s) (Hook.obs (kHook hd.heap_39 hd.hookAs hd.hookAs_eq)) (Hook.val (kHook hd.heap_39 hd.hookAs hd.hookAs_eq)) 4514 :=
  LeftO.of_pieces (H₀ := boot_heap) (H₁ := hd.fin) (gs₀ := Array.mk []) (gs₁ := Array.mk []) (d₀ := boot_drawn) (d₁ := boot_drawn) (k₀ := boot_toks) (k₁ := nat_lit 646) (m₀ := nat_lit 11) (ann := some (.ref 6)) (M := nat_lit 4514)
    (boot_open hd.opens (N := 4514) (by decide) hd.fence) hd.size hd.goes (by decide)
    (fun w => funext fun os => looks_pair (look_both (look_both (look_both (hd.l0a w os) (hd.l0b w os)) (hd.l0c w os)) (hd.l0d w os))
      (looks_pair (looks_pair (hd.l1 w os) (looks_pair (hd.l2 w os) (looks_pair (look_both (look_both (look_both (look_both (look_both (look_both (hd.l3a w os) (hd.l3b w os)) (hd.l3c w os)) (hd.l3d w os)) (hd.l3e w os)) (hd.l3f w os)) rfl)
        (looks_pair (hd.l4 w os) (looks_pair (hd.l5 w os) (looks_pair (hd.l6 w os) (looks_pair (hd.l7 w os) (looks_pair (hd.l8 w os) (hd.l9 w os)))))))) ) (hd.lH w os)))
theorem hd.said : PySem.Challenge.rw_np0039_01.wellSaid = true := by
  unfold OpenLaw.wellSaid OpenRow.wellSaid OpenRow.partSaid looksOpen
  repeat' with_reducible apply look_both
  all_goals
    try rw [PySem.W.Fast.te8326940854005059898]
    try rw [PySem.W.Fast.te17119622794617984870]
    try rw [PySem.W.Fast.te8377067652309620493]
    try rw [PySem.W.Fast.te8179353310426384613]
    try rw [PySem.W.Fast.te10501279942588096481]
    try rw [PySem.W.Fast.te6984425678791042302]
    try rw [PySem.W.Fast.te16286561074155671207]
    try rw [PySem.W.Fast.te13343964577679436407]
    try rw [PySem.W.Fast.te797321630700447069]
    try rw [PySem.W.Fast.te10792542408131684335]
    try rw [PySem.W.Fast.te9558739934217749035]
    try rw [PySem.W.Fast.te18344453789297297638]
    try rw [PySem.W.Fast.named_eq]
    decide +kernel
end

open PySem.Spec PySem.Calls
section
/-- small facts of toNat, so that omega need not split -/
theorem tn_lt {a : Int} {n : Nat} (h0 : 0 ≤ a) (h : a < n) : a.toNat < n := by
  obtain ⟨k, rfl⟩ := Int.eq_ofNat_of_zero_le h0
  exact Int.ofNat_lt.mp h
theorem tn_succ {a : Int} (h0 : 0 ≤ a) : (a + 1).toNat = a.toNat + 1 := by
  obtain ⟨k, rfl⟩ := Int.eq_ofNat_of_zero_le h0
  rfl
theorem tn_add {a : Int} (n : Nat) (h0 : 0 ≤ a) : (a + (n : Int)).toNat = a.toNat + n := by
  obtain ⟨k, rfl⟩ := Int.eq_ofNat_of_zero_le h0
  rfl
theorem tn_more {a : Int} (n : Nat) (h0 : 0 ≤ a) : (a + (n : Int)).toNat - a.toNat = n := by rw [tn_add n h0]; exact Nat.add_sub_cancel_left ..
theorem tn_sum {k st : Int} {j : Nat} (hk : k = st + (j : Int)) (h0 : 0 ≤ st) : k.toNat = st.toNat + j := by rw [hk]; exact tn_add j h0
theorem tn_down {n : Nat} {k : Int} (h0 : 0 ≤ k) (h : k < n) : n - (k + 1).toNat < n - k.toNat := by
  rw [tn_succ h0]; exact Nat.sub_succ_lt_self _ _ (tn_lt h0 h)
theorem tn_pred {k : Int} (h : 0 < k) : (k - 1).toNat = k.toNat - 1 := by
  obtain ⟨j, rfl⟩ := Int.eq_ofNat_of_zero_le (Int.le_of_lt h)
  cases j with
  | zero => exact absurd h (Int.lt_irrefl _)
  | succ j =>
    show ((j : Int) + 1 - 1).toNat = j
    rw [Int.add_sub_cancel]; rfl
theorem tn_le {a : Int} {n : Nat} (h : a ≤ n) : a.toNat ≤ n := Int.toNat_le.mpr h
theorem tn_pos {a : Int} (h : 0 < a) : 0 < a.toNat := by
  obtain ⟨k, rfl⟩ := Int.eq_ofNat_of_zero_le (Int.le_of_lt h)
  exact Int.ofNat_lt.mp h
theorem le_take_drop {l : List Int} {a b m : Nat} (h : l.length ≤ m) : ((l.drop a).take b).length ≤ m := by
  rw [List.length_take, List.length_drop]; exact Nat.le_trans (Nat.min_le_right _ _) (Nat.le_trans (Nat.sub_le _ _) h)
theorem le_drop {l : List Int} {a m : Nat} (h : l.length ≤ m) : (l.drop a).length ≤ m := by
  rw [List.length_drop]; exact Nat.le_trans (Nat.sub_le _ _) h
theorem le_take {l : List Int} {a m : Nat} (h : l.length ≤ m) : (l.take a).length ≤ m := by
  rw [List.length_take]; exact Nat.le_trans (Nat.min_le_right _ _) h
theorem dl_len {x : List Int} (h : ¬ x.length = 0) : (x.drop (Int.toNat 1)).length + 1 = x.length := by
  rw [List.length_drop]; exact Nat.sub_add_cancel (Nat.pos_of_ne_zero h)
theorem lev_dl {x y : List Int} {N : Nat} (h : x.length + y.length < N + 1) (h1 : ¬ x.length = 0) : (x.drop (Int.toNat 1)).length + y.length < N := by
  have := dl_len h1; omega
theorem lev_dr {x y : List Int} {N : Nat} (h : x.length + y.length < N + 1) (h1 : ¬ y.length = 0) : x.length + (y.drop (Int.toNat 1)).length < N := by
  have := dl_len h1; omega
theorem lev_db {x y : List Int} {N : Nat} (h : x.length + y.length < N + 1) (h1 : ¬ y.length = 0) : (x.drop (Int.toNat 1)).length + (y.drop (Int.toNat 1)).length < N := by
  have := dl_len h1; have := List.length_drop (i := Int.toNat 1) (l := x); omega
theorem le_num {n k c : Nat} (h : n ≤ k) (q : Nat.ble k c = true) : n ≤ c := Nat.le_trans h (Nat.le_of_ble_eq_true q)
theorem le_via {n m k c : Nat} (e : n = m) (h : m ≤ k) (q : Nat.ble k c = true) : n ≤ c := e ▸ le_num h q
theorem sub_le_via {n m k c j : Nat} (e : n = m) (h : m ≤ k) (q : Nat.ble k c = true) : n - j ≤ c := Nat.le_trans (Nat.sub_le _ _) (le_via e h q)
theorem int_pos_succ (n : Nat) : (0 : Int) < (n : Int) + 1 := Int.lt_add_one_of_le (Int.natCast_nonneg n)
theorem tn_down2 {n : Nat} {k a : Int} (h : k ≤ a) (h0 : 0 ≤ k) (hn : a < n) : n - (a + 1).toNat < n - a.toNat := tn_down (Int.le_trans h0 h) hn
theorem lt_ite_l {k x y : Int} (h : k < if y < x then y else x) : k < x := by
  by_cases c : y < x
  · rw [if_pos c] at h; exact Int.lt_trans h c
  · rw [if_neg c] at h; exact h
theorem lt_ite_r {k x y : Int} (h : k < if y < x then y else x) : k < y := by
  by_cases c : y < x
  · rw [if_pos c] at h; exact h
  · rw [if_neg c] at h; exact Int.lt_of_lt_of_le h (Int.not_lt.mp c)
theorem not_lt_min {k x y : Int} (h : ¬ k < if y < x then y else x) : ¬ k < min x y := fun q => h (by
  by_cases c : y < x
  · rw [if_pos c]; exact Int.lt_of_lt_of_le q (Int.min_le_right ..)
  · rw [if_neg c]; exact Int.lt_of_lt_of_le q (Int.min_le_left ..))
/-- Python's < on lists of ints -/
noncomputable def ltL : List Int → List Int → Bool
  | [], [] => false
  | [], _ :: _ => true
  | _ :: _, [] => false
  | a :: r, b :: q => if a = b then ltL r q else decide (a < b)
theorem ints_at {vs : List Value} {ns : List Int} (h : IntsAre vs ns) : ∀ i (hi : i < ns.length), ∃ t, vs[i]? = some (.int ns[i] t) := by
  induction h with
  | nil => intro i hi; exact absurd hi (Nat.not_lt_zero _)
  | cons k t r ih =>
    intro i hi
    cases i with
    | zero => exact ⟨t, rfl⟩
    | succ i => simpa using ih i (by simpa using hi)



open PySem.MeetsSeq PySem.MeetsSeq3 AutoSeq1 in
theorem lt_loop (l b : Addr) (vs us : List Value) (ns ms : List Int) (hi : IntsAre vs ns) (hj : IntsAre us ms) (n n2 : Nat) (k : Nat) :
    ∀ i : Nat, i + k = ns.length → i ≤ ms.length → Meets (Builtin.«list.__eq__.loop» ⟨[.ref l, .ref b, rawInt i, rawInt 0], []⟩)
      (fun _ R s => s.heap.get? l = some { cls := .type "list", dict := none, data := .seq vs.toArray n, slots := #[] } ∧ s.heap.get? b = some { cls := .type "list", dict := none, data := .seq us.toArray n2, slots := #[] } ∧
        R (.ok (.ret (.bool (ltL (ns.drop i) (ms.drop i))))) s) := by
  have hl1 := hi.length
  have hl2 := hj.length
  induction k with
  | zero =>
    intro i hk hm prog w A R s h
    obtain ⟨hp, g, d, tk, os⟩ := s; obtain ⟨hl, hb, h⟩ := h
    wp_walk using wpAny_loadPart' hl, wpAny_loadPart' hb
    have hi1 : vs.toArray[((i : Nat) : Int).toNat]? = none := by simp; omega
    rw [hi1]
    wp_walk using wpAny_loadPart' hl, wpAny_loadPart' hb
    have e : (ltL (ns.drop i) (ms.drop i)) = decide (vs.toArray.size < us.toArray.size) := by
      have e1 : ns.drop i = [] := by simp; omega
      have hz : vs.toArray.size = i := by simp; omega
      rw [e1, hz]
      by_cases h2 : i < ms.length
      · have e2 : ms.drop i = ms[i] :: ms.drop (i + 1) := by simp
        have hd : (i < us.toArray.size) = True := by simp; omega
        rw [e2]; simp only [ltL, hd, decide_true, decide_false]
      · have e2 : ms.drop i = [] := by simp; omega
        have hd : ¬ (i < us.toArray.size) := by simp; omega
        rw [e2]; simp only [ltL]; exact (decide_eq_false hd).symm
    rw [e] at h
    exact h
  | succ k ih =>
    intro i hk hm prog w A R s h
    obtain ⟨hp, g, d, tk, os⟩ := s; obtain ⟨hl, hb, h⟩ := h
    wp_walk using wpAny_loadPart' hl, wpAny_loadPart' hb
    have hlt : i < ns.length := by omega
    obtain ⟨t, ht⟩ := ints_at hi i hlt
    have hi1 : vs.toArray[((i : Nat) : Int).toNat]? = some (.int ns[i] t) := by simpa using ht
    have e1 : ns.drop i = ns[i] :: ns.drop (i + 1) := by simp
    by_cases hlt2 : i < ms.length
    · obtain ⟨u, hu⟩ := ints_at hj i hlt2
      have hi2 : us.toArray[((i : Nat) : Int).toNat]? = some (.int ms[i] u) := by simpa using hu
      have e2 : ms.drop i = ms[i] :: ms.drop (i + 1) := by simp
      rw [hi1, hi2]
      have hc : ((i : Int) + 1) = ((i + 1 : Nat) : Int) := by push_cast; rfl
      rw [e1, e2] at h
      refine wpAny_bind (EqGives.int _ _ _ _ prog w _ _ _ _ ?_)
      by_cases hq : ns[i] = ms[i]
      · rw [if_pos (by rw [hq]; exact beq_self_eq_true _), hc]
        have hq' : ltL (ns[i] :: ns.drop (i + 1)) (ms[i] :: ms.drop (i + 1)) = ltL (ns.drop (i + 1)) (ms.drop (i + 1)) := by simp only [ltL, hq, if_true]
        rw [hq'] at h
        exact wpAny_pure ⟨plainId_quiet plain_eq_loop _, codeAny_builtin entry_eq_loop (by
          rw [Around.under_plainId plain_eq_loop _]
          exact ih (i + 1) (by omega) (by omega) prog w A R _ ⟨hl, hb, h⟩)⟩
      · rw [if_neg (by rw [beq_iff_eq]; exact hq)]
        wp_walk using wpAny_loadPart' hl, wpAny_loadPart' hb
        rw [hi1, hi2]
        dsimp only
        have hq' : ltL (ns[i] :: ns.drop (i + 1)) (ms[i] :: ms.drop (i + 1)) = decide (ns[i] < ms[i]) := by simp only [ltL]; rw [if_neg hq]
        rw [hq'] at h
        exact wpAny_bind (show wpAny (model prog w) A.in1 (compareOp .Lt (.int ns[i] t) (.int ms[i] u)) _ _ _ from lt_int (wpAny_pure h))
    · have hi2 : us.toArray[((i : Nat) : Int).toNat]? = none := by simp; omega
      have e2 : ms.drop i = [] := by simp; omega
      rw [hi1, hi2]
      wp_walk using wpAny_loadPart' hl, wpAny_loadPart' hb
      rw [e1, e2] at h
      have hd : (vs.toArray.size < us.toArray.size) = False := by simp; omega
      have e : ltL (ns[i] :: ns.drop (i + 1)) [] = decide (vs.toArray.size < us.toArray.size) := by simp only [ltL, hd, decide_true, decide_false]
      rw [e] at h
      exact h
open PySem.MeetsSeq PySem.MeetsSeq3 AutoSeq1 in
theorem list_lt (l b : Addr) (vs us : List Value) (ns ms : List Int) (hi : IntsAre vs ns) (hj : IntsAre us ms) (n n2 : Nat) :
    Meets (Builtin.«list.__lt__» ⟨[.ref l, .ref b], []⟩)
      (fun _ R s => s.heap.get? l = some { cls := .type "list", dict := none, data := .seq vs.toArray n, slots := #[] } ∧ s.heap.get? b = some { cls := .type "list", dict := none, data := .seq us.toArray n2, slots := #[] } ∧
        R (.ok (.ret (.bool (ltL ns ms)))) s) := by
  intro prog w A R s h
  obtain ⟨hp, g, d, tk, os⟩ := s; obtain ⟨hl, hb, h⟩ := h
  have f3 := AutoSeq1.sub_list_list
  wp_walk using wpAny_loadPart' hl, wpAny_loadPart' hb
  exact ⟨plainId_quiet plain_eq_loop _, codeAny_builtin entry_eq_loop (by
    rw [Around.under_plainId plain_eq_loop _]
    exact lt_loop l b vs us ns ms hi hj n n2 ns.length 0 (by omega) (by omega) prog w A R _ ⟨hl, hb, by simpa using h⟩)⟩
theorem lt_ints {prog : Program} {w : World} {A : Around} {E : Value → Shared → Prop} {s : Shared} {a b : Addr} {vs us : List Value} {ns ms : List Int} {n n2 : Nat} {h₀ : Heap} {L : Addr} {news : List (Addr × Obj)} {Q : Value → Shared → Prop} (N : News h₀ L s.heap news)
    (h1 : (a, listOf vs.toArray n) ∈ news) (hi : IntsAre vs ns) (h2 : (b, listOf us.toArray n2) ∈ news) (hj : IntsAre us ms) (hu : A.units < cLine)
    (h : Q (.bool (ltL ns ms)) s) : wpAny (model prog w) A (compareOp .Lt (.ref a) (.ref b)) Q E s :=
  cmp_ofLt (richCompare_meets_room (T := "list") ⟨_, (N _ h1).1, rfl⟩ ⟨_, (N _ h2).1, rfl⟩ PySem.F.slot_list_lt PySem.F.entry_list_lt (PySem.F.args_list_lt_2 _ _) (list_lt a b vs us ns ms hi hj n n2) ⟨(N _ h1).1, (N _ h2).1, (fun q => nomatch q), h⟩ hu)

open PySem.MeetsSeq PySem.MeetsSeq3 AutoSeq1 in
theorem gt_loop (l b : Addr) (vs us : List Value) (ns ms : List Int) (hi : IntsAre vs ns) (hj : IntsAre us ms) (n n2 : Nat) (k : Nat) :
    ∀ i : Nat, i + k = ns.length → i ≤ ms.length → Meets (Builtin.«list.__eq__.loop» ⟨[.ref l, .ref b, rawInt i, rawInt 4], []⟩)
      (fun _ R s => s.heap.get? l = some { cls := .type "list", dict := none, data := .seq vs.toArray n, slots := #[] } ∧ s.heap.get? b = some { cls := .type "list", dict := none, data := .seq us.toArray n2, slots := #[] } ∧
        R (.ok (.ret (.bool (ltL (ms.drop i) (ns.drop i))))) s) := by
  have hl1 := hi.length
  have hl2 := hj.length
  induction k with
  | zero =>
    intro i hk hm prog w A R s h
    obtain ⟨hp, g, d, tk, os⟩ := s; obtain ⟨hl, hb, h⟩ := h
    wp_walk using wpAny_loadPart' hl, wpAny_loadPart' hb
    have hi1 : vs.toArray[((i : Nat) : Int).toNat]? = none := by simp; omega
    rw [hi1]
    wp_walk using wpAny_loadPart' hl, wpAny_loadPart' hb
    have e : (ltL (ms.drop i) (ns.drop i)) = decide (vs.toArray.size > us.toArray.size) := by
      have e1 : ns.drop i = [] := by simp; omega
      have hz : vs.toArray.size = i := by simp; omega
      rw [e1, hz]
      by_cases h2 : i < ms.length
      · have e2 : ms.drop i = ms[i] :: ms.drop (i + 1) := by simp
        have hd : (i > us.toArray.size) = False := by simp; omega
        rw [e2]; simp only [ltL, hd, decide_true, decide_false]
      · have e2 : ms.drop i = [] := by simp; omega
        have hd : ¬ (i > us.toArray.size) := by simp; omega
        rw [e2]; simp only [ltL]; exact (decide_eq_false hd).symm
    rw [e] at h
    exact h
  | succ k ih =>
    intro i hk hm prog w A R s h
    obtain ⟨hp, g, d, tk, os⟩ := s; obtain ⟨hl, hb, h⟩ := h
    wp_walk using wpAny_loadPart' hl, wpAny_loadPart' hb
    have hlt : i < ns.length := by omega
    obtain ⟨t, ht⟩ := ints_at hi i hlt
    have hi1 : vs.toArray[((i : Nat) : Int).toNat]? = some (.int ns[i] t) := by simpa using ht
    have e1 : ns.drop i = ns[i] :: ns.drop (i + 1) := by simp
    by_cases hlt2 : i < ms.length
    · obtain ⟨u, hu⟩ := ints_at hj i hlt2
      have hi2 : us.toArray[((i : Nat) : Int).toNat]? = some (.int ms[i] u) := by simpa using hu
      have e2 : ms.drop i = ms[i] :: ms.drop (i + 1) := by simp
      rw [hi1, hi2]
      have hc : ((i : Int) + 1) = ((i + 1 : Nat) : Int) := by push_cast; rfl
      rw [e1, e2] at h
      refine wpAny_bind (EqGives.int _ _ _ _ prog w _ _ _ _ ?_)
      by_cases hq : ns[i] = ms[i]
      · rw [if_pos (by rw [hq]; exact beq_self_eq_true _), hc]
        have hq' : ltL (ms[i] :: ms.drop (i + 1)) (ns[i] :: ns.drop (i + 1)) = ltL (ms.drop (i + 1)) (ns.drop (i + 1)) := by simp only [ltL, hq, if_true]
        rw [hq'] at h
        exact wpAny_pure ⟨plainId_quiet plain_eq_loop _, codeAny_builtin entry_eq_loop (by
          rw [Around.under_plainId plain_eq_loop _]
          exact ih (i + 1) (by omega) (by omega) prog w A R _ ⟨hl, hb, h⟩)⟩
      · rw [if_neg (by rw [beq_iff_eq]; exact hq)]
        wp_walk using wpAny_loadPart' hl, wpAny_loadPart' hb
        rw [hi1, hi2]
        dsimp only
        have hq' : ltL (ms[i] :: ms.drop (i + 1)) (ns[i] :: ns.drop (i + 1)) = decide (ms[i] < ns[i]) := by simp only [ltL]; rw [if_neg (fun e => hq e.symm)]
        rw [hq'] at h
        exact wpAny_bind (show wpAny (model prog w) A.in1 (compareOp .Gt (.int ns[i] t) (.int ms[i] u)) _ _ _ from gt_int (wpAny_pure h))
    · have hi2 : us.toArray[((i : Nat) : Int).toNat]? = none := by simp; omega
      have e2 : ms.drop i = [] := by simp; omega
      rw [hi1, hi2]
      wp_walk using wpAny_loadPart' hl, wpAny_loadPart' hb
      rw [e1, e2] at h
      have hd : (vs.toArray.size > us.toArray.size) = True := by simp; omega
      have e : ltL [] (ns[i] :: ns.drop (i + 1)) = decide (vs.toArray.size > us.toArray.size) := by simp only [ltL, hd, decide_true, decide_false]
      rw [e] at h
      exact h
open PySem.MeetsSeq PySem.MeetsSeq3 AutoSeq1 in
theorem list_gt (l b : Addr) (vs us : List Value) (ns ms : List Int) (hi : IntsAre vs ns) (hj : IntsAre us ms) (n n2 : Nat) :
    Meets (Builtin.«list.__gt__» ⟨[.ref l, .ref b], []⟩)
      (fun _ R s => s.heap.get? l = some { cls := .type "list", dict := none, data := .seq vs.toArray n, slots := #[] } ∧ s.heap.get? b = some { cls := .type "list", dict := none, data := .seq us.toArray n2, slots := #[] } ∧
        R (.ok (.ret (.bool (ltL ms ns)))) s) := by
  intro prog w A R s h
  obtain ⟨hp, g, d, tk, os⟩ := s; obtain ⟨hl, hb, h⟩ := h
  have f3 := AutoSeq1.sub_list_list
  wp_walk using wpAny_loadPart' hl, wpAny_loadPart' hb
  exact ⟨plainId_quiet plain_eq_loop _, codeAny_builtin entry_eq_loop (by
    rw [Around.under_plainId plain_eq_loop _]
    exact gt_loop l b vs us ns ms hi hj n n2 ns.length 0 (by omega) (by omega) prog w A R _ ⟨hl, hb, by simpa using h⟩)⟩
theorem gt_ints {prog : Program} {w : World} {A : Around} {E : Value → Shared → Prop} {s : Shared} {a b : Addr} {vs us : List Value} {ns ms : List Int} {n n2 : Nat} {h₀ : Heap} {L : Addr} {news : List (Addr × Obj)} {Q : Value → Shared → Prop} (N : News h₀ L s.heap news)
    (h1 : (a, listOf vs.toArray n) ∈ news) (hi : IntsAre vs ns) (h2 : (b, listOf us.toArray n2) ∈ news) (hj : IntsAre us ms) (hu : A.units < cLine)
    (h : Q (.bool (ltL ms ns)) s) : wpAny (model prog w) A (compareOp .Gt (.ref a) (.ref b)) Q E s :=
  cmp_ofGt (richCompare_meets_room (T := "list") ⟨_, (N _ h1).1, rfl⟩ ⟨_, (N _ h2).1, rfl⟩ PySem.F.slot_list_gt PySem.F.entry_list_gt (PySem.F.args_list_gt_2 _ _) (list_gt a b vs us ns ms hi hj n n2) ⟨(N _ h1).1, (N _ h2).1, (fun q => nomatch q), h⟩ hu)

end
section
abbrev Led := List (Addr × Obj)
/-- a def's contract: called from a frame with this ledger it answers as Ret says -/
noncomputable def Con (w : World) (loose : List Str) (mean : ExcName → Option Value) (mg mb : Str → Option Value) (f : Addr) (n u : Nat) (vs : List Value) (news : Led) (Ret : (Value → Led → Prop) → Prop) : Prop :=
  ∀ (dp un : Nat) (gd : Option (List Code)) (cn : Str) (cs : Scope) (a : Addr) (ccd : Value) (cl : List (Str × Addr)) (outer : List Env) (A₀ : Around) (base h₀ : Heap) (L : Addr) (m : Str → Option Value) (s : Shared) (Q E : Value → Shared → Prop),
    Below A₀ base outer h₀ → Fr h₀ L s.heap m → (hd.heap_39 w.params).In h₀ → News h₀ L s.heap news → Top hd.view_39 loose mean mg mb h₀ → cs.kind = .function → dp + n < recursionLimit → un + u < cLine →
    Ret (fun r nw => ∀ h' tk', Fr h₀ L h' m → News h₀ L h' nw → Q r { s with heap := h', toks := tk' }) →
    wpAny (model PySem.Challenge.rw_np0039_01.row.prog w) (ktrTop dp un gd cn cs L a ccd cl outer) (call (.ref f) vs) Q E s
theorem fin {h₀ : Heap} {L : Addr} {m : Str → Option Value} {nw nw' : Led} {s : Shared} {r r' : Value} {Q : Value → Shared → Prop} {h' : Heap} {tk' : Nat}
   (hret : ∀ h' tk', Fr h₀ L h' m → News h₀ L h' nw → Q r { s with heap := h', toks := tk' }) (e : r' = r) (F : Fr h₀ L h' m) (N : News h₀ L h' nw') (hs : ∀ p ∈ nw, p ∈ nw') : Q r' { s with heap := h', toks := tk' } :=
  e ▸ hret h' tk' F (fun p hp => N p (hs p hp))
section
variable {prog : Program} {w : World} {A : Around} {E : Value → Shared → Prop} {s : Shared} {h₀ : Heap} {L d e : Addr} {m : Str → Option Value} {news news' : Led} {vs : List Value} {ns : List Int} {n n' : Nat}
theorem ne_nilK {Q : Value → Shared → Prop} (N : News h₀ L s.heap news) (h1 : (d, listOf vs.toArray n) ∈ news) (hi : IntsAre vs ns) (h2 : (e, listOf #[] n') ∈ news) (hu : A.units + 64 < cLine)
    (h : Q (.bool (decide (0 < ns.length))) s) : wpAny (model prog w) A (compareOp .NotEq (.ref d) (.ref e)) Q E s := by
  refine ne_intsK (PySem.IsL.isList (n := n) (N _ h1).1) hi (us := []) (PySem.IsL.isList (n := n') (N _ h2).1) .nil hu ?_
  have : (!decide (ns = [])) = decide (0 < ns.length) := by cases ns <;> simp
  rw [this]; exact h
theorem eq_nilK {Q : Value → Shared → Prop} (N : News h₀ L s.heap news) (h1 : (d, listOf vs.toArray n) ∈ news) (hi : IntsAre vs ns) (h2 : (e, listOf #[] n') ∈ news) (hu : A.units + 64 < cLine)
    (h : Q (.bool (decide (ns.length = 0))) s) : wpAny (model prog w) A (compareOp .Eq (.ref d) (.ref e)) Q E s := by
  refine eq_intsK (PySem.IsL.isList (n := n) (N _ h1).1) hi (us := []) (PySem.IsL.isList (n := n') (N _ h2).1) .nil hu ?_
  have : decide (ns = []) = decide (ns.length = 0) := by cases ns <;> simp
  rw [this]; exact h
theorem pop0K {u : Tok} {Q : Value → Shared → Prop} (F : Fr h₀ L s.heap m) (N : News h₀ L s.heap news) (U : Upd d (listOf vs.toArray n) (listOf vs.tail.toArray (n + 1)) news news') (hi : IntsAre vs ns) (h0 : 0 < ns.length) (hz : ns.length ≤ 1000)
    (h : ∀ h' t, Fr h₀ L h' m → News h₀ L h' news' → IntsAre vs.tail ns.tail → Q (.int (ns.getD 0 0) t) { s with heap := h' }) : wpAny (model prog w) A (call (.builtin "list.pop") [.ref d, .int 0 u]) Q E s := by
  cases hi with
  | nil => exact absurd h0 (Nat.lt_irrefl _)
  | @cons k t vs' ns' hr =>
    refine kl_popAt (k := 0) (p := []) (q := vs') (y := .int k t) F N rfl ?_ rfl U ?_ (fun h' F' N' => h h' t F' N' hr)
    · simp [seqIndex?]
    · have := hr.length
      simp only [List.length_cons] at hz ⊢
      rw [PySem.sizeLine_eq]; omega
end

section
variable {w : World} {loose : List Str} {mean : ExcName → Option Value} {mg mb : Str → Option Value}
theorem con_use {f : Addr} {n u : Nat} {vs : List Value} {news : Led} {Ret : (Value → Led → Prop) → Prop}
    {dp un : Nat} {gd : Option (List Code)} {cn : Str} {cs : Scope} {a : Addr} {ccd : Value} {cl : List (Str × Addr)} {outer : List Env} {A₀ : Around} {base h₀ : Heap} {L : Addr} {m : Str → Option Value} {s : Shared} {Q E : Value → Shared → Prop}
    (N : News h₀ L s.heap news) (B : Below A₀ base outer h₀) (F : Fr h₀ L s.heap m) (X : (hd.heap_39 w.params).In h₀) (T : Top hd.view_39 loose mean mg mb h₀) (hk : cs.kind = .function) (C : Con w loose mean mg mb f n u vs news Ret) (hd : dp + n < recursionLimit) (hu : un + u < cLine)
    (h : Ret (fun r nw => ∀ h' tk', Fr h₀ L h' m → News h₀ L h' nw → Q r { s with heap := h', toks := tk' })) :
    wpAny (model PySem.Challenge.rw_np0039_01.row.prog w) (ktrTop dp un gd cn cs L a ccd cl outer) (call (.ref f) vs) Q E s :=
  C dp un gd cn cs a ccd cl outer A₀ base h₀ L m s Q E B F X N T hk hd hu h
theorem room0 {d d' n r : Nat} (e : d' = d) (h : d + n < r) : d' < r := by
  subst e; exact Nat.lt_of_le_of_lt (Nat.le_add_right _ _) h
theorem units_ok {u' u k n r : Nat} (j : Nat) (e : u' = u + j) (h : u + n < r) (q : Nat.ble (j + k) n = true) : u' + k < r := by
  subst e
  rw [Nat.add_assoc]
  exact Nat.lt_of_le_of_lt (Nat.add_le_add_left (Nat.le_of_ble_eq_true q) _) h
theorem room_ok {d d' n a b r : Nat} (h : d + n < r) (e : d' = d) (q : Nat.ble (a + b) n = true) : d' + a + b < r := by
  subst e
  rw [Nat.add_assoc]
  exact Nat.lt_of_le_of_lt (Nat.add_le_add_left (Nat.le_of_ble_eq_true q) _) h
theorem news_add {h₀ h : Heap} {L : Addr} {nw nw' : Led} {p : Addr × Obj} (N₀ : News h₀ L h nw') (N : News h₀ L h nw) (hp : p ∈ nw') : News h₀ L h (p :: nw) := fun q hq => (List.mem_cons.mp hq).elim (fun e => e ▸ N₀ p hp) (N q)
theorem news_sub {h₀ h : Heap} {L : Addr} {nw nw' : Led} (N : News h₀ L h nw') (hs : ∀ p ∈ nw, p ∈ nw') : News h₀ L h nw := fun p hp => N p (hs p hp)
end
section
variable {prog : Program} {w : World} {A : Around} {E : Value → Shared → Prop} {s : Shared} {h₀ : Heap} {L l : Addr} {m : Str → Option Value} {news : Led} {value slice : PySem.Expr} {vs : List Value} {ns : List Int} {n : Nat} {x y : Int} {t u : Tok} {Q : Value → Shared → Prop}
theorem kmk_size1000 (hi : IntsAre vs ns) (h : ns.length ≤ 1000) : vs.toArray.size ≤ sizeLine := kmk_sz hi (by rw [PySem.sizeLine_eq]; omega)
theorem sl_upto (F : Fr h₀ L s.heap m) (N : News h₀ L s.heap news) (hm : (l, listOf vs.toArray n) ∈ news) (hi : IntsAre vs ns) (h0 : 0 ≤ y) (hz : ns.length ≤ 1000)
    (h : ∀ D ws h', Fr h₀ L h' m → News h₀ L h' ((D, listOf (List.toArray ws) 0) :: news) → (∀ p ∈ news, p.1 < D) → IntsAre ws (ns.take y.toNat) → (ns.take y.toNat).length = min y.toNat ns.length → Q (.ref D) { s with heap := h' })
    (hs : subscripted slice false (.ref l) (.ref s.heap.objs.size) = operate [.ref s.heap.objs.size, .ref l] (getItem (.ref l) (.ref s.heap.objs.size))) (ht : ∀ r, letTemporaryGo value (.ref l) r = pure ()) :
    wpAny (model prog w) A (subscriptTail value slice (.ref l) (.ref s.heap.objs.size)) Q E { s with heap := s.heap.push { cls := .type "slice", data := .fields #[.none, .int y u, .none] } } :=
  kmk_slice_ints F N (PySem.IsL.isList (n := n) (N _ hm).1) IsPart.none (IsPart.int _ _) hi (kmk_upto hi h0) rfl (fun D ws h' F' N' l1 hI _ _ => h D ws h' F' N' l1 hI (List.length_take ..)) hs ht (kmk_size1000 hi hz)
theorem sl_from (F : Fr h₀ L s.heap m) (N : News h₀ L s.heap news) (hm : (l, listOf vs.toArray n) ∈ news) (hi : IntsAre vs ns) (h0 : 0 ≤ x) (hz : ns.length ≤ 1000)
    (h : ∀ D ws h', Fr h₀ L h' m → News h₀ L h' ((D, listOf (List.toArray ws) 0) :: news) → (∀ p ∈ news, p.1 < D) → IntsAre ws (ns.drop x.toNat) → (ns.drop x.toNat).length = ns.length - x.toNat → Q (.ref D) { s with heap := h' })
    (hs : subscripted slice false (.ref l) (.ref s.heap.objs.size) = operate [.ref s.heap.objs.size, .ref l] (getItem (.ref l) (.ref s.heap.objs.size))) (ht : ∀ r, letTemporaryGo value (.ref l) r = pure ()) :
    wpAny (model prog w) A (subscriptTail value slice (.ref l) (.ref s.heap.objs.size)) Q E { s with heap := s.heap.push { cls := .type "slice", data := .fields #[.int x u, .none, .none] } } :=
  kmk_slice_ints F N (PySem.IsL.isList (n := n) (N _ hm).1) (IsPart.int _ _) IsPart.none hi (kmk_from hi h0) rfl (fun D ws h' F' N' l1 hI _ _ => h D ws h' F' N' l1 hI (List.length_drop ..)) hs ht (kmk_size1000 hi hz)
theorem sl_neg (F : Fr h₀ L s.heap m) (N : News h₀ L s.heap news) (hm : (l, listOf vs.toArray n) ∈ news) (hi : IntsAre vs ns) (h0 : x < 0) (hz : ns.length ≤ 1000)
    (h : ∀ D ws h', Fr h₀ L h' m → News h₀ L h' ((D, listOf (List.toArray ws) 0) :: news) → (∀ p ∈ news, p.1 < D) → IntsAre ws (ns.drop (ns.length - (-x).toNat)) → (ns.drop (ns.length - (-x).toNat)).length = ns.length - (ns.length - (-x).toNat) → Q (.ref D) { s with heap := h' })
    (hs : subscripted slice false (.ref l) (.ref s.heap.objs.size) = operate [.ref s.heap.objs.size, .ref l] (getItem (.ref l) (.ref s.heap.objs.size))) (ht : ∀ r, letTemporaryGo value (.ref l) r = pure ()) :
    wpAny (model prog w) A (subscriptTail value slice (.ref l) (.ref s.heap.objs.size)) Q E { s with heap := s.heap.push { cls := .type "slice", data := .fields #[.int x u, .none, .none] } } :=
  kmk_slice_ints F N (PySem.IsL.isList (n := n) (N _ hm).1) (IsPart.int _ _) IsPart.none hi (kmk_from_neg hi h0) rfl (fun D ws h' F' N' l1 hI _ _ => h D ws h' F' N' l1 hI (List.length_drop ..)) hs ht (kmk_size1000 hi hz)
theorem sl_run (F : Fr h₀ L s.heap m) (N : News h₀ L s.heap news) (hm : (l, listOf vs.toArray n) ∈ news) (hi : IntsAre vs ns) (h0 : 0 ≤ x) (h1 : 0 ≤ y) (hz : ns.length ≤ 1000)
    (h : ∀ D ws h', Fr h₀ L h' m → News h₀ L h' ((D, listOf (List.toArray ws) 0) :: news) → (∀ p ∈ news, p.1 < D) → IntsAre ws ((ns.drop x.toNat).take (y.toNat - x.toNat)) → ((ns.drop x.toNat).take (y.toNat - x.toNat)).length = min (y.toNat - x.toNat) (ns.length - x.toNat) → Q (.ref D) { s with heap := h' })
    (hs : subscripted slice false (.ref l) (.ref s.heap.objs.size) = operate [.ref s.heap.objs.size, .ref l] (getItem (.ref l) (.ref s.heap.objs.size))) (ht : ∀ r, letTemporaryGo value (.ref l) r = pure ()) :
    wpAny (model prog w) A (subscriptTail value slice (.ref l) (.ref s.heap.objs.size)) Q E { s with heap := s.heap.push { cls := .type "slice", data := .fields #[.int x t, .int y u, .none] } } := by
  have e : (ns.drop x.toNat).take (min y.toNat ns.length - x.toNat) = (ns.drop x.toNat).take (y.toNat - x.toNat) := by
    rw [List.take_eq_take_iff, List.length_drop]
    rcases Nat.le_total y.toNat ns.length with q | q
    · rw [Nat.min_eq_left q]
    · rw [Nat.min_eq_right q, Nat.min_self, Nat.min_eq_right (Nat.sub_le_sub_right q _)]
  exact kmk_slice_ints F N (PySem.IsL.isList (n := n) (N _ hm).1) (IsPart.int _ _) (IsPart.int _ _) hi (e ▸ kmk_run hi h0 h1) rfl (fun D ws h' F' N' l1 hI _ _ => h D ws h' F' N' l1 hI (by rw [List.length_take, List.length_drop])) hs ht (kmk_size1000 hi hz)
theorem len_i (N : News h₀ L s.heap news) (hm : (l, listOf vs.toArray n) ∈ news) (hi : IntsAre vs ns) (hz : ns.length ≤ 1000) (h : Q (.int ns.length (s.toks + 1)) { s with toks := s.toks + 1 + 1 }) : wpAny (model prog w) A (call (.builtin "len") [.ref l]) Q E s := by
  have e : vs.toArray.size = ns.length := by rw [List.size_toArray, hi.length]
  exact Calls.call_len_list (PySem.IsL.isList (n := n) (N _ hm).1) (by rw [e]; omega) (by rw [e]; exact h)
theorem len_w {its : Array Value} {k : Nat} (N : News h₀ L s.heap news) (hm : (l, listOf its n) ∈ news) (hk : its.size = k) (hz : (k : Int) < 2 ^ 63) (h : Q (.int k (s.toks + 1)) { s with toks := s.toks + 1 + 1 }) : wpAny (model prog w) A (call (.builtin "len") [.ref l]) Q E s :=
  Calls.call_len_list (PySem.IsL.isList (n := n) (N _ hm).1) (by rw [hk]; exact hz) (by rw [hk]; exact h)
theorem sub_w {its : Array Value} {k : Int} {v : Value} (N : News h₀ L s.heap news) (hm : (l, listOf its n) ∈ news) (h0 : 0 ≤ k) (hfit : k < 2 ^ 63) (hx : its.toList[k.toNat]? = some v) (h : Q v s)
    (hs : subscripted slice false (.ref l) (.int k u) = operate [.ref l, .int k u] (getItem (.ref l) (.int k u)) := by with_unfolding_all rfl) :
    wpAny (model prog w) A (subscriptTail value slice (.ref l) (.int k u)) Q E s :=
  tail_any (PySem.IsL.isList (n := n) (N _ hm).1).typeIs slot_list_getitem.lookup (wpAny_getItem_list (PySem.IsL.isList (n := n) (N _ hm).1) h0 hfit (by rw [← Array.getElem?_toList]; exact hx) h) hs
end
theorem is_int_ref {M : Model} {A : Around} {E : Value → Shared → Prop} {s : Shared} {k : Int} {t : Tok} {a : Addr} {Q : Value → Shared → Prop} (h : Q (.bool false) s) : wpAny M A (compareOp .Is (.int k t) (.ref a)) Q E s := wpAny_is_other (by rfl) (by intro x; cases x) h
theorem isNot_int_ref {M : Model} {A : Around} {E : Value → Shared → Prop} {s : Shared} {k : Int} {t : Tok} {a : Addr} {Q : Value → Shared → Prop} (h : Q (.bool true) s) : wpAny M A (compareOp .IsNot (.int k t) (.ref a)) Q E s := wpAny_isNot_other (by rfl) (by intro x; cases x) h
theorem off1_lt {r : Addr} : ∀ {l : Led}, AllLt r l → LCg.Off1 r l
  | [], _ => trivial
  | _ :: _, h => ⟨Nat.ne_of_lt h.1, off1_lt h.2⟩
theorem off1_of {r : Addr} {l : Led} (h : ∀ p ∈ l, p.1 ≠ r) : LCg.Off1 r l := by
  induction l with
  | nil => exact trivial
  | cons p l ih => exact ⟨h p (.head _), ih fun q hq => h q (.tail _ hq)⟩
theorem Off1.mem {r : Addr} : ∀ {l : Led}, LCg.Off1 r l → ∀ p ∈ l, p.1 ≠ r
  | [], _, _, hp => (nomatch hp)
  | _ :: _, h, p, hp => by
    rcases List.mem_cons.mp hp with rfl | hp
    · exact h.1
    · exact Off1.mem h.2 p hp
theorem sub_new {q : Addr × Obj} {l l' : Led} (h : ∀ p ∈ l, p ∈ l') : ∀ p ∈ q :: l, p ∈ q :: l' := fun _ hp => (List.mem_cons.mp hp).elim (fun e => e ▸ .head _) (fun hp => .tail _ (h _ hp))
/-- T for true, NIL for false -/
abbrev tn (b : Bool) : Value := .ref (if b then 60 else 57)
/-- small letters, ASCII alone -/
noncomputable def low (c : Int) : Int := if 65 ≤ c ∧ c ≤ 90 then c + 32 else c
/-- the codes as they are compared: with cases alike, or not -/
noncomputable def fd (b : Bool) (ns : List Int) : List Int := if b then ns.map low else ns
theorem fd_length (b : Bool) (ns : List Int) : (fd b ns).length = ns.length := by cases b <;> simp [fd]
section
variable {prog : Program} {w : World} {A : Around} {E : Value → Shared → Prop} {s : Shared} {b : Bool} {Q : Value → Shared → Prop}
theorem k57c (p : Params) : ((hd.heap_39 p).lookup 57).map (·.cls) = some (.ref 51) := by kernel_rfl
theorem k60c (p : Params) : ((hd.heap_39 p).lookup 60).map (·.cls) = some (.ref 51) := by kernel_rfl
theorem k57 (p : Params) : ∃ o, (hd.heap_39 p).lookup 57 = some o ∧ o.cls ≠ .type "tuple" := by
  obtain ⟨o, h1, h2⟩ := Option.map_eq_some_iff.mp (k57c p)
  exact ⟨o, h1, fun h => by rw [h] at h2; cases h2⟩
theorem k60 (p : Params) : ∃ o, (hd.heap_39 p).lookup 60 = some o ∧ o.cls ≠ .type "tuple" := by
  obtain ⟨o, h1, h2⟩ := Option.map_eq_some_iff.mp (k60c p)
  exact ⟨o, h1, fun h => by rw [h] at h2; cases h2⟩
theorem isNot_tn (X : (hd.heap_39 w.params).In s.heap) (h : Q (.bool b) s) : wpAny (model prog w) A (compareOp .IsNot (tn b) (.ref 57)) Q E s := by
  obtain ⟨o1, h1, _⟩ := k57 w.params
  obtain ⟨o2, h2, h3⟩ := k60 w.params
  cases b with
  | true => exact wpAny_isNot_ref_other (x := 60) (y := 57) (by decide) (X _ _ h2) (X _ _ h1) h3 h
  | false => exact wpAny_isNot_ref_self h
theorem is_tn60 (X : (hd.heap_39 w.params).In s.heap) (h : Q (.bool b) s) : wpAny (model prog w) A (compareOp .Is (tn b) (.ref 60)) Q E s := by
  obtain ⟨o1, h1, h3⟩ := k57 w.params
  obtain ⟨o2, h2, _⟩ := k60 w.params
  cases b with
  | true => exact wpAny_is_ref_self h
  | false => exact wpAny_is_ref_other (x := 57) (y := 60) (by decide) (X _ _ h1) (X _ _ h2) h3 h
end
/-- two texts, and T where cases are alike -/
noncomputable def flagged (x y : Addr) (b : Bool) : Array Value := if b then #[.ref x, .ref y, .ref 60] else #[.ref x, .ref y]
theorem flagged0 (x y : Addr) (b : Bool) : (flagged x y b).toList[(0 : Int).toNat]? = some (.ref x) := by cases b <;> rfl
theorem flagged1 (x y : Addr) (b : Bool) : (flagged x y b).toList[(1 : Int).toNat]? = some (.ref y) := by cases b <;> rfl
section
variable {prog : Program} {w : World} {A : Around} {E : Value → Shared → Prop} {Q : Flow → Shared → Prop} {s : Shared} {env : Env} {h₀ : Heap} {L : Addr} {news : Led}
noncomputable def WEnd {σ : Type} (h₀ : Heap) (L : Addr) (s : Shared) (Led : σ → List (Addr × Obj)) (ps : σ → List (Str × Value)) (stored : List Str) (m₀ : Str → Option Value) (P : σ → Prop) (μ : σ → Nat) (c : σ) (s₂ : Shared) : Prop := KswEnd h₀ L s Led ps (fun _ => True) stored m₀ P μ c s₂
noncomputable def WPost {σ : Type} (h₀ : Heap) (L : Addr) (s : Shared) (Led : σ → List (Addr × Obj)) (ps : σ → List (Str × Value)) (stored : List Str) (m₀ : Str → Option Value) (P : σ → Prop) (μ : σ → Nat) (Q : Flow → Shared → Prop) (c : σ) (f : Flow) (s₂ : Shared) : Prop :=
  match f with
  | .ret v => Q (.ret v) s₂
  | .brk => Q .next s₂
  | _ => WEnd h₀ L s Led ps stored m₀ P μ c s₂
theorem wEnd {σ : Type} {Led : σ → List (Addr × Obj)} {ps : σ → List (Str × Value)} {stored : List Str} {m₀ m' : Str → Option Value} {P : σ → Prop} {μ : σ → Nat} {c : σ} {h' : Heap} {tk : Nat} {news' : List (Addr × Obj)} (c' : σ)
    (F : Fr h₀ L h' m') (N : News h₀ L h' news') (hn : ∀ p ∈ Led c', p ∈ news') (hk : ∀ p ∈ ps c', m' p.1 = some p.2) (hr : ∀ z, stored.contains z = false → m' z = m₀ z) (hp : P c') (hm : μ c' < μ c) :
    WEnd h₀ L s Led ps stored m₀ P μ c { s with heap := h', toks := tk } := ksw_end c' F N hn trivial hk (fun z _ h => hr z h) hp hm
theorem whileW {σ : Type} {test : Expr} {body : List Stmt} {pos : Pos} {m₀ : Str → Option Value} (Led : σ → List (Addr × Obj)) (ps : σ → List (Str × Value)) (stored : List Str) (P : σ → Prop) (μ : σ → Nat) (c₀ : σ)
    (F : Fr h₀ L s.heap m₀) (N : News h₀ L s.heap news) (hN : ∀ p ∈ Led c₀, p ∈ news) (hk : ∀ p ∈ ps c₀, m₀ p.1 = some p.2) (hp : P c₀)
    (turn : ∀ (c : σ) (u : Str → Option Value) h tk, P c → Fr h₀ L h (kstB (fun z => if stored.contains z then u z else m₀ z) (ps c)) → News h₀ L h (Led c) →
      wpAny (model prog w) A (isTrue test env (eval test env)) (fun b s₂ =>
        if b = true then wpAny (model prog w) A (execs body env) (WPost h₀ L s Led ps stored m₀ P μ Q c) E s₂ else Q .next s₂) E { s with heap := h, toks := tk })
    (hE : PassesOwn (model prog w) A env E := by passes_own) :
    wpAny (model prog w) A (exec (.While test body [] pos) env) Q E s := by
  refine ksw_while Led ps (fun _ => True) stored P μ c₀ F (fun p h => N p (hN p h)) trivial hk hp (fun c u h tk _ hp F N => wpAny_mono (turn c u h tk hp F N) (fun b s₂ p => ?_) fun _ _ x => x) hE
  cases b with
  | false => exact p
  | true =>
    simp only [if_true] at p ⊢
    refine wpAny_mono p (fun f s₃ q => ?_) fun _ _ x => x
    cases f <;> exact q
theorem whileK {σ : Type} {test : Expr} {body : List Stmt} {pos : Pos} {m₀ : Str → Option Value} (ps : σ → List (Str × Value)) (stored : List Str) (P : σ → Prop) (μ : σ → Nat) (c₀ : σ)
    (F : Fr h₀ L s.heap m₀) (N : News h₀ L s.heap news) (hk : ∀ p ∈ ps c₀, m₀ p.1 = some p.2) (hp : P c₀)
    (turn : ∀ (c : σ) (u : Str → Option Value) h tk, P c → Fr h₀ L h (kstB (fun z => if stored.contains z then u z else m₀ z) (ps c)) → News h₀ L h news →
      wpAny (model prog w) A (isTrue test env (eval test env)) (fun b s₂ =>
        if b = true then wpAny (model prog w) A (execs body env) (WPost h₀ L s (fun _ => news) ps stored m₀ P μ Q c) E s₂ else Q .next s₂) E { s with heap := h, toks := tk })
    (hE : PassesOwn (model prog w) A env E := by passes_own) :
    wpAny (model prog w) A (exec (.While test body [] pos) env) Q E s :=
  whileW (fun _ => news) ps stored P μ c₀ F N (fun _ h => h) hk hp turn hE
noncomputable def FEnd {σ : Type} (h₀ : Heap) (L : Addr) (Led : σ → List (Addr × Obj)) (ps : σ → List (Str × Value)) (x : Str) (stored : List Str) (m₀ : Str → Option Value) (P : List Int → σ → Prop) (pre : List Int) (own : List (Addr × Obj)) (adr : List Addr) (s₁ s₂ : Shared) : Prop :=
  InvEndN h₀ L (KstS Led ps (fun _ => True) x stored m₀ P pre) own adr s₁ s₂
noncomputable def FPost {σ : Type} (h₀ : Heap) (L : Addr) (Led : σ → List (Addr × Obj)) (ps : σ → List (Str × Value)) (x : Str) (stored : List Str) (m₀ : Str → Option Value) (P : List Int → σ → Prop) (pre : List Int) (own : List (Addr × Obj)) (adr : List Addr) (s₁ : Shared) (Q : Flow → Shared → Prop) (f : Flow) (s₂ : Shared) : Prop :=
  match f with
  | .ret v => Q (.ret v) s₂
  | .brk => Q .next s₂
  | _ => FEnd h₀ L Led ps x stored m₀ P pre own adr s₁ s₂
theorem fEnd {σ : Type} {Led : σ → List (Addr × Obj)} {ps : σ → List (Str × Value)} {x : Str} {stored : List Str} {m₀ : Str → Option Value} {P : List Int → σ → Prop} {pre : List Int} (c : σ) {m' : Str → Option Value} {own news' : List (Addr × Obj)} {adr : List Addr} {s₁ : Shared} {h' : Heap} {tk : Nat}
    (F : Fr h₀ L h' m') (N : News h₀ L h' news') (hn : ∀ p ∈ Led c, p ∈ news') (ho : ∀ p ∈ own, p ∈ news') (ha : (Led c).map (·.1) = adr) (hk : ∀ p ∈ ps c, m' p.1 = some p.2) (hr : ∀ z, z ≠ x → stored.contains z = false → m' z = m₀ z) (hp : P pre c) :
    FEnd h₀ L Led ps x stored m₀ P pre own adr s₁ { s₁ with heap := h', toks := tk } :=
  kst_end c F N hn ho ha trivial hk (fun z h _ h3 => hr z h h3) hp
theorem forRange {σ : Type} {x : Str} {body : List Stmt} {r : Addr} {a₀ b₀ : Int} {t₀ u₀ v₀ : Tok} {n : Nat} {m₀ : Str → Option Value} (Led : σ → List (Addr × Obj)) (ps : σ → List (Str × Value)) (stored : List Str) (P : List Int → σ → Prop) (c₀ : σ)
    (hh : A.handled = none) (hr : IsRange s.heap r a₀ b₀ 1 t₀ u₀ v₀) (hsmall : Builtin.Range.small a₀ b₀ 1 = true) (hn : Builtin.Range.rangeSize a₀ b₀ 1 = (n : Int)) (F : Fr h₀ env.locals s.heap m₀) (N : News h₀ env.locals s.heap news) (hN : ∀ p ∈ Led c₀, p ∈ news) (hk : ∀ p ∈ ps c₀, m₀ p.1 = some p.2) (hp : P [] c₀)
    (turn : ∀ (c : σ) (pre : List Int) (k : Int) t (u : Str → Option Value) h tk own, k = a₀ + (pre.length : Int) → pre.length < n → OwnOff own ((Led c₀).map (·.1)) → P pre c →
      Fr h₀ env.locals h (fun y => if y = x then some (.int k t) else kstB (fun z => if stored.contains z then u z else m₀ z) (ps c) y) → News h₀ env.locals h (Led c ++ own) →
      wpAny (model prog w) A (execs body env) (FPost h₀ env.locals Led ps x stored m₀ P (pre ++ [k]) own ((Led c₀).map (·.1)) { s with heap := h, toks := tk } Q) E { s with heap := h, toks := tk })
    (done : ∀ (c : σ) (u : Str → Option Value) h tk, P (rangeKs a₀ n) c → Fr h₀ env.locals h (fun y => if y = x then u y else kstB (fun z => if stored.contains z then u z else m₀ z) (ps c) y) → News h₀ env.locals h (Led c) → Q .next { s with heap := h, toks := tk }) :
    wpAny (model prog w) A (pyIter (.ref r)) (fun it s₂ => LoopAtV prog w A h₀ env x body Q E it s₂) E s := by
  refine kst_range Led ps (fun _ => True) stored P c₀ hh hr hsmall hn F (fun p h => N p (hN p h)) trivial hk hp (fun c pre k t u h tk own e hl ho _ hp F N => wpAny_mono (turn c pre k t u h tk own e hl ho hp F N) (fun f s₃ q => ?_) fun _ _ x => x) (fun c u h tk _ hp F N => done c u h tk hp F N)
  cases f <;> exact q
theorem forList {σ : Type} {x : Str} {body : List Stmt} {l : Addr} {vs : List Value} {ns : List Int} {nn : Nat} {m₀ : Str → Option Value} (Led : σ → List (Addr × Obj)) (ps : σ → List (Str × Value)) (stored : List Str) (P : List Int → σ → Prop) (c₀ : σ)
    (hh : A.handled = none) (hl : ∀ c : σ, (l, listOf vs.toArray nn) ∈ Led c) (hi : IntsAre vs ns) (F : Fr h₀ env.locals s.heap m₀) (N : News h₀ env.locals s.heap news) (hN : ∀ p ∈ Led c₀, p ∈ news) (hk : ∀ p ∈ ps c₀, m₀ p.1 = some p.2) (hp : P [] c₀)
    (turn : ∀ (c : σ) pre post n t (u : Str → Option Value) h tk own, ns = pre ++ n :: post → n ∈ ns → OwnOff own ((Led c₀).map (·.1)) → P pre c →
      Fr h₀ env.locals h (fun y => if y = x then some (.int n t) else kstB (fun z => if stored.contains z then u z else m₀ z) (ps c) y) → News h₀ env.locals h (Led c ++ own) →
      wpAny (model prog w) A (execs body env) (FPost h₀ env.locals Led ps x stored m₀ P (pre ++ [n]) own ((Led c₀).map (·.1)) { s with heap := h, toks := tk } Q) E { s with heap := h, toks := tk })
    (done : ∀ (c : σ) (u : Str → Option Value) h tk, P ns c → Fr h₀ env.locals h (fun y => if y = x then u y else kstB (fun z => if stored.contains z then u z else m₀ z) (ps c) y) → News h₀ env.locals h (Led c) → Q .next { s with heap := h, toks := tk }) :
    wpAny (model prog w) A (pyIter (.ref l)) (fun it s₂ => LoopAtV prog w A h₀ env x body Q E it s₂) E s := by
  refine kst_listL Led ps (fun _ => True) stored P c₀ hh hl hi F (fun p h => N p (hN p h)) trivial hk hp (fun c pre post n t u h tk own e hl ho _ hp F N => wpAny_mono (turn c pre post n t u h tk own e hl ho hp F N) (fun f s₃ q => ?_) fun _ _ x => x) (fun c u h tk _ hp F N => done c u h tk hp F N)
  cases f <;> exact q
end
end
section
/-- the length of the common beginning -/
noncomputable def cpl : List Int → List Int → Nat
  | a :: r, b :: q => if a = b then cpl r q + 1 else 0
  | _, _ => 0
/-- compare-strings' answer for texts that differ -/
noncomputable def cmpv (l r : List Int) : Int := if ltL l r then 0 - (cpl l r : Int) - 1 else (cpl l r : Int) + 1
theorem pref_eq (b : Bool) (ns1 ns2 : List Int) : tn (decide ((fd b ns2).take ((fd b ns1).length : Int).toNat = fd b ns1)) = tn (decide ((fd b ns2).take ns1.length = fd b ns1)) := by
  rw [fd_length, Int.toNat_natCast]
theorem suff_in {b : Bool} {ns1 ns2 : List Int} (h : ((fd b ns1).length : Int) ≤ ((fd b ns2).length : Int)) :
    tn (decide ((fd b ns2).drop (((fd b ns2).length : Int) - ((fd b ns1).length : Int)).toNat = fd b ns1)) = tn (decide (ns1.length ≤ ns2.length ∧ (fd b ns2).drop (ns2.length - ns1.length) = fd b ns1)) := by
  simp only [fd_length] at h ⊢
  have : ns1.length ≤ ns2.length := Int.ofNat_le.mp h
  rw [show ((ns2.length : Int) - (ns1.length : Int)).toNat = ns2.length - ns1.length from Int.toNat_sub _ _]
  simp only [this, true_and]
theorem suff_out {b : Bool} {ns1 ns2 : List Int} (h : ¬ ((fd b ns1).length : Int) ≤ ((fd b ns2).length : Int)) :
    tn (decide (((fd b ns1).length : Int) ≤ ((fd b ns2).length : Int))) = tn (decide (ns1.length ≤ ns2.length ∧ (fd b ns2).drop (ns2.length - ns1.length) = fd b ns1)) := by
  simp only [fd_length] at h
  have h' : ¬ ns1.length ≤ ns2.length := by omega
  simp only [fd_length, h, h', false_and, decide_false]
theorem fd_from (b : Bool) (ns : List Int) (a : Nat) : fd b ((ns.drop a).take ((ns.length : Int).toNat - a)) = (fd b ns).drop a := by
  rw [Int.toNat_natCast, List.take_of_length_le (by simp)]
  cases b <;> simp [fd, List.map_drop]
theorem fd_upto (b : Bool) (ns : List Int) (k : Nat) : fd b ((ns.drop (Int.toNat 0)).take (k - Int.toNat 0)) = (fd b ns).take k := by
  simp only [Int.toNat_zero, List.drop_zero, Nat.sub_zero]
  cases b <;> simp [fd, List.map_take]
theorem take_next {l r : List Int} {i : Int} (h0 : 0 ≤ i) (h1 : i < l.length) (h2 : i < r.length) (h : l.take i.toNat = r.take i.toNat) (e : l.getD i.toNat 0 = r.getD i.toNat 0) : l.take (i + 1).toNat = r.take (i + 1).toNat := by
  rw [tn_succ h0, List.take_add_one, List.take_add_one, h]
  have a : i.toNat < l.length := tn_lt h0 h1
  have b : i.toNat < r.length := tn_lt h0 h2
  rw [List.getD_eq_getElem?_getD, List.getD_eq_getElem?_getD, List.getElem?_eq_getElem a, List.getElem?_eq_getElem b, Option.getD_some, Option.getD_some] at e
  rw [List.getElem?_eq_getElem a, List.getElem?_eq_getElem b, e]
theorem cpl_at : ∀ (l r : List Int) (i : Nat), i ≤ l.length → i ≤ r.length → l.take i = r.take i → (¬ i < min l.length r.length ∨ l.getD i 0 ≠ r.getD i 0) → cpl l r = i ∧ ltL (l.drop i) (r.drop i) = ltL l r
  | l, r, 0, _, _, _, h => by
    refine ⟨?_, by simp⟩
    cases l with
    | nil => simp [cpl]
    | cons a l => cases r with
      | nil => simp [cpl]
      | cons b r => simp [cpl] at h ⊢; exact h
  | [], _, i + 1, h1, _, _, _ => absurd h1 (by simp)
  | _ :: _, [], i + 1, _, h2, _, _ => absurd h2 (by simp)
  | a :: l, b :: r, i + 1, h1, h2, h3, h4 => by
    simp only [List.take_succ_cons, List.cons.injEq] at h3
    have := cpl_at l r i (by simpa using h1) (by simpa using h2) h3.2 (by
      rcases h4 with h4 | h4
      · left; simp only [List.length_cons] at h4; omega
      · right; simpa using h4)
    simp only [cpl, ltL, h3.1, if_true, List.drop_succ_cons]
    exact ⟨by rw [this.1], this.2⟩
theorem cmp_less {l r : List Int} {k : Int} {t : Tok} (h0 : 0 ≤ k) (h1 : k ≤ l.length) (h2 : k ≤ r.length) (h3 : l.take k.toNat = r.take k.toNat) (h4 : ¬ k < min (l.length : Int) (r.length : Int) ∨ l.getD k.toNat 0 ≠ r.getD k.toNat 0) (h : ltL (l.drop k.toNat) (r.drop k.toNat) = true) : Value.int (0 - k - 1) t = Value.int (cmpv l r) t := by
  have := cpl_at l r k.toNat (by omega) (by omega) h3 (h4.elim (fun h => .inl (by omega)) .inr)
  rw [cmpv, ← this.2, h, if_pos rfl, this.1, show ((k.toNat : Nat) : Int) = k by omega]
theorem cmp_more {l r : List Int} {k : Int} {t : Tok} (h0 : 0 ≤ k) (h1 : k ≤ l.length) (h2 : k ≤ r.length) (h3 : l.take k.toNat = r.take k.toNat) (h4 : ¬ k < min (l.length : Int) (r.length : Int) ∨ l.getD k.toNat 0 ≠ r.getD k.toNat 0) (h : ltL (l.drop k.toNat) (r.drop k.toNat) = false) : Value.int (k + 1) t = Value.int (cmpv l r) t := by
  have := cpl_at l r k.toNat (by omega) (by omega) h3 (h4.elim (fun h => .inl (by omega)) .inr)
  rw [cmpv, ← this.2, h, if_neg Bool.false_ne_true, this.1, show ((k.toNat : Nat) : Int) = k by omega]
/-- as cmp_less, over whole lists -/
theorem lc_less {l r : List Int} {k : Int} {t : Tok} (h0 : 0 ≤ k) (h1 : k ≤ l.length) (h2 : k ≤ r.length) (h3 : l.take k.toNat = r.take k.toNat) (h4 : ¬ k < min (l.length : Int) (r.length : Int) ∨ l.getD k.toNat 0 ≠ r.getD k.toNat 0) (h : ltL l r = true) : Value.int (0 - k - 1) t = Value.int (cmpv l r) t := by
  have := cpl_at l r k.toNat (by omega) (by omega) h3 (h4.elim (fun h => .inl (by omega)) .inr)
  rw [cmpv, h, if_pos rfl, this.1, show ((k.toNat : Nat) : Int) = k by omega]
theorem lc_more {l r : List Int} {k : Int} {t : Tok} (h0 : 0 ≤ k) (h1 : k ≤ l.length) (h2 : k ≤ r.length) (h3 : l.take k.toNat = r.take k.toNat) (h4 : ¬ k < min (l.length : Int) (r.length : Int) ∨ l.getD k.toNat 0 ≠ r.getD k.toNat 0) (h : ltL l r = false) : Value.int (k + 1) t = Value.int (cmpv l r) t := by
  have := cpl_at l r k.toNat (by omega) (by omega) h3 (h4.elim (fun h => .inl (by omega)) .inr)
  rw [cmpv, h, if_neg Bool.false_ne_true, this.1, show ((k.toNat : Nat) : Int) = k by omega]
noncomputable def fig (c : Int) : Bool := decide (48 ≤ c ∧ c ≤ 57)
noncomputable def num : Int → List Int → Int
  | f, [] => f
  | f, c :: l => if fig c then num (10 * f + c - 48) l else f
noncomputable def run : List Int → Nat
  | [] => 0
  | c :: l => if fig c then run l + 1 else 0
theorem drop_at {l : List Int} {i : Nat} (h : i < l.length) : l.drop i = l.getD i 0 :: l.drop (i + 1) := by
  rw [List.drop_eq_getElem_cons h, List.getD_eq_getElem?_getD, List.getElem?_eq_getElem h, Option.getD_some]
theorem num_step {l : List Int} {f a : Int} (h0 : 0 ≤ a) (h1 : a < l.length) (hf : fig (l.getD a.toNat 0) = true) : num f (l.drop a.toNat) = num (10 * f + l.getD a.toNat 0 - 48) (l.drop (a + 1).toNat) := by
  rw [drop_at (show a.toNat < l.length by omega), num, hf, if_pos rfl, show (a + 1).toNat = a.toNat + 1 by omega]
theorem run_step {l : List Int} {a : Int} (h0 : 0 ≤ a) (h1 : a < l.length) (hf : fig (l.getD a.toNat 0) = true) : run (l.drop a.toNat) = run (l.drop (a + 1).toNat) + 1 := by
  rw [drop_at (show a.toNat < l.length by omega), run, hf, if_pos rfl, show (a + 1).toNat = a.toNat + 1 by omega]
theorem num_stop {l : List Int} {f a : Int} (h0 : 0 ≤ a) (h : ¬ a < l.length ∨ fig (l.getD a.toNat 0) = false) : num f (l.drop a.toNat) = f := by
  by_cases h1 : a < l.length
  · rw [drop_at (show a.toNat < l.length by omega), num, h.resolve_left (by omega), if_neg Bool.false_ne_true]
  · rw [List.drop_of_length_le (by omega), num]
theorem run_stop {l : List Int} {a : Int} (h0 : 0 ≤ a) (h : ¬ a < l.length ∨ fig (l.getD a.toNat 0) = false) : run (l.drop a.toNat) = 0 := by
  by_cases h1 : a < l.length
  · rw [drop_at (show a.toNat < l.length by omega), run, h.resolve_left (by omega), if_neg Bool.false_ne_true]
  · rw [List.drop_of_length_le (by omega), run]
theorem fig_ge {c : Int} (h : fig c = true) : 48 ≤ c ∧ c ≤ 57 := of_decide_eq_true h
theorem ten_step {f c a : Int} {N : Nat} (h0 : 0 ≤ a) (h1 : a < N) (hN : N ≤ 6) (hf : f < 10 ^ a.toNat) (hc : fig c = true) : 10 * f + c - 48 < 10 ^ (a + 1).toNat ∧ 10 * f + c - 48 < 1000000 := by
  have h2 := fig_ge hc
  have e : (a + 1).toNat = a.toNat + 1 := tn_succ h0
  have h3 : (10 : Int) ^ (a + 1).toNat = 10 ^ a.toNat * 10 := by rw [e, Int.pow_succ]
  have h4 : (10 : Int) ^ (a + 1).toNat ≤ 10 ^ 6 := by
    have : (10 : Nat) ^ (a + 1).toNat ≤ 10 ^ 6 := Nat.pow_le_pow_right (by decide) (by omega)
    exact_mod_cast this
  generalize (10 : Int) ^ (a + 1).toNat = X at *
  generalize (10 : Int) ^ a.toNat = Y at *
  have h5 : (10 : Int) ^ 6 = 1000000 := by decide
  omega
/-- the first of k places from i on at which n stands in h -/
noncomputable def srch (n h : List Int) : Nat → Nat → Option Nat
  | _, 0 => none
  | i, k + 1 => if (h.drop i).take n.length = n then some i else srch n h (i + 1) k
theorem srch_hit {n h : List Int} {i k : Nat} (hk : 0 < k) (e : (h.drop i).take n.length = n) : srch n h i k = some i := by
  cases k with
  | zero => exact absurd hk (Nat.lt_irrefl _)
  | succ k => rw [srch, if_pos e]
theorem srch_miss {n h : List Int} {i k : Nat} (hk : 0 < k) (e : ¬ (h.drop i).take n.length = n) : srch n h i k = srch n h (i + 1) (k - 1) := by
  cases k with
  | zero => exact absurd hk (Nat.lt_irrefl _)
  | succ k => rw [srch, if_neg e, Nat.add_sub_cancel]
/-- the least number of edits -/
noncomputable def levRow (a : Int) (n : Nat) (f : List Int → Nat) : List Int → Nat
  | [] => n
  | b :: t => if a = b then f t else 1 + min (min (f t) (f (b :: t))) (levRow a n f t)
noncomputable def lev : List Int → List Int → Nat
  | [] => List.length
  | a :: s => levRow a (s.length + 1) (lev s)
theorem lev_c (a b : Int) (s t : List Int) : lev (a :: s) (b :: t) = if a = b then lev s t else 1 + min (min (lev s t) (lev s (b :: t))) (lev (a :: s) t) := rfl
theorem deck_at {l : List Int} (h : ∀ x ∈ l, 0 ≤ x) {i : Nat} (hi : i < l.length) : 0 ≤ l.getD i 0 := by
  rw [List.getD_eq_getElem?_getD, List.getElem?_eq_getElem hi, Option.getD_some]
  exact h _ (List.getElem_mem hi)
theorem deck_set {l : List Int} {i : Nat} {y : Int} (h : ∀ x ∈ l, 0 ≤ x) (hy : 0 ≤ y) : ∀ x ∈ l.set i y, 0 ≤ x := fun x hx => by
  rcases List.mem_or_eq_of_mem_set hx with hx | rfl
  · exact h x hx
  · exact hy
theorem first_hit {n h : List Int} {st k : Int} {j N : Nat} {r : Option Nat} (hk : k = st + (j : Int)) (h0 : 0 ≤ st) (hj : j < N) (e : (h.drop k.toNat).take ((k + (n.length : Int)).toNat - k.toNat) = n) (hp : r = srch n h (st.toNat + j) (N - j)) : r = some (st.toNat + j) := by
  have e1 : (k + (n.length : Int)).toNat - k.toNat = n.length := tn_more _ (by rw [hk]; exact Int.add_nonneg h0 (Int.natCast_nonneg _))
  have e2 : k.toNat = st.toNat + j := tn_sum hk h0
  rw [e1, e2] at e
  rw [hp, srch_hit (Nat.sub_pos_of_lt hj) e]
theorem first_miss {n h : List Int} {st k : Int} {pre : List Int} {N : Nat} {r : Option Nat} (hk : k = st + (pre.length : Int)) (h0 : 0 ≤ st) (hj : pre.length < N) (e : ¬ (h.drop k.toNat).take ((k + (n.length : Int)).toNat - k.toNat) = n) (hp : r = srch n h (st.toNat + pre.length) (N - pre.length)) : r = srch n h (st.toNat + (pre ++ [k]).length) (N - (pre ++ [k]).length) := by
  have e1 : (k + (n.length : Int)).toNat - k.toNat = n.length := tn_more _ (by rw [hk]; exact Int.add_nonneg h0 (Int.natCast_nonneg _))
  have e2 : k.toNat = st.toNat + pre.length := tn_sum hk h0
  rw [e1, e2] at e
  rw [hp, srch_miss (Nat.sub_pos_of_lt hj) e, List.length_append, List.length_singleton, Nat.sub_sub, Nat.add_assoc]
theorem map_low (ns : List Int) : ns.map (fun k' => if 65 ≤ k' ∧ k' ≤ 90 then k' + 32 else if 65 ≤ k' ∧ ¬k' ≤ 90 then k' else k') = ns.map low := by
  refine List.map_congr_left fun k _ => ?_
  simp only [low]
  split
  · rfl
  · split <;> rfl
theorem getD_mem {l : List Int} {i : Nat} (hi : i < l.length) : l.getD i 0 ∈ l := by
  rw [List.getD_eq_getElem?_getD, List.getElem?_eq_getElem hi, Option.getD_some]
  exact List.getElem_mem hi
theorem mem_snoc {l m : List Int} {y : Int} (h : ∀ x ∈ l, x ∈ m) (hy : y ∈ m) : ∀ x ∈ l ++ [y], x ∈ m := fun x hx => by
  rcases List.mem_append.mp hx with hx | hx
  · exact h x hx
  · rw [List.mem_singleton.mp hx]; exact hy
end
section
theorem srch_some {n h : List Int} : ∀ {d s k : Nat}, (∀ j, j < d → ¬ (h.drop (s + j)).take n.length = n) → d < k → (h.drop (s + d)).take n.length = n → srch n h s k = some (s + d)
  | 0, s, k, _, hk, e => srch_hit hk e
  | d + 1, s, k, hm, hk, e => by
    rw [srch_miss (by omega) (show ¬ (h.drop s).take n.length = n from hm 0 (by omega)), srch_some (d := d) (fun j hj => by have := hm (j + 1) (by omega); rwa [show s + 1 + j = s + (j + 1) by omega]) (by omega) (by rwa [show s + 1 + d = s + (d + 1) by omega])]
    congr 1; omega
theorem srch_none {n h : List Int} : ∀ {k s : Nat}, (∀ j, j < k → ¬ (h.drop (s + j)).take n.length = n) → srch n h s k = none
  | 0, _, _ => rfl
  | k + 1, s, hm => by
    rw [srch, if_neg (show ¬ (h.drop s).take n.length = n from hm 0 (by omega))]
    exact srch_none fun j hj => by have := hm (j + 1) (by omega); rwa [show s + 1 + j = s + (j + 1) by omega]
/-- the first k of p end u -/
noncomputable def Suf (p u : List Int) (k : Nat) : Prop := k ≤ p.length ∧ p.take k <:+ u
/-- the most of p that ends u -/
noncomputable def Best (p u : List Int) (k : Nat) : Prop := Suf p u k ∧ ∀ j, Suf p u j → j ≤ k
noncomputable def Wk (p u : List Int) (c : Int) (k : Nat) : Prop := Suf p u k ∧ ∀ j, Suf p u j → j < p.length → p.getD j 0 = c → j ≤ k
noncomputable def EndsOk (p es : List Int) : Prop := ∀ j, j < es.length → 0 ≤ es.getD j 0 ∧ Best p ((p.drop 1).take j) (es.getD j 0).toNat
theorem suf_le {p u : List Int} {k : Nat} (h : Suf p u k) : k ≤ u.length := by
  have := h.2.length_le
  rw [List.length_take] at this
  have := h.1
  omega
theorem wk_of {p u : List Int} {c : Int} {k : Nat} (h : Best p u k) : Wk p u c k := ⟨h.1, fun j hj _ _ => h.2 j hj⟩
theorem take_tail (p : List Int) (k : Nat) : (p.drop 1).take (k - 1) = (p.take k).drop 1 := by rw [List.drop_take]
theorem wk_step {p u es : List Int} {c : Int} {k : Nat} (h : Wk p u c k) (hk : 0 < k) (hc : p.getD k 0 ≠ c) (hes : EndsOk p es) (hl : k ≤ es.length) :
    0 ≤ es.getD (k - 1) 0 ∧ (es.getD (k - 1) 0).toNat < k ∧ Wk p u c (es.getD (k - 1) 0).toNat := by
  obtain ⟨h0, hb, hm⟩ := hes (k - 1) (by omega)
  have e1 : (p.drop 1).take (k - 1) <:+ p.take k := by rw [take_tail]; exact List.drop_suffix 1 _
  refine ⟨h0, ?_, ⟨hb.1, hb.2.trans (e1.trans h.1.2)⟩, fun j hj hjl hjc => ?_⟩
  · have := suf_le hb
    rw [List.length_take] at this
    omega
  · have h1 := h.2 j hj hjl hjc
    have h2 : j ≠ k := fun e => hc (e ▸ hjc)
    refine hm j ⟨hj.1, ?_⟩
    have h3 : p.take j <:+ p.take k := List.suffix_of_suffix_length_le hj.2 h.1.2 (by rw [List.length_take, List.length_take]; omega)
    rw [take_tail]
    cases e : p.take k with
    | nil =>
      rw [e] at h3
      rw [List.eq_nil_of_suffix_nil h3]
      exact List.nil_suffix
    | cons a t =>
      rw [e] at h3
      rcases List.suffix_cons_iff.mp h3 with h4 | h4
      · have h5 := congrArg List.length h4
        rw [← e, List.length_take, List.length_take] at h5
        have := h.1.1
        omega
      · exact h4
theorem take_snoc {p : List Int} {k : Nat} (h : k < p.length) : p.take (k + 1) = p.take k ++ [p.getD k 0] := by
  rw [List.take_add_one, List.getElem?_eq_getElem h, List.getD_eq_getElem?_getD, List.getElem?_eq_getElem h]; rfl
theorem suf_succ {p u : List Int} {c : Int} {j : Nat} (h : Suf p (u ++ [c]) (j + 1)) : Suf p u j ∧ p.getD j 0 = c := by
  have hj : j < p.length := h.1
  have h2 := h.2
  rw [take_snoc hj] at h2
  obtain ⟨t, ht⟩ := h2
  rw [← List.append_assoc] at ht
  have e1 := List.append_inj_left' ht rfl
  have e2 := List.append_inj_right' ht rfl
  exact ⟨⟨by omega, t, e1⟩, by simpa using e2⟩
theorem wk_hit {p u : List Int} {c : Int} {k : Nat} (h : Wk p u c k) (hk : k < p.length) (hc : p.getD k 0 = c) : Best p (u ++ [c]) (k + 1) := by
  refine ⟨⟨hk, ?_⟩, fun j hj => ?_⟩
  · rw [take_snoc hk, hc]
    obtain ⟨t, ht⟩ := h.1.2
    exact ⟨t, by rw [← List.append_assoc, ht]⟩
  · cases j with
    | zero => omega
    | succ j =>
      have := suf_succ hj
      have := h.2 j this.1 (by have := hj.1; omega) this.2
      omega
theorem wk_miss {p u : List Int} {c : Int} (h : Wk p u c 0) (hc : p.getD 0 0 ≠ c) : Best p (u ++ [c]) 0 := by
  refine ⟨⟨Nat.zero_le _, List.nil_suffix⟩, fun j hj => ?_⟩
  cases j with
  | zero => omega
  | succ j =>
    have h1 := suf_succ hj
    have h2 := h.2 j h1.1 (by have := hj.1; omega) h1.2
    obtain rfl : j = 0 := by omega
    exact absurd h1.2 hc
theorem best0 (p : List Int) : Best p [] 0 := ⟨⟨Nat.zero_le _, List.nil_suffix⟩, fun j hj => by simpa using suf_le hj⟩
theorem ends0 (p : List Int) : EndsOk p [0] := fun j hj => by
  obtain rfl : j = 0 := by simpa using hj
  exact ⟨Int.le_refl _, best0 p⟩
theorem getD_snoc {es : List Int} {y : Int} {j : Nat} : (es ++ [y]).getD j 0 = if j < es.length then es.getD j 0 else if j = es.length then y else 0 := by
  rw [List.getD_eq_getElem?_getD, List.getD_eq_getElem?_getD, List.getElem?_append]
  split
  · rfl
  · rename_i h
    split
    · rename_i h2; subst h2; simp
    · rw [List.getElem?_eq_none (by simp; omega)]; rfl
theorem ends_snoc {p es : List Int} {k : Int} (h : EndsOk p es) (h0 : 0 ≤ k) (hb : Best p ((p.drop 1).take es.length) k.toNat) : EndsOk p (es ++ [k]) := fun j hj => by
  rw [List.length_append, List.length_singleton] at hj
  rw [getD_snoc]
  split
  · exact h j (by assumption)
  · obtain rfl : j = es.length := by omega
    rw [if_pos rfl]
    exact ⟨h0, hb⟩
/-- what comes next in a part of the text -/
theorem next_take {x : List Int} {st i : Nat} (h : st + i < x.length) : (x.drop st).take (i + 1) = (x.drop st).take i ++ [x.getD (st + i) 0] := by
  have h1 : i < (x.drop st).length := by rw [List.length_drop]; omega
  rw [take_snoc h1, List.getD_eq_getElem?_getD, List.getElem?_drop, List.getD_eq_getElem?_getD]
theorem hit_suf {p x : List Int} {i m : Nat} (e : (x.drop i).take p.length = p) (hm : i + p.length = m) : Suf p (x.take m) p.length := by
  refine ⟨Nat.le_refl _, ?_⟩
  rw [List.take_length]
  refine ⟨x.take i, ?_⟩
  have e2 : x.take m = x.take i ++ (x.drop i).take p.length := by rw [← hm, List.take_add]
  rw [e2, e]
theorem suf_hit {p x : List Int} {m : Nat} (h : Suf p (x.take m) p.length) (hm : m ≤ x.length) : (x.drop (m - p.length)).take p.length = p := by
  obtain ⟨t, ht⟩ := h.2
  rw [List.take_length] at ht
  have hl := congrArg List.length ht
  rw [List.length_append, List.length_take] at hl
  have hle := suf_le h
  rw [List.length_take] at hle
  have e1 : t = x.take (m - p.length) := by
    have := congrArg (List.take (m - p.length)) ht
    rw [List.take_left' (by omega), List.take_take, Nat.min_eq_left (by omega)] at this
    exact this
  have e2 := List.take_append_drop (m - p.length) (x.take m)
  rw [← ht, List.take_left' (by omega)] at e2
  have e3 : (t ++ p).drop (m - p.length) = p := List.drop_left' (by omega)
  rw [ht, List.drop_take] at e3
  rw [show m - (m - p.length) = p.length by omega] at e3
  exact e3
/-- no place so far -/
noncomputable def NoHit (p x : List Int) (m : Nat) : Prop := ∀ i, i + p.length ≤ m → ¬ (x.drop i).take p.length = p
theorem noHit0 {p x : List Int} (h : 0 < p.length) : NoHit p x 0 := fun i hi => by omega
theorem noHit_succ {p x : List Int} {m k : Nat} (h : NoHit p x m) (hb : Best p (x.take (m + 1)) k) (hk : k < p.length) : NoHit p x (m + 1) := fun i hi e => by
  by_cases h1 : i + p.length ≤ m
  · exact h i h1 e
  · have := hb.2 _ (hit_suf e (show i + p.length = m + 1 by omega))
    omega
theorem found_at {p x : List Int} {st m : Nat} {k : Nat} (h : NoHit p (x.drop st) m) (hb : Best p ((x.drop st).take (m + 1)) p.length) (hm : st + m + 1 ≤ x.length) (hN : m + 1 - p.length < k) : srch p x st k = some (st + (m + 1 - p.length)) := by
  have hle := suf_le hb.1
  rw [List.length_take] at hle
  refine srch_some (fun j hj => ?_) hN ?_
  · have := h j (by omega)
    rwa [List.drop_drop] at this
  · have := suf_hit hb.1 (by rw [List.length_drop]; omega)
    rwa [List.drop_drop] at this
theorem found_no {p x : List Int} {st m k : Nat} (h : NoHit p (x.drop st) m) (hk : k + p.length ≤ m + 1) : srch p x st k = none := srch_none fun j hj => by
  have := h j (by omega)
  rwa [List.drop_drop] at this
/-- place_of's answer -/
noncomputable def place (r : Option Nat) : Int := match r with | none => -1 | some i => i
theorem kmp_hit {p x : List Int} {st n : Nat} {ka kn : Int} (hka : ka = (st : Int) + (n : Int)) (h0 : 0 ≤ kn) (hlt : st + n < x.length) (hw : Wk p ((x.drop st).take n) (x.getD ka.toNat 0) kn.toNat) (hkn : kn < p.length) (e : x.getD ka.toNat 0 = p.getD kn.toNat 0) :
    Best p ((x.drop st).take (n + 1)) (kn + 1).toNat := by
  have e1 : ka.toNat = st + n := by rw [hka]; rfl
  have e2 : (kn + 1).toNat = kn.toNat + 1 := tn_succ h0
  rw [next_take hlt, e2, ← e1]
  exact wk_hit hw (by omega) e.symm
theorem kmp_miss {p x : List Int} {st n : Nat} {ka kn : Int} (hka : ka = (st : Int) + (n : Int)) (h0 : 0 ≤ kn) (hlt : st + n < x.length) (hw : Wk p ((x.drop st).take n) (x.getD ka.toNat 0) kn.toNat) (hkn : ¬ 0 < kn) (e : x.getD ka.toNat 0 ≠ p.getD kn.toNat 0) :
    Best p ((x.drop st).take (n + 1)) kn.toNat := by
  have e1 : ka.toNat = st + n := by omega
  obtain rfl : kn = 0 := by omega
  rw [next_take hlt, ← e1]
  exact wk_miss hw e.symm
theorem kmp_fall {p u es : List Int} {c kn : Int} (hw : Wk p u c kn.toNat) (hk : 0 < kn) (hc : c ≠ p.getD kn.toNat 0) (hes : EndsOk p es) (hl : kn ≤ es.length) :
    0 ≤ es.getD (kn - 1).toNat 0 ∧ es.getD (kn - 1).toNat 0 < kn ∧ Wk p u c (es.getD (kn - 1).toNat 0).toNat := by
  have h := wk_step hw (tn_pos hk) hc.symm hes (tn_le hl)
  rw [← tn_pred hk] at h
  exact ⟨h.1, by
    have q := h.2.1
    obtain ⟨j, hj⟩ := Int.eq_ofNat_of_zero_le h.1
    obtain ⟨i, hi⟩ := Int.eq_ofNat_of_zero_le (Int.le_of_lt hk)
    rw [hj] at q ⊢
    rw [hi] at q ⊢
    exact Int.ofNat_lt.mpr q, h.2.2⟩
theorem snoc_len {pre : List Int} {k : Int} : (pre ++ [k]).length = pre.length + 1 := by rw [List.length_append, List.length_singleton]
theorem place_nil {x : List Int} {p : List Int} {st : Int} {N : Nat} (hp : p.length = 0) (h0 : 0 ≤ st) (hN : 0 < N) : place (srch p x st.toNat N) = st := by
  rw [srch_hit hN (by rw [hp, List.take_zero]; exact (List.eq_nil_of_length_eq_zero hp).symm)]
  show ((st.toNat : Nat) : Int) = st
  omega
theorem place_found {p x : List Int} {st ka kn : Int} {m : Nat} (h0 : 0 ≤ st) (hka : ka = st + (m : Int)) (hm : m < ((x.length : Int) - st).toNat) (hn : NoHit p (x.drop st.toNat) m) (hb : Best p ((x.drop st.toNat).take (m + 1)) (kn + 1).toNat) (hk : 0 ≤ kn) (e : kn + 1 = p.length) :
    place (srch p x st.toNat (((x.length : Int) - p.length + 1 - st).toNat)) = ka - (kn + 1) + 1 := by
  obtain ⟨S, rfl⟩ := Int.eq_ofNat_of_zero_le h0
  rw [e, Int.toNat_natCast] at hb
  rw [Int.toNat_natCast] at hn hb ⊢
  rw [Int.toNat_sub] at hm
  have hle := suf_le hb.1
  rw [List.length_take, List.length_drop] at hle
  have hle1 : p.length ≤ m + 1 := Nat.le_trans hle (Nat.min_le_left _ _)
  have hm1 : S + m + 1 ≤ x.length := by clear hle hn hb hk e hka h0; omega
  have ek : ((x.length : Int) - p.length + 1 - (S : Int)).toNat = x.length + 1 - p.length - S := by
    rw [show (x.length : Int) - p.length + 1 = ((x.length + 1 - p.length : Nat) : Int) by clear hle hn hb hk e hka h0; omega, Int.toNat_sub]
  rw [ek, found_at hn hb hm1 (by clear ek hle hn hb hk e hka h0; omega)]
  show ((S + (m + 1 - p.length) : Nat) : Int) = _
  rw [hka, e]
  clear ek hle hn hb hk e hka h0 hm hm1; omega
theorem place_no {p x : List Int} {st : Int} {m : Nat} (h0 : 0 ≤ st) (h1 : st ≤ x.length) (hm : m = ((x.length : Int) - st).toNat) (hn : NoHit p (x.drop st.toNat) m) : place (srch p x st.toNat (((x.length : Int) - p.length + 1 - st).toNat)) = -1 := by
  by_cases hk : ((x.length : Int) - p.length + 1 - st).toNat = 0
  · rw [hk]; rfl
  · rw [found_no hn (by omega)]; rfl
theorem place_neg {r : Option Nat} (h : place r < 0) : r = none := by
  cases r with
  | none => rfl
  | some i => exact absurd h (by show ¬ ((i : Nat) : Int) < 0; omega)
theorem place_pos {r : Option Nat} (h : ¬ place r < 0) : ∃ i : Nat, r = some i := by
  cases r with
  | none => exact absurd (show place none < 0 by decide) h
  | some i => exact ⟨i, rfl⟩
theorem lev_nil {x y : List Int} (h : x.length = 0 ∨ y.length = 0) : (x.length : Int) + y.length = (lev x y : Nat) := by
  cases x with
  | nil => exact Int.zero_add _
  | cons a s => cases y with
    | nil => exact Int.add_zero _
    | cons b t => simp at h
theorem lev_eq {x y : List Int} (h1 : ¬ x.length = 0) (h2 : ¬ y.length = 0) (h3 : x.getD (Int.toNat 0) 0 = y.getD (Int.toNat 0) 0) : lev (x.drop (Int.toNat 1)) (y.drop (Int.toNat 1)) = lev x y := by
  cases x with
  | nil => exact absurd rfl h1
  | cons a s => cases y with
    | nil => exact absurd rfl h2
    | cons b t =>
      have h3' : a = b := h3
      show lev s t = _
      rw [lev_c, if_pos h3']
theorem lev_ne {x y : List Int} {M : Int} (h1 : ¬ x.length = 0) (h2 : ¬ y.length = 0) (h3 : x.getD (Int.toNat 0) 0 ≠ y.getD (Int.toNat 0) 0)
    (a : M = ((lev (x.drop (Int.toNat 1)) (y.drop (Int.toNat 1)) : Nat) : Int) ∨ M = ((lev (x.drop (Int.toNat 1)) y : Nat) : Int) ∨ M = ((lev x (y.drop (Int.toNat 1)) : Nat) : Int))
    (b : M ≤ ((lev (x.drop (Int.toNat 1)) (y.drop (Int.toNat 1)) : Nat) : Int) ∧ M ≤ ((lev (x.drop (Int.toNat 1)) y : Nat) : Int) ∧ M ≤ ((lev x (y.drop (Int.toNat 1)) : Nat) : Int)) : 1 + M = ((lev x y : Nat) : Int) := by
  cases x with
  | nil => exact absurd rfl h1
  | cons q s => cases y with
    | nil => exact absurd rfl h2
    | cons r t =>
      have h3' : ¬ q = r := h3
      have a' : M = (lev s t : Nat) ∨ M = (lev s (r :: t) : Nat) ∨ M = (lev (q :: s) t : Nat) := a
      have b' : M ≤ (lev s t : Nat) ∧ M ≤ (lev s (r :: t) : Nat) ∧ M ≤ (lev (q :: s) t : Nat) := b
      rw [lev_c, if_neg h3']
      generalize lev s t = A at *
      generalize lev s (r :: t) = B at *
      generalize lev (q :: s) t = C at *
      have k : M = ((min (min A B) C : Nat) : Int) := by
        rcases a' with rfl | rfl | rfl
        · rw [Nat.min_eq_left (Int.ofNat_le.mp b'.2.1), Nat.min_eq_left (Int.ofNat_le.mp b'.2.2)]
        · rw [Nat.min_eq_right (Int.ofNat_le.mp b'.1), Nat.min_eq_left (Int.ofNat_le.mp b'.2.2)]
        · rw [Nat.min_eq_right (Nat.le_min.mpr ⟨Int.ofNat_le.mp b'.1, Int.ofNat_le.mp b'.2.1⟩)]
      rw [k]; exact (Int.natCast_add _ _).symm
end
section
theorem allObj_mono : ∀ {ws : List (Addr × String)} {k k' : Led → Prop}, (∀ its, Objs ws its → k its → k' its) → AllObj ws k → AllObj ws k'
  | [], _, _, h, x => h [] trivial x
  | w :: _, _, _, h, x => fun o ho => allObj_mono (fun its hi hk => h ((w.1, o) :: its) ⟨⟨rfl, ho⟩, hi⟩ hk) (x o ho)
section
variable {prog : Program} {w : World} {A : Around} {E : Value → Shared → Prop} {s : Shared} {env : Env} {h₀ : Heap} {target : Expr} {body : List Stmt} {Q : Flow → Shared → Prop}
theorem itemsInv {ws : List (Addr × String)} {keep : Led} {xs : List Itm} (J : Nat → (Str → Option Value) → Led → Prop)
    (step : ∀ i a v h tk m news, xs[i]? = some a → a.Is v h → J i m news → Fr h₀ env.locals h m → AllObj ws (fun its => News h₀ env.locals h (its ++ news) →
      wpAny (model prog w) A (assign target env v) (fun _ s₂ => wpAny (model prog w) A (execs body env) (UnrPostW h₀ env.locals { s with heap := h, toks := tk } its (fun m' n' => SubL keep n' ∧ J (i + 1) m' n') Q) E s₂) E { s with heap := h, toks := tk }))
    (done : ∀ m news h tk, J xs.length m news → Fr h₀ env.locals h m → News h₀ env.locals h news → Q .next { s with heap := h, toks := tk }) :
    ∀ j i m news, i + j = xs.length → J i m news → ItemsRest prog w A E h₀ env target body Q s ws keep (xs.drop i) m news
  | 0, i, m, news, hi, hJ => by
    rw [List.drop_of_length_le (by omega)]
    obtain rfl : i = xs.length := by omega
    exact ItemsRest.zero fun h tk F N => done m news h tk hJ F N
  | j + 1, i, m, news, hi, hJ => by
    have hlt : i < xs.length := by omega
    rw [List.drop_eq_getElem_cons hlt]
    intro v h tk hv F
    refine allObj_mono (fun its _ hk N => ?_) (step i xs[i] v h tk m news (List.getElem?_eq_getElem hlt) hv hJ F)
    refine wpAny_mono (hk N) (fun _ s₂ h₂ => wpAny_mono h₂ (fun f s₃ p => ?_) fun _ _ e => e) fun _ _ e => e
    have up : UnrEndW h₀ env.locals { s with heap := h, toks := tk } its (fun m' n' => SubL keep n' ∧ J (i + 1) m' n') s₃ →
        UnrEndW h₀ env.locals { s with heap := h, toks := tk } its (fun m' n' => SubL keep n' ∧ ItemsRest prog w A E h₀ env target body Q s ws keep (xs.drop (i + 1)) m' n') s₃ := by
      rintro ⟨h', tk', m', n', e, F', N', ho, hs, hJ'⟩
      exact ⟨h', tk', m', n', e, F', N', ho, hs, itemsInv J step done j (i + 1) m' n' (by omega) hJ'⟩
    cases f with
    | ret v => exact p
    | brk => exact p
    | next => exact up p
    | cont => exact up p
theorem allLt_off {d : Addr} : ∀ {l : Led}, AllLt d l → ∀ p ∈ l, p.1 ≠ d
  | [], _, _, hp => absurd hp List.not_mem_nil
  | _ :: _, h, p, hp => (List.mem_cons.mp hp).elim (fun e => e ▸ Nat.ne_of_lt h.1) (allLt_off h.2 p)
theorem whileA {σ : Type} {test : Expr} {body : List Stmt} {pos : Pos} {L E9 : Addr} {m₀ : Str → Option Value} {base : Led} {ev : List Value} {en : Nat} (lw : σ → List Value) (ln : σ → Nat) (lt : σ → Led) (ps : σ → List (Str × Value)) (stored : List Str) (P : σ → Prop) (μ : σ → Nat) (c₀ : σ)
    (F : Fr h₀ L s.heap m₀) (N : News h₀ L s.heap ((E9, listOf ev.toArray en) :: base)) (hb : ∀ p ∈ base, p.1 ≠ E9) (h2 : lw c₀ = ev) (h3 : ln c₀ = en) (h4 : lt c₀ = []) (hk : ∀ p ∈ ps c₀, m₀ p.1 = some p.2) (hp : P c₀)
    (turn : ∀ (c : σ) (u : Str → Option Value) h tk, P c → (∀ p ∈ base ++ lt c, p.1 ≠ E9) → Fr h₀ L h (kstB (fun z => if stored.contains z then u z else m₀ z) (ps c)) → News h₀ L h ((E9, listOf (lw c).toArray (ln c)) :: (base ++ lt c)) →
      wpAny (model prog w) A (isTrue test env (eval test env)) (fun b s₂ =>
        if b = true then wpAny (model prog w) A (execs body env) (WPost h₀ L s (fun c => (E9, listOf (lw c).toArray (ln c)) :: (base ++ lt c)) ps stored m₀ (fun c => P c ∧ ∀ p ∈ lt c, p.1 ≠ E9) μ Q c) E s₂ else Q .next s₂) E { s with heap := h, toks := tk })
    (hE : PassesOwn (model prog w) A env E := by passes_own) :
    wpAny (model prog w) A (exec (.While test body [] pos) env) Q E s := by
  subst h2 h3
  refine whileW (fun c => (E9, listOf (lw c).toArray (ln c)) :: (base ++ lt c)) ps stored (fun c => P c ∧ ∀ p ∈ lt c, p.1 ≠ E9) μ c₀ F N (by rw [h4, List.append_nil]; exact fun _ h => h) hk ⟨hp, by rw [h4]; exact fun _ h => absurd h List.not_mem_nil⟩ (fun c u h tk hp F N => turn c u h tk hp.1 (fun p h => (List.mem_append.mp h).elim (hb p) (hp.2 p)) F N) hE
noncomputable def WOut {σ : Type} (h₀ : Heap) (L : Addr) (s : Shared) (Led : σ → List (Addr × Obj)) (ps : σ → List (Str × Value)) (stored : List Str) (m₀ : Str → Option Value) (X : σ → Prop) (c : σ) (s₂ : Shared) : Prop :=
  ∃ (h' : Heap) (tk : Nat) (m' : Str → Option Value) (news' : List (Addr × Obj)), s₂ = { s with heap := h', toks := tk } ∧ Fr h₀ L h' m' ∧ News h₀ L h' news' ∧ (∀ p ∈ Led c, p ∈ news') ∧ (∀ p ∈ ps c, m' p.1 = some p.2) ∧ (∀ z, stored.contains z = false → m' z = m₀ z) ∧ X c
theorem wOut {σ : Type} {L : Addr} {Led : σ → List (Addr × Obj)} {ps : σ → List (Str × Value)} {stored : List Str} {m₀ m' : Str → Option Value} {X : σ → Prop} {c : σ} {h' : Heap} {tk : Nat} {news' : List (Addr × Obj)}
    (F : Fr h₀ L h' m') (N : News h₀ L h' news') (hn : ∀ p ∈ Led c, p ∈ news') (hk : ∀ p ∈ ps c, m' p.1 = some p.2) (hr : ∀ z, stored.contains z = false → m' z = m₀ z) (hx : X c) :
    WOut h₀ L s Led ps stored m₀ X c { s with heap := h', toks := tk } := ⟨h', tk, m', news', rfl, F, N, hn, hk, hr, hx⟩
/-- a while whose ways out meet: X holds behind it -/
theorem whileE {σ : Type} {test : Expr} {body : List Stmt} {pos : Pos} {L : Addr} {m₀ : Str → Option Value} {news : Led} (ps : σ → List (Str × Value)) (stored : List Str) (P X : σ → Prop) (μ : σ → Nat) (c₀ : σ)
    (F : Fr h₀ L s.heap m₀) (N : News h₀ L s.heap news) (hk : ∀ p ∈ ps c₀, m₀ p.1 = some p.2) (hp : P c₀)
    (turn : ∀ (c : σ) (u : Str → Option Value) h tk, P c → Fr h₀ L h (kstB (fun z => if stored.contains z then u z else m₀ z) (ps c)) → News h₀ L h news →
      wpAny (model prog w) A (isTrue test env (eval test env)) (fun b s₂ =>
        if b = true then wpAny (model prog w) A (execs body env) (WPost h₀ L s (fun _ => news) ps stored m₀ P μ Q c) E s₂ else WOut h₀ L s (fun _ => news) ps stored m₀ X c s₂) E { s with heap := h, toks := tk })
    (done : ∀ (c : σ) (u : Str → Option Value) h tk, P c → X c → Fr h₀ L h (kstB (fun z => if stored.contains z then u z else m₀ z) (ps c)) → News h₀ L h news → Q .next { s with heap := h, toks := tk })
    (hE : PassesOwn (model prog w) A env E := by passes_own) :
    wpAny (model prog w) A (exec (.While test body [] pos) env) Q E s := by
  refine whileK ps stored P μ c₀ F N hk hp (fun c u h tk hp F N => wpAny_mono (turn c u h tk hp F N) (fun b s₂ q => ?_) fun _ _ x => x) hE
  cases b with
  | true => exact q
  | false =>
    obtain ⟨h', tk', m', news', rfl, F', N', hn, hk', hr, hx⟩ := q
    exact done c m' h' tk' hp hx (ksw_fr hk' (fun z _ h3 => hr z h3) F') fun p hp => N' p (hn p hp)
theorem news_tail {h₀ h : Heap} {L : Addr} {p : Addr × Obj} {nw : Led} (N : News h₀ L h (p :: nw)) : News h₀ L h nw := fun q hq => N q (.tail _ hq)
theorem forRangeH {σ : Type} {x : Str} {r E9 : Addr} {a₀ b₀ : Int} {t₀ u₀ v₀ : Tok} {n : Nat} {m₀ : Str → Option Value} {base : Led} {ev : List Value} {en : Nat} (lv : σ → List Value) (ln : σ → Nat) (ps : σ → List (Str × Value)) (stored : List Str) (P : List Int → σ → Prop) (c₀ : σ)
    (hh : A.handled = none) (hr : IsRange s.heap r a₀ b₀ 1 t₀ u₀ v₀) (hsmall : Builtin.Range.small a₀ b₀ 1 = true) (hn : Builtin.Range.rangeSize a₀ b₀ 1 = (n : Int)) (F : Fr h₀ env.locals s.heap m₀) (N : News h₀ env.locals s.heap ((E9, listOf ev.toArray en) :: base)) (hb : ∀ p ∈ base, p.1 ≠ E9) (h1 : lv c₀ = ev) (h2 : ln c₀ = en) (hk : ∀ p ∈ ps c₀, m₀ p.1 = some p.2) (hp : P [] c₀)
    (turn : ∀ (c : σ) (pre : List Int) (k : Int) t (u : Str → Option Value) h tk own, k = a₀ + (pre.length : Int) → pre.length < n → (∀ p ∈ base ++ own, p.1 ≠ E9) → OwnOff own (E9 :: base.map (·.1)) → P pre c →
      Fr h₀ env.locals h (fun y => if y = x then some (.int k t) else kstB (fun z => if stored.contains z then u z else m₀ z) (ps c) y) → News h₀ env.locals h (((E9, listOf (lv c).toArray (ln c)) :: base) ++ own) →
      wpAny (model prog w) A (execs body env) (FPost h₀ env.locals (fun c => (E9, listOf (lv c).toArray (ln c)) :: base) ps x stored m₀ P (pre ++ [k]) own (E9 :: base.map (·.1)) { s with heap := h, toks := tk } Q) E { s with heap := h, toks := tk })
    (done : ∀ (c : σ) (u : Str → Option Value) h tk, P (rangeKs a₀ n) c → Fr h₀ env.locals h (fun y => if y = x then u y else kstB (fun z => if stored.contains z then u z else m₀ z) (ps c) y) → News h₀ env.locals h ((E9, listOf (lv c).toArray (ln c)) :: base) → Q .next { s with heap := h, toks := tk }) :
    wpAny (model prog w) A (pyIter (.ref r)) (fun it s₂ => LoopAtV prog w A h₀ env x body Q E it s₂) E s :=
  forRange (fun c => (E9, listOf (lv c).toArray (ln c)) :: base) ps stored P c₀ hh hr hsmall hn F N (by intro p hp; rw [h1, h2] at hp; exact hp) hk hp (fun c pre k t u h tk own e hl ho => turn c pre k t u h tk own e hl (fun p hp => (List.mem_append.mp hp).elim (hb p) fun hp => ho p hp E9 (.head _)) ho) done
noncomputable def EEnd {σ : Type} (h₀ : Heap) (L : Addr) (Led : σ → List (Addr × Obj)) (ps : σ → List (Str × Value)) (stored : List Str) (m₀ : Str → Option Value) (P : σ → Prop) (its : List (Addr × Obj)) (s₁ s₂ : Shared) : Prop :=
  ∃ (c : σ) (h' : Heap) (tk : Nat) (m' : Str → Option Value) (news' : List (Addr × Obj)), s₂ = { s₁ with heap := h', toks := tk } ∧ Fr h₀ L h' m' ∧ News h₀ L h' news' ∧ (∀ p ∈ its, p ∈ news') ∧ (∀ p ∈ Led c, p ∈ news') ∧ (∀ p ∈ Led c, ∀ q ∈ its, p.1 ≠ q.1) ∧
    (∀ p ∈ ps c, m' p.1 = some p.2) ∧ (∀ z, stored.contains z = false → m' z = m₀ z) ∧ P c
noncomputable def EPost {σ : Type} (h₀ : Heap) (L : Addr) (Led : σ → List (Addr × Obj)) (ps : σ → List (Str × Value)) (stored : List Str) (m₀ : Str → Option Value) (P : σ → Prop) (its : List (Addr × Obj)) (s₁ : Shared) (Q : Flow → Shared → Prop) (f : Flow) (s₂ : Shared) : Prop :=
  match f with
  | .ret v => Q (.ret v) s₂
  | .brk => Q .next s₂
  | _ => EEnd h₀ L Led ps stored m₀ P its s₁ s₂
theorem eEnd {σ : Type} {L : Addr} {Led : σ → List (Addr × Obj)} {ps : σ → List (Str × Value)} {stored : List Str} {m₀ m' : Str → Option Value} {P : σ → Prop} {its news' : List (Addr × Obj)} {s₁ : Shared} {h' : Heap} {tk : Nat} (c : σ)
    (F : Fr h₀ L h' m') (N : News h₀ L h' news') (hi : ∀ p ∈ its, p ∈ news') (hn : ∀ p ∈ Led c, p ∈ news') (ho : ∀ p ∈ Led c, ∀ q ∈ its, p.1 ≠ q.1) (hk : ∀ p ∈ ps c, m' p.1 = some p.2) (hr : ∀ z, stored.contains z = false → m' z = m₀ z) (hp : P c) :
    EEnd h₀ L Led ps stored m₀ P its s₁ { s₁ with heap := h', toks := tk } := ⟨c, h', tk, m', news', rfl, F, N, hi, hn, ho, hk, hr, hp⟩
/-- the state of a loop over items: names and ledger by the letter c -/
noncomputable def StJ {σ : Type} (Led : σ → List (Addr × Obj)) (ps : σ → List (Str × Value)) (stored : List Str) (m₀ : Str → Option Value) (P : Nat → σ → Prop) (i : Nat) (m : Str → Option Value) (news : List (Addr × Obj)) : Prop :=
  ∃ c, news = Led c ∧ (∀ p ∈ ps c, m p.1 = some p.2) ∧ (∀ z, stored.contains z = false → m z = m₀ z) ∧ P i c
theorem subL_of : ∀ {a b : List (Addr × Obj)}, (∀ p ∈ a, p ∈ b) → SubL a b
  | [], _, _ => trivial
  | _ :: _, _, h => ⟨h _ (.head _), subL_of fun q hq => h q (.tail _ hq)⟩
theorem unr_of {σ : Type} {Led : σ → List (Addr × Obj)} {ps : σ → List (Str × Value)} {stored : List Str} {m₀ : Str → Option Value} {P : Nat → σ → Prop} {i : Nat} {its keep : List (Addr × Obj)} {s₁ : Shared} {f : Flow} {s₂ : Shared} (hkeep : ∀ c, ∀ p ∈ keep, p ∈ Led c)
    (h : EPost h₀ env.locals Led ps stored m₀ (P (i + 1)) its s₁ Q f s₂) : UnrPostW h₀ env.locals s₁ its (fun m' n' => SubL keep n' ∧ StJ Led ps stored m₀ P (i + 1) m' n') Q f s₂ := by
  have up : EEnd h₀ env.locals Led ps stored m₀ (P (i + 1)) its s₁ s₂ → UnrEndW h₀ env.locals s₁ its (fun m' n' => SubL keep n' ∧ StJ Led ps stored m₀ P (i + 1) m' n') s₂ := by
    rintro ⟨c, h', tk, m', news', e, F, N, hi, hn, ho, hk, hr, hp⟩
    exact ⟨h', tk, m', Led c, e, F, fun p hp => N p ((List.mem_append.mp hp).elim (hi p) (hn p)), ho, subL_of (hkeep c), c, rfl, hk, hr, hp⟩
  cases f with
  | ret v => exact h
  | brk => exact h
  | next => exact up h
  | cont => exact up h
theorem forEnum {σ : Type} {elts : List Expr} {k : Nat} {pos : Pos} {l : Addr} {vs : List Value} {ns : List Int} {nn : Nat} {m₀ : Str → Option Value} {news : List (Addr × Obj)} (Led : σ → List (Addr × Obj)) (ps : σ → List (Str × Value)) (stored : List Str) (P : Nat → σ → Prop) (c₀ : σ)
    (hh : A.handled = none) (hl : ∀ c, (l, listOf vs.toArray nn) ∈ Led c) (hi : IntsAre vs ns) (F : Fr h₀ env.locals s.heap m₀) (N : News h₀ env.locals s.heap news) (hN : ∀ p ∈ Led c₀, p ∈ news) (hk : ∀ p ∈ ps c₀, m₀ p.1 = some p.2) (hp : P 0 c₀)
    (turn : ∀ (I : Addr) (c : σ) (i : Nat) T t tn (u : Str → Option Value) h tk (oe oi : Obj), (∀ p ∈ Led c₀, p.1 < I) → i < ns.length → P i c → IsTup h T #[.int (i : Int) t, .int (ns.getD i 0) tn] → oe.cls = .type "enumerate" → oi.cls = .type "list_iterator" →
      Fr h₀ env.locals h (kstB (fun z => if stored.contains z then u z else m₀ z) (ps c)) → News h₀ env.locals h ((I + 1, oe) :: (I, oi) :: Led c) →
      wpAny (model prog w) A (assign (.Tuple elts k pos) env (.ref T)) (fun _ s₂ => wpAny (model prog w) A (execs body env) (EPost h₀ env.locals Led ps stored m₀ (P (i + 1)) [(I + 1, oe), (I, oi)] { s with heap := h, toks := tk } Q) E s₂) E { s with heap := h, toks := tk })
    (done : ∀ (c : σ) (u : Str → Option Value) h tk, P ns.length c → Fr h₀ env.locals h (kstB (fun z => if stored.contains z then u z else m₀ z) (ps c)) → News h₀ env.locals h (Led c) → Q .next { s with heap := h, toks := tk }) :
    wpAny (model prog w) A (call (.type "enumerate") [.ref l]) (fun xv s₁ => wpAny (model prog w) A (pyIter xv) (fun it s₂ => TurnsAt prog w A h₀ env (.Tuple elts k pos) body Q E it s₂) E s₁) E s := by
  refine ktu_enum (lo := listOf vs.toArray nn) (vs := vs) (n := nn) hh F (fun p h => N p (hN p h)) (hl c₀) rfl rfl rfl fun I hlow => ?_
  have hlen : (enumItems 0 vs).length = ns.length := by rw [enumItems_length, hi.length]
  have key := itemsInv (prog := prog) (w := w) (A := A) (E := E) (s := s) (env := env) (h₀ := h₀) (target := .Tuple elts k pos) (body := body) (Q := Q) (ws := [(I + 1, "enumerate"), (I, "list_iterator")]) (keep := [(l, listOf vs.toArray nn)]) (xs := enumItems 0 vs)
    (StJ Led ps stored m₀ P) ?_ ?_ ns.length 0 m₀ (Led c₀) (by rw [hlen]; omega) ⟨c₀, rfl, hk, fun _ _ => rfl, hp⟩
  · rw [List.drop_zero] at key; exact key
  · rintro i a v h tk m nw ha hv ⟨c, rfl, h1, h2, hp'⟩ F'
    have hin : i < ns.length := by
      obtain ⟨hlt, _⟩ := List.getElem?_eq_some_iff.mp ha
      omega
    obtain ⟨tn, hvi⟩ := ints_at hi i hin
    have hg := enumItems_get vs 0 i hvi
    rw [ha] at hg
    obtain rfl := Option.some.inj hg
    obtain ⟨T, t, rfl, hT⟩ := hv
    rw [Nat.zero_add] at hT
    have e : ns[i] = ns.getD i 0 := by rw [List.getD_eq_getElem?_getD, List.getElem?_eq_getElem hin, Option.getD_some]
    rw [e] at hT
    refine AllObj.cons fun oe hoe => AllObj.cons fun oi hoi => AllObj.nil fun N' => ?_
    refine wpAny_mono (turn I c i T t tn m h tk oe oi hlow hin hp' hT hoe hoi (ksw_fr h1 (fun z _ h3 => h2 z h3) F') N') (fun _ s₂ h₂ => wpAny_mono h₂ (fun f s₃ p => ?_) fun _ _ e => e) fun _ _ e => e
    exact unr_of (fun c p hp => by rw [List.mem_singleton.mp hp]; exact hl c) p
  · rintro m nw h tk ⟨c, rfl, h1, h2, hp'⟩ F' N'
    rw [hlen] at hp'
    exact done c m h tk hp' (ksw_fr h1 (fun z _ h3 => h2 z h3) F') N'
theorem apart2 {E9 I : Addr} {o oe oi : Obj} {base : Led} (hE : @LT.lt Nat _ E9 I ∨ @LT.lt Nat _ (I + 1) E9) (hI : ∀ p ∈ base, p.1 < I) : ∀ p ∈ (E9, o) :: base, ∀ q ∈ [((I + 1, oe) : Addr × Obj), (I, oi)], p.1 ≠ q.1 := by
  intro p hp q hq
  have h1 : p.1 ≠ I + 1 ∧ p.1 ≠ I := by
    rcases List.mem_cons.mp hp with rfl | hp
    · rcases hE with h | h
      · exact ⟨Nat.ne_of_lt (Nat.lt_succ_of_lt h), Nat.ne_of_lt h⟩
      · exact ⟨Nat.ne_of_gt h, Nat.ne_of_gt (Nat.lt_of_succ_lt h)⟩
    · have h := hI p hp
      exact ⟨Nat.ne_of_lt (Nat.lt_succ_of_lt h), Nat.ne_of_lt h⟩
  rcases List.mem_cons.mp hq with rfl | hq
  · exact h1.1
  · rw [List.mem_singleton.mp hq]; exact h1.2
theorem forEnumA {σ : Type} {elts : List Expr} {k : Nat} {pos : Pos} {l a₀ : Addr} {vs : List Value} {ns : List Int} {nn : Nat} {m₀ : Str → Option Value} {base : Led} {ev : List Value} {en : Nat} (la : σ → Addr) (lw : σ → List Value) (ln : σ → Nat) (ps : σ → List (Str × Value)) (stored : List Str) (P : Nat → σ → Prop) (c₀ : σ)
    (hh : A.handled = none) (hl : (l, listOf vs.toArray nn) ∈ base) (hi : IntsAre vs ns) (F : Fr h₀ env.locals s.heap m₀) (N : News h₀ env.locals s.heap ((a₀, listOf ev.toArray en) :: base)) (h1 : la c₀ = a₀) (h2 : lw c₀ = ev) (h3 : ln c₀ = en) (hk : ∀ p ∈ ps c₀, m₀ p.1 = some p.2) (hp : P 0 c₀)
    (turn : ∀ (I : Addr) (c : σ) (i : Nat) T t tn (u : Str → Option Value) h tk (oe oi : Obj), (∀ p ∈ base, p.1 < I) → @LT.lt Nat _ a₀ I → i < ns.length → P i c → IsTup h T #[.int (i : Int) t, .int (ns.getD i 0) tn] → oe.cls = .type "enumerate" → oi.cls = .type "list_iterator" →
      Fr h₀ env.locals h (kstB (fun z => if stored.contains z then u z else m₀ z) (ps c)) → News h₀ env.locals h ((I + 1, oe) :: (I, oi) :: (la c, listOf (lw c).toArray (ln c)) :: base) →
      wpAny (model prog w) A (assign (.Tuple elts k pos) env (.ref T)) (fun _ s₂ => wpAny (model prog w) A (execs body env) (EPost h₀ env.locals (fun c => (la c, listOf (lw c).toArray (ln c)) :: base) ps stored m₀ (P (i + 1)) [(I + 1, oe), (I, oi)] { s with heap := h, toks := tk } Q) E s₂) E { s with heap := h, toks := tk })
    (done : ∀ (c : σ) (u : Str → Option Value) h tk, P ns.length c → Fr h₀ env.locals h (kstB (fun z => if stored.contains z then u z else m₀ z) (ps c)) → News h₀ env.locals h ((la c, listOf (lw c).toArray (ln c)) :: base) → Q .next { s with heap := h, toks := tk }) :
    wpAny (model prog w) A (call (.type "enumerate") [.ref l]) (fun xv s₁ => wpAny (model prog w) A (pyIter xv) (fun it s₂ => TurnsAt prog w A h₀ env (.Tuple elts k pos) body Q E it s₂) E s₁) E s := by
  subst h1 h2 h3
  exact forEnum (fun c => (la c, listOf (lw c).toArray (ln c)) :: base) ps stored P c₀ hh (fun _ => .tail _ hl) hi F N (fun _ h => h) hk hp (fun I c i T t tn u h tk oe oi hlow => turn I c i T t tn u h tk oe oi (fun p hp => hlow p (.tail _ hp)) (hlow _ (.head _))) done
theorem forEnumH {σ : Type} {elts : List Expr} {k : Nat} {pos : Pos} {l a₀ : Addr} {vs : List Value} {ns : List Int} {nn : Nat} {m₀ : Str → Option Value} {base : Led} {ev : List Value} {en : Nat} (lw : σ → List Value) (ln : σ → Nat) (ps : σ → List (Str × Value)) (stored : List Str) (P : Nat → σ → Prop) (c₀ : σ)
    (hh : A.handled = none) (hl : (l, listOf vs.toArray nn) ∈ base) (hi : IntsAre vs ns) (F : Fr h₀ env.locals s.heap m₀) (N : News h₀ env.locals s.heap ((a₀, listOf ev.toArray en) :: base)) (hb : ∀ p ∈ base, p.1 ≠ a₀) (h2 : lw c₀ = ev) (h3 : ln c₀ = en) (hk : ∀ p ∈ ps c₀, m₀ p.1 = some p.2) (hp : P 0 c₀)
    (turn : ∀ (I : Addr) (c : σ) (i : Nat) T t tn (u : Str → Option Value) h tk (oe oi : Obj), (∀ p ∈ base, p.1 < I) → @LT.lt Nat _ a₀ I → (∀ p ∈ base, p.1 ≠ a₀) → i < ns.length → P i c → IsTup h T #[.int (i : Int) t, .int (ns.getD i 0) tn] → oe.cls = .type "enumerate" → oi.cls = .type "list_iterator" →
      Fr h₀ env.locals h (kstB (fun z => if stored.contains z then u z else m₀ z) (ps c)) → News h₀ env.locals h ((I + 1, oe) :: (I, oi) :: (a₀, listOf (lw c).toArray (ln c)) :: base) →
      wpAny (model prog w) A (assign (.Tuple elts k pos) env (.ref T)) (fun _ s₂ => wpAny (model prog w) A (execs body env) (EPost h₀ env.locals (fun c => (a₀, listOf (lw c).toArray (ln c)) :: base) ps stored m₀ (P (i + 1)) [(I + 1, oe), (I, oi)] { s with heap := h, toks := tk } Q) E s₂) E { s with heap := h, toks := tk })
    (done : ∀ (c : σ) (u : Str → Option Value) h tk, P ns.length c → Fr h₀ env.locals h (kstB (fun z => if stored.contains z then u z else m₀ z) (ps c)) → News h₀ env.locals h ((a₀, listOf (lw c).toArray (ln c)) :: base) → Q .next { s with heap := h, toks := tk }) :
    wpAny (model prog w) A (call (.type "enumerate") [.ref l]) (fun xv s₁ => wpAny (model prog w) A (pyIter xv) (fun it s₂ => TurnsAt prog w A h₀ env (.Tuple elts k pos) body Q E it s₂) E s₁) E s :=
  forEnumA (fun _ => a₀) lw ln ps stored P c₀ hh hl hi F N rfl h2 h3 hk hp (fun I c i T t tn u h tk oe oi hl hE => turn I c i T t tn u h tk oe oi hl hE hb) done
theorem forZip {σ : Type} {elts : List Expr} {k : Nat} {pos : Pos} {l1 l2 : Addr} {xs ys : List Value} {n1 n2 : Nat} {m₀ : Str → Option Value} {news : List (Addr × Obj)} (Led : σ → List (Addr × Obj)) (ps : σ → List (Str × Value)) (stored : List Str) (P : Nat → σ → Prop) (c₀ : σ)
    (hh : A.handled = none) (hl1 : ∀ c, (l1, listOf xs.toArray n1) ∈ Led c) (hl2 : ∀ c, (l2, listOf ys.toArray n2) ∈ Led c) (F : Fr h₀ env.locals s.heap m₀) (N : News h₀ env.locals s.heap news) (hN : ∀ p ∈ Led c₀, p ∈ news) (hk : ∀ p ∈ ps c₀, m₀ p.1 = some p.2) (hp : P 0 c₀)
    (turn : ∀ (I : Addr) (c : σ) (i : Nat) T x y (u : Str → Option Value) h tk (o1 o2 o3 o4 o5 : Obj), (∀ p ∈ Led c₀, p.1 < I) → xs[i]? = some x → ys[i]? = some y → P i c → IsTup h T #[x, y] →
      Fr h₀ env.locals h (kstB (fun z => if stored.contains z then u z else m₀ z) (ps c)) → News h₀ env.locals h ((I + 4, o1) :: (I + 2, o2) :: (I + 3, o3) :: (I, o4) :: (I + 1, o5) :: Led c) →
      wpAny (model prog w) A (assign (.Tuple elts k pos) env (.ref T)) (fun _ s₂ => wpAny (model prog w) A (execs body env) (EPost h₀ env.locals Led ps stored m₀ (P (i + 1)) [(I + 4, o1), (I + 2, o2), (I + 3, o3), (I, o4), (I + 1, o5)] { s with heap := h, toks := tk } Q) E s₂) E { s with heap := h, toks := tk })
    (done : ∀ (c : σ) (u : Str → Option Value) h tk, P (min xs.length ys.length) c → Fr h₀ env.locals h (kstB (fun z => if stored.contains z then u z else m₀ z) (ps c)) → News h₀ env.locals h (Led c) → Q .next { s with heap := h, toks := tk }) :
    wpAny (model prog w) A (call (.type "zip") [.ref l1, .ref l2]) (fun xv s₁ => wpAny (model prog w) A (pyIter xv) (fun it s₂ => TurnsAt prog w A h₀ env (.Tuple elts k pos) body Q E it s₂) E s₁) E s := by
  refine ktu_zip (lo1 := listOf xs.toArray n1) (lo2 := listOf ys.toArray n2) (xs := xs) (ys := ys) (n1 := n1) (n2 := n2) hh F (fun p h => N p (hN p h)) (hl1 c₀) rfl rfl (hl2 c₀) rfl rfl fun I hlow => ?_
  have hlen := zipItems_length xs ys
  have key := itemsInv (prog := prog) (w := w) (A := A) (E := E) (s := s) (env := env) (h₀ := h₀) (target := .Tuple elts k pos) (body := body) (Q := Q) (ws := [(I + 4, "zip"), (I + 2, "tuple"), (I + 3, "tuple"), (I, "list_iterator"), (I + 1, "list_iterator")]) (keep := [(l1, listOf xs.toArray n1), (l2, listOf ys.toArray n2)]) (xs := zipItems xs ys)
    (StJ Led ps stored m₀ P) ?_ ?_ (zipItems xs ys).length 0 m₀ (Led c₀) (by omega) ⟨c₀, rfl, hk, fun _ _ => rfl, hp⟩
  · rw [List.drop_zero] at key; exact key
  · rintro i a v h tk m nw ha hv ⟨c, rfl, h1, h2, hp'⟩ F'
    have hin : i < min xs.length ys.length := by
      obtain ⟨hlt, _⟩ := List.getElem?_eq_some_iff.mp ha
      omega
    have hx : xs[i]? = some xs[i] := List.getElem?_eq_getElem (by omega)
    have hy : ys[i]? = some ys[i] := List.getElem?_eq_getElem (by omega)
    have hg := zipItems_get xs ys i hx hy
    rw [ha] at hg
    obtain rfl := Option.some.inj hg
    obtain ⟨T, t, rfl, hT⟩ := hv
    refine AllObj.cons fun o1 _ => AllObj.cons fun o2 _ => AllObj.cons fun o3 _ => AllObj.cons fun o4 _ => AllObj.cons fun o5 _ => AllObj.nil fun N' => ?_
    refine wpAny_mono (turn I c i T _ _ m h tk o1 o2 o3 o4 o5 hlow hx hy hp' hT (ksw_fr h1 (fun z _ h3 => h2 z h3) F') N') (fun _ s₂ h₂ => wpAny_mono h₂ (fun f s₃ p => ?_) fun _ _ e => e) fun _ _ e => e
    refine unr_of (fun c p hp => ?_) p
    rcases List.mem_cons.mp hp with rfl | hp
    · exact hl1 c
    · rw [List.mem_singleton.mp hp]; exact hl2 c
  · rintro m nw h tk ⟨c, rfl, h1, h2, hp'⟩ F' N'
    rw [hlen] at hp'
    exact done c m h tk hp' (ksw_fr h1 (fun z _ h3 => h2 z h3) F') N'
end
section
variable {prog : Program} {w : World} {A : Around} {h₀ : Heap} {L : Addr} {m : Str → Option Value} {env : Env} {elt : Expr} {x : Str} {scope : Scope} {cl : List (Str × Addr)} {s : Shared} {Fin : List Value → List (Addr × Obj) → Prop}
noncomputable def CEnd {σ : Type} (h₀ : Heap) (L : Addr) (m : Str → Option Value) (s₁ : Shared) (I : Addr) (oI : Obj) (C : Addr) (oC : Obj) (D : Addr) (ys : List Value) (Led : σ → List (Addr × Obj)) (P : List Value → σ → Prop) (y : Value) (s₂ : Shared) : Prop :=
  ∃ (c : σ) (h' : Heap) (tk : Nat) (all : List (Addr × Obj)), s₂ = { s₁ with heap := h', toks := tk } ∧ Fr h₀ L h' m ∧ News h₀ L h' all ∧ (∀ p ∈ (I, oI) :: (C, oC) :: (D, LCg.lst ys) :: Led c, p ∈ all) ∧ LCg.Off3 I C D (Led c) ∧ P (ys ++ [y]) c
theorem cEnd {σ : Type} {s₁ : Shared} {I : Addr} {oI : Obj} {C : Addr} {oC : Obj} {D : Addr} {ys : List Value} {Led : σ → List (Addr × Obj)} {P : List Value → σ → Prop} {y : Value} {h' : Heap} {tk : Nat} {all : List (Addr × Obj)} (c : σ) (F : Fr h₀ L h' m) (N : News h₀ L h' all)
    (sub : ∀ p ∈ (I, oI) :: (C, oC) :: (D, LCg.lst ys) :: Led c, p ∈ all) (off : LCg.Off3 I C D (Led c)) (hp : P (ys ++ [y]) c) : CEnd h₀ L m s₁ I oI C oC D ys Led P y { s₁ with heap := h', toks := tk } := ⟨c, h', tk, all, rfl, F, N, sub, off, hp⟩
theorem compS {σ : Type} {n : Nat} {a : Int} (Led : σ → List (Addr × Obj)) (P : Nat → List Value → σ → Prop) (c₀ : σ) (hp : P 0 [] c₀)
    (turn : ∀ (c : σ) i k t I oI C oC D m₂ ys h tk (E' : Value → Shared → Prop), i < n → k = a + (i : Int) → P i ys c → LCg.NsObj oC m₂ → m₂ x = some (.int k t) → Fr h₀ L h m → News h₀ L h ((I, oI) :: (C, oC) :: (D, LCg.lst ys) :: Led c) → LCg.Off3 I C D (Led c) → ((@Ne Nat I C) ∧ (@Ne Nat I D) ∧ (@Ne Nat C D)) →
      wpAny (model prog w) A (eval elt (compEnvC scope cl C env)) (CEnd h₀ L m { s with heap := h, toks := tk } I oI C oC D ys Led (P (i + 1))) E' { s with heap := h, toks := tk })
    (fin : ∀ c ys, P n ys c → Fin ys (Led c)) : LCg.CompRest prog w A h₀ L m env elt x scope cl s (fun _ => True) (fun i v => ∃ t, v = .int (a + (i : Int)) t) Fin n 0 [] (Led c₀) := by
  have key : ∀ (j i : Nat) (ys : List Value) (c : σ), i + j = n → P i ys c → LCg.CompRest prog w A h₀ L m env elt x scope cl s (fun _ => True) (fun i v => ∃ t, v = .int (a + (i : Int)) t) Fin j i ys (Led c) := by
    intro j
    induction j with
    | zero =>
      intro i ys c hi hc
      obtain rfl : i = n := by omega
      exact LCg.CompRest.zero (fin c ys hc)
    | succ j ih =>
      intro i ys c hi hc
      refine LCg.CompRest.succ ?_
      rintro v I oI C oC D m₂ h tk E' ⟨t, rfl⟩ hC hx F N off ne
      refine wpAny_mono (turn c i _ t I oI C oC D m₂ ys h tk E' (by omega) rfl hc hC hx F N off ne) (fun y s₂ hq => ?_) fun _ _ e => e
      obtain ⟨c', h', tk', all, e, F', N', sub, off', hc'⟩ := hq
      exact ⟨h', tk', Led c', e, F', fun p hp => N' p (sub p hp), off', trivial, ih (i + 1) _ c' (by omega) hc'⟩
  exact key n 0 [] c₀ (by omega) hp
end
section
variable {prog : Program} {w : World} {A : Around} {h₀ : Heap} {L ax : Addr} {m : Str → Option Value} {env : Env} {elt : Expr} {x : Str} {scope : Scope} {cl : List (Str × Addr)} {s : Shared} {Fin : List Value → List (Addr × Obj) → Prop}
theorem compL {σ : Type} {vs : List Value} {ns : List Int} {kk : Nat} (Led : σ → Led) (P : Nat → List Value → σ → Prop) (c₀ : σ) (hi : IntsAre vs ns) (hl : ∀ c, (ax, listOf vs.toArray kk) ∈ Led c) (hp : P 0 [] c₀)
    (turn : ∀ (c : σ) i k t I oI C oC D m₂ ys h tk (E' : Value → Shared → Prop), i < ns.length → k = ns.getD i 0 → k ∈ ns → P i ys c → LCg.NsObj oC m₂ → m₂ x = some (.int k t) → Fr h₀ L h m → News h₀ L h ((I, oI) :: (C, oC) :: (D, LCg.lst ys) :: Led c) → LCg.Off3 I C D (Led c) → ((@Ne Nat I C) ∧ (@Ne Nat I D) ∧ (@Ne Nat C D)) →
      wpAny (model prog w) A (eval elt (compEnvC scope cl C env)) (CEnd h₀ L m { s with heap := h, toks := tk } I oI C oC D ys Led (P (i + 1))) E' { s with heap := h, toks := tk })
    (fin : ∀ c ys, P ns.length ys c → Fin ys (Led c)) : LCg.CompRest prog w A h₀ L m env elt x scope cl s (LCg.SrcAt h₀ ax vs.toArray) (fun i v => vs.toArray[i]? = some v) Fin vs.toArray.size 0 [] (Led c₀) := by
  have hz : vs.toArray.size = ns.length := by rw [List.size_toArray, hi.length]
  have key : ∀ (j i : Nat) (ys : List Value) (c : σ), i + j = ns.length → P i ys c → LCg.CompRest prog w A h₀ L m env elt x scope cl s (LCg.SrcAt h₀ ax vs.toArray) (fun i v => vs.toArray[i]? = some v) Fin j i ys (Led c) := by
    intro j
    induction j with
    | zero =>
      intro i ys c hi' hc
      obtain rfl : i = ns.length := by omega
      exact LCg.CompRest.zero (fin c ys hc)
    | succ j ih =>
      intro i ys c hi' hc
      refine LCg.CompRest.succ ?_
      intro v I oI C oC D m₂ h tk E' hv hC hx F N off ne
      have hin : i < ns.length := by omega
      obtain ⟨t, ht⟩ := ints_at hi i hin
      have hv' : vs[i]? = some v := by simpa using hv
      rw [ht] at hv'
      obtain rfl := Option.some.inj hv'
      have e : ns[i] = ns.getD i 0 := by rw [List.getD_eq_getElem?_getD, List.getElem?_eq_getElem hin, Option.getD_some]
      refine wpAny_mono (turn c i ns[i] t I oI C oC D m₂ ys h tk E' hin e (List.getElem_mem hin) hc hC hx F N off ne) (fun y s₂ hq => ?_) fun _ _ e => e
      obtain ⟨c', h', tk', all, e, F', N', sub, off', hc'⟩ := hq
      exact ⟨h', tk', Led c', e, F', fun p hp => N' p (sub p hp), off', .inr ⟨_, hl c', rfl, _, rfl⟩, ih (i + 1) _ c' (by omega) hc'⟩
  rw [hz]
  exact key ns.length 0 [] c₀ (by omega) hp
end
section
variable {w : World} {loose : List Str} {mean : ExcName → Option Value} {mg mb : Str → Option Value}
theorem con_sub {f : Addr} {n u : Nat} {vs : List Value} {news news₀ : Led} {Ret : (Value → Led → Prop) → Prop} (h : ∀ p ∈ news₀, p ∈ news) (C : Con w loose mean mg mb f n u vs news₀ Ret) : Con w loose mean mg mb f n u vs news Ret :=
  fun dp un gd cn cs a ccd cl outer A₀ base h₀ L m s Q E B F X N T hk hd hu hret => C dp un gd cn cs a ccd cl outer A₀ base h₀ L m s Q E B F X (fun p hp => N p (h p hp)) T hk hd hu hret
theorem con_mono {f : Addr} {n u : Nat} {vs : List Value} {news : Led} {Ret Ret' : (Value → Led → Prop) → Prop} (h : ∀ K, (∀ r a b, K r b → (∀ p ∈ b, p ∈ a) → K r a) → Ret' K → Ret K) (C : Con w loose mean mg mb f n u vs news Ret) : Con w loose mean mg mb f n u vs news Ret' :=
  fun dp un gd cn cs a ccd cl outer A₀ base h₀ L m s Q E B F X N T hk hd hu hret => C dp un gd cn cs a ccd cl outer A₀ base h₀ L m s Q E B F X N T hk hd hu (h _ (fun _ _ _ hb hs h' tk' F' N' => hb h' tk' F' fun p hp => N' p (hs p hp)) hret)
end
section
variable {prog : Program} {w : World} {A : Around} {E : Value → Shared → Prop} {s : Shared} {h₀ : Heap} {L D : Addr} {m : Str → Option Value} {news news' : Led} {vs : List Value} {ns : List Int} {n : Nat} {x : Int} {t : Tok} {Q : Value → Shared → Prop}
theorem append_i (F : Fr h₀ L s.heap m) (N : News h₀ L s.heap news) (U : Upd D (listOf vs.toArray n) (listOf (List.toArray (vs ++ [Value.int x t])) (n + 1)) news news') (hi : IntsAre vs ns) (hz : ns.length ≤ 1000)
    (h : ∀ h', Fr h₀ L h' m → News h₀ L h' news' → IntsAre (vs ++ [Value.int x t]) (ns ++ [x]) → Q .none { s with heap := h' }) : wpAny (model prog w) A (call (.builtin "list.append") [Value.ref D, Value.int x t]) Q E s :=
  append_K F N (by rw [List.push_toArray]; exact U) (fun h' F' N' => h h' F' N' (hi.append (.cons x t .nil))) (kmk_size1000 hi hz)
end
section
variable {prog : Program} {w : World} {A : Around} {E : Value → Shared → Prop} {s : Shared} {h₀ : Heap} {L : Addr} {m : Str → Option Value} {news : Led} {a b c : Int} {t u x : Tok} {Q : Value → Shared → Prop}
theorem min3_N (hh : A.handled = none) (F : Fr h₀ L s.heap m) (N : News h₀ L s.heap news)
    (h : ∀ h' tk tok, Fr h₀ L h' m → News h₀ L h' news → Q (Value.int (min (min a b) c) tok) { s with heap := h', toks := tk }) : wpAny (model prog w) A (call (.builtin "min") [Value.int a t, Value.int b u, Value.int c x]) Q E s := by
  refine min_three_ints hh fun h' tk hk => ?_
  have key := fun tok => h h' tk tok (F.grownK hk) (N.grown hk)
  by_cases h1 : b < a
  · have e : min a b = b := by omega
    rw [if_pos h1]
    by_cases h2 : c < b
    · rw [if_pos h2]
      rw [e, show min b c = c by omega] at key
      exact key _
    · rw [if_neg h2]
      rw [e, show min b c = b by omega] at key
      exact key _
  · have e : min a b = a := by omega
    rw [if_neg h1]
    by_cases h2 : c < a
    · rw [if_pos h2]
      rw [e, show min a c = c by omega] at key
      exact key _
    · rw [if_neg h2]
      rw [e, show min a c = a by omega] at key
      exact key _
end
section
variable {prog : Program} {w : World} {A : Around} {E : Value → Shared → Prop} {s : Shared} {h₀ : Heap} {L D a : Addr} {m : Str → Option Value} {news news' : Led} {vs : List Value} {n : Nat} {Q : Value → Shared → Prop}
theorem append_r (F : Fr h₀ L s.heap m) (N : News h₀ L s.heap news) (U : Upd D (listOf vs.toArray n) (listOf (List.toArray (vs ++ [Value.ref a])) (n + 1)) news news') (hz : vs.length ≤ 1000)
    (h : ∀ h', Fr h₀ L h' m → News h₀ L h' news' → Q .none { s with heap := h' }) : wpAny (model prog w) A (call (.builtin "list.append") [Value.ref D, Value.ref a]) Q E s :=
  append_K F N (by rw [List.push_toArray]; exact U) (fun h' F' N' => h h' F' N') (by rw [PySem.sizeLine_eq, List.size_toArray]; omega)
end
end
section
section
variable {prog : Program} {w : World} {A : Around} {E : Value → Shared → Prop} {s : Shared} {env : Env} {h₀ : Heap} {x : PySem.Str} {px : Pos} {body : List Stmt} {Q : Flow → Shared → Prop}
/-- a for over a range, ahead of its iterator, where the tokens count from one -/
structure RangeT (prog : Program) (w : World) (A : Around) (env : Env) (x : PySem.Str) (px : Pos) (body : List Stmt) (Q : Flow → Shared → Prop) (E : Value → Shared → Prop) (xv : Value) (s₁ : Shared) : Prop where
  go : 1 ≤ s₁.toks → wpAny (model prog w) A (pyIter xv) (fun it s₂ => codeAny (model prog w) A (.forLoop (.Name x px) it body [] env) (fun r s' => match r with | .ok f => Q f s' | .error e => cameBackBy (model prog w) A env E e s') s₂) E s₁
theorem For_T {pos : Pos} {iter : Expr} (ht : 1 ≤ s.toks) (h : wpAny (model prog w) A (eval iter env) (fun xv s₁ => RangeT prog w A env x px body Q E xv s₁) E s)
    (hs : ∀ x, foldedSetIterable iter env x = pure x := by intro _; rfl) : wpAny (model prog w) A (exec (.For (.Name x px) iter body [] pos) env) Q E s :=
  wpAny_For (wpAny_with_toks ht (wpAny_mono h (fun _ _ q => q.go) fun _ _ q _ => q)) hs
noncomputable def TEnd (h₀ : Heap) (L : Addr) (its : Led) (m₀ : PySem.Str → Option Value) (x : PySem.Str) (news : Led) (P : Prop) (s₁ s₂ : Shared) : Prop :=
  ∃ (h' : Heap) (tk : Nat) (m' : PySem.Str → Option Value) (news' : Led), s₂ = { s₁ with heap := h', toks := tk } ∧ Fr h₀ L h' m' ∧ News h₀ L h' news' ∧ (∀ p ∈ its, p ∈ news') ∧ (∀ p ∈ news, p ∈ news') ∧ (∀ z, z ≠ x → m' z = m₀ z) ∧ P
noncomputable def TPostF (h₀ : Heap) (L : Addr) (its : Led) (m₀ : PySem.Str → Option Value) (x : PySem.Str) (news : Led) (P : Prop) (s₁ : Shared) (Q : Flow → Shared → Prop) (f : Flow) (s₂ : Shared) : Prop :=
  match f with
  | .ret v => Q (.ret v) s₂
  | .brk => Q .next s₂
  | _ => TEnd h₀ L its m₀ x news P s₁ s₂
theorem tEnd {L : Addr} {its news news' : Led} {m₀ m' : PySem.Str → Option Value} {P : Prop} {s₁ : Shared} {h' : Heap} {tk : Nat} (F : Fr h₀ L h' m') (N : News h₀ L h' news') (hi : ∀ p ∈ its, p ∈ news') (hn : ∀ p ∈ news, p ∈ news') (hr : ∀ z, z ≠ x → m' z = m₀ z) (hp : P) :
    TEnd h₀ L its m₀ x news P s₁ { s₁ with heap := h', toks := tk } := ⟨h', tk, m', news', rfl, F, N, hi, hn, hr, hp⟩
theorem forRangeT {r : Addr} {a₀ b₀ : Int} {t₀ u₀ v₀ : Tok} {n : Nat} {m₀ : PySem.Str → Option Value} {news : Led} (P : Nat → Prop)
    (hh : A.handled = none) (hxl : env.kindOf x = some .local) (hpl : (env.scope.kind == .class || (env.scope.kind == .module && env.locals != env.globals)) = false)
    (hr : IsRange s.heap r a₀ b₀ 1 t₀ u₀ v₀) (hsmall : Builtin.Range.small a₀ b₀ 1 = true) (hn : Builtin.Range.rangeSize a₀ b₀ 1 = (n : Int)) (F : Fr h₀ env.locals s.heap m₀) (N : News h₀ env.locals s.heap news) (hp : P 0)
    (turn : ∀ (I : Addr) (oI : Obj) (i : Nat) (k : Int) t h tk, (∀ p ∈ news, p.1 < I) → i < n → k = a₀ + (i : Int) → t ≠ 0 → P i → Fr h₀ env.locals h (fun y => if y = x then some (.int k t) else m₀ y) → News h₀ env.locals h ((I, oI) :: news) →
      wpAny (model prog w) A (execs body env) (TPostF h₀ env.locals [(I, oI)] m₀ x news (P (i + 1)) { s with heap := h, toks := tk } Q) E { s with heap := h, toks := tk })
    (done : ∀ (u : PySem.Str → Option Value) h tk, P n → Fr h₀ env.locals h (fun y => if y = x then u y else m₀ y) → News h₀ env.locals h news → Q .next { s with heap := h, toks := tk })
    (hE : PassesOwn (model prog w) A env E := by passes_own) :
    RangeT prog w A env x px body Q E (.ref r) s := by
  refine ⟨fun ht => ?_⟩
  refine wpAny_pyIter_range hr hsmall ?_
  rw [hn]
  have hIL : s.heap.objs.size ≠ env.locals := Nat.ne_of_gt F.ns.lt
  have hI0 : h₀.get? s.heap.objs.size = none := next_is_new F
  have hlow : ∀ p ∈ news, p.1 < s.heap.objs.size := fun p hp => Heap.lt_size (N p hp).1
  generalize hIe : s.heap.objs.size = I at *
  refine codeAny_forLoop_any (fun k s' => ∃ h' tk i u, s' = { s with heap := h', toks := tk } ∧ 1 ≤ tk ∧ IsRangeIter h' I (a₀ + ((i : Nat) : Int)) ((n : Int) - i) 1 ∧ Fr h₀ env.locals h' (fun y => if y = x then u y else m₀ y) ∧ News h₀ env.locals h' news ∧ P i ∧ i ≤ n ∧ k = n + 1 - i) ?_ (n + 1)
    ⟨_, _, 0, m₀, rfl, ht, ?_, ?_, ?_, hp, Nat.zero_le _, rfl⟩
  · rintro k s' ⟨h', tk, i, u, rfl, htk, hit, F', N', hP, hi, rfl⟩
    have keepN : ∀ h₁ : Heap, Heap.SameBut I h' h₁ → Fr h₀ env.locals h₁ (fun y => if y = x then u y else m₀ y) ∧ News h₀ env.locals h₁ news := fun h₁ hs =>
      ⟨F'.change hs hIL hI0, fun p hp => ⟨hs.extBut _ _ (Nat.ne_of_lt (hlow p hp)) (N' p hp).1, (N' p hp).2⟩⟩
    by_cases hlt : i < n
    · refine wpAny_pyNext_range_item hit (by omega) fun h₁ hit₁ hs₁ => ?_
      obtain ⟨F₁, N₁⟩ := keepN h₁ hs₁
      refine wpAny_pure ?_
      refine wpAny_assign_Name (wpAny_storeName_local hxl F₁.ns (fun h₂ hn₂ hs₂ => ?_) hpl)
      have hs₂' : Heap.SameBut env.locals h₁ h₂ := hs₂
      have F₂ : Fr h₀ env.locals h₂ (fun y => if y = x then some (.int (a₀ + (i : Int)) tk) else m₀ y) := by
        have e : (fun y => if y = x then some (Value.int (a₀ + (i : Int)) tk) else m₀ y) = (fun y => if y = x then some (Value.int (a₀ + (i : Int)) tk) else (if y = x then u y else m₀ y)) := by
          funext y; by_cases q : y = x <;> simp [q]
        rw [e]
        refine ⟨hn₂, fun b o hb => ?_, F₁.above⟩
        refine hs₂'.extBut b o (fun q => ?_) (F₁.keep b o hb)
        rw [q] at hb
        exact absurd (Heap.lt_size hb) (Nat.not_lt.mpr F₁.above)
      have N₂ : News h₀ env.locals h₂ ((I, { cls := .type "range_iterator", dict := none, data := .fields #[rawInt (a₀ + (i : Int) + 1), rawInt ((n : Int) - i - 1), rawInt 1], slots := #[] }) :: news) := fun p hp => by
        rcases List.mem_cons.mp hp with rfl | hp
        · exact ⟨hs₂'.extBut _ _ hIL hit₁, hIL, hI0⟩
        · exact ⟨hs₂'.extBut _ _ (N₁ p hp).2.1 (N₁ p hp).1, (N₁ p hp).2⟩
      refine wpAny_mono (wpAny_with_toks (n := 1) (by dsimp only; omega) (wpAny_mono (turn I _ i _ tk h₂ _ hlow hlt rfl (Nat.ne_of_gt htk) hP F₂ N₂) (fun f s₃ q (htk' : 1 ≤ s₃.toks) => And.intro htk' q) fun _ _ q _ => q)) (fun f s₃ q => ?_) hE
      obtain ⟨htk', q⟩ := q
      have up : TEnd h₀ env.locals [(I, ({ cls := .type "range_iterator", dict := none, data := .fields #[rawInt (a₀ + (i : Int) + 1), rawInt ((n : Int) - i - 1), rawInt 1], slots := #[] } : Obj))] m₀ x news (P (i + 1)) { s with heap := h₂, toks := tk + 1 + 1 } s₃ → ∃ m, m < n + 1 - i ∧ ∃ (h' : Heap) (tk i : Nat) (u : PySem.Str → Option Value), s₃ = { s with heap := h', toks := tk } ∧ 1 ≤ tk ∧ IsRangeIter h' I (a₀ + ((i : Nat) : Int)) ((n : Int) - i) 1 ∧ Fr h₀ env.locals h' (fun y => if y = x then u y else m₀ y) ∧ News h₀ env.locals h' news ∧ P i ∧ i ≤ n ∧ m = n + 1 - i := by
        rintro ⟨h₃, tk₃, m', news', rfl, F₃, N₃, hi₃, hn₃, hr₃, hP₃⟩
        refine ⟨n + 1 - (i + 1), by omega, h₃, tk₃, i + 1, m', rfl, htk', ?_, ?_, fun p hp => N₃ p (hn₃ p hp), hP₃, hlt, rfl⟩
        · have z := (N₃ _ (hi₃ _ (.head _))).1
          have e1 : a₀ + (i : Int) + 1 = a₀ + ((i + 1 : Nat) : Int) := by omega
          have e2 : (n : Int) - i - 1 = (n : Int) - ((i + 1 : Nat) : Int) := by omega
          rw [e1, e2] at z
          exact z
        · have e : (fun y => if y = x then m' y else m₀ y) = m' := by
            funext y
            by_cases q : y = x
            · rw [if_pos q]
            · rw [if_neg q]; exact (hr₃ y q).symm
          rw [e]; exact F₃
      cases f with
      | ret v => exact q
      | brk => exact q
      | next => exact up q
      | cont => exact up q
    · obtain rfl : i = n := by omega
      refine wpAny_pyNext_range_end hh hit (by omega) fun h₁ hs₁ => wpAny_execs_nil ?_
      exact done u h₁ tk hP ⟨F'.ns.extBut hs₁ (Ne.symm hIL), fun b o hb => hs₁ b o (fun q => by rw [q, hI0] at hb; cases hb) (F'.keep b o hb), F'.above⟩ fun p hp => ⟨hs₁ _ _ (Nat.ne_of_lt (hlow p hp)) (N' p hp).1, (N' p hp).2⟩
  · show IsRangeIter _ _ _ _ _
    have := Heap.get?_push_size s.heap (o := { cls := .type "range_iterator", data := .fields #[rawInt a₀, rawInt (n : Int), rawInt 1] }) rfl
    rw [hIe] at this
    simpa using this
  · have := F.push { cls := .type "range_iterator", data := .fields #[rawInt a₀, rawInt (n : Int), rawInt 1] }
    have e : (fun y => if y = x then m₀ y else m₀ y) = m₀ := by funext y; simp
    rw [e]; exact this
  · exact fun p hp => ⟨Heap.get?_push_of_some _ (N p hp).1, (N p hp).2⟩
theorem is_small {p : Int} {t u : Tok} {Qv : Value → Shared → Prop} (hs : smallInt p = true) (ht : t ≠ 0) (hu : u ≠ 0) (h : Qv (.bool true) s) : wpAny (model prog w) A (compareOp .Is (.int p t) (.int p u)) Qv E s := by
  show wpAny _ _ (do return Value.bool (← isSame (.int p t) (.int p u))) _ _ _
  unfold isSame
  simp only [beq_self_eq_true, hs, Bool.and_self, if_true]
  unfold isSame.cachedInt
  rw [if_neg (by simp [ht, hu])]
  exact wpAny_bind (wpAny_bind (wpAny_rule (wpAny_pure (wpAny_pure h))))
end
theorem with_toksQ {α : Type} {M : Model} {A : Around} {s : Shared} {t : Sem α} {Q : α → Shared → Prop} {E : Value → Shared → Prop} {n : Nat} (hn : n ≤ s.toks) (h : wpAny M A t (fun a s' => n ≤ s'.toks → Q a s') E s) : wpAny M A t Q E s :=
  wpAny_with_toks hn (wpAny_mono h (fun _ _ q => q) (fun _ _ q _ => q))
theorem first_miss2 {n h : List Int} {st k : Int} {j N : Nat} {r : Option Nat} (hk : k = st + (j : Int)) (h0 : 0 ≤ st) (hj : j < N) (e : ¬ (h.drop k.toNat).take ((k + (n.length : Int)).toNat - k.toNat) = n) (hp : r = srch n h (st.toNat + j) (N - j)) : r = srch n h (st.toNat + (j + 1)) (N - (j + 1)) := by
  have e1 : (k + (n.length : Int)).toNat - k.toNat = n.length := tn_more _ (by rw [hk]; exact Int.add_nonneg h0 (Int.natCast_nonneg _))
  have e2 : k.toNat = st.toNat + j := tn_sum hk h0
  rw [e1, e2] at e
  rw [hp, srch_miss (Nat.sub_pos_of_lt hj) e, Nat.sub_sub, Nat.add_assoc]
/-- a place as a value: NIL for none -/
noncomputable def sv (r : Option Nat) (t : Tok) : Value := match r with | none => .ref 57 | some i => .int (i : Int) t
/-- two texts compared as a value: T for the same -/
noncomputable def cv (a b : List Int) (t : Tok) : Value := if a = b then .ref 60 else .int (cmpv a b) t
theorem pos_gen {α : Type} {M : Model} {A : Around} {s : Shared} {t : Sem α} {Q : α → Shared → Prop} {E : Value → Shared → Prop} (h : 1 ≤ s.toks) (k : ∀ tk, 1 ≤ tk → wpAny M A t Q E { s with toks := tk }) : wpAny M A t Q E s := k s.toks h
structure PosN {α : Type} (Q : α → Shared → Prop) (a : α) (s : Shared) : Prop where
  go : 1 ≤ s.toks → Q a s
theorem posN_gen {α : Type} {Q : α → Shared → Prop} {a : α} {s : Shared} (k : ∀ tk, 1 ≤ tk → Q a { s with toks := tk }) : PosN Q a s := ⟨fun h => k s.toks h⟩
theorem with_posN {α : Type} {M : Model} {A : Around} {s : Shared} {t : Sem α} {Q : α → Shared → Prop} {E : Value → Shared → Prop} (hn : 1 ≤ s.toks) (h : wpAny M A t (fun a s' => PosN Q a s') E s) : wpAny M A t Q E s :=
  wpAny_with_toks hn (wpAny_mono h (fun _ _ q => q.go) (fun _ _ q _ => q))
theorem cv_same {a b : List Int} {t : Tok} (h : a = b) : Value.ref 60 = cv a b t := by rw [cv, if_pos h]
theorem cv_diff {a b : List Int} {t : Tok} {v : Value} (h : ¬ a = b) (e : v = Value.int (cmpv a b) t) : v = cv a b t := by rw [cv, if_neg h, e]
theorem place_tok {r : Option Nat} {t : Tok} (h : r = none) (q : 0 ≤ place r) : t ≠ 0 := by subst h; exact absurd q (by decide)
theorem place_none {r : Option Nat} (h : place r = -1) : r = none := by
  cases r with
  | none => rfl
  | some i => exact absurd h (by show ¬ ((i : Nat) : Int) = -1; omega)
end
section
theorem srch_lt {n h : List Int} : ∀ {k i j : Nat}, srch n h i k = some j → j < i + k
  | 0, _, _, e => by cases e
  | k + 1, i, j, e => by
    rw [srch] at e
    split at e
    · cases e; omega
    · have := srch_lt e; omega
theorem cpl_le : ∀ (l r : List Int), cpl l r ≤ l.length
  | [], _ => by simp [cpl]
  | _ :: _, [] => by simp [cpl]
  | a :: l, b :: r => by
    unfold cpl
    split
    · have := cpl_le l r; simp only [List.length_cons]; omega
    · simp
theorem cmpv_lo {l r : List Int} (h : l.length ≤ 4) : -5 ≤ cmpv l r ∧ cmpv l r ≤ 5 := by
  have := cpl_le l r
  unfold cmpv
  split <;> omega
theorem small_of {p : Int} (h : -5 ≤ p) (h' : p ≤ 256) : smallInt p = true := by unfold smallInt; simp; omega
section
variable {prog : Program} {w : World} {A : Around} {E : Value → Shared → Prop} {s : Shared} {Q : Value → Shared → Prop}
theorem isNot_sv {n h : List Int} {i k : Nat} {t u : Tok} (hs : i + k ≤ 257) (ht : t ≠ 0) (hu : u ≠ 0) (hq : Q (.bool false) s) :
    wpAny (model prog w) A (compareOp .IsNot (sv (srch n h i k) t) (sv (srch n h i k) u)) Q E s := by
  cases e : srch n h i k with
  | none => exact wpAny_isNot_ref_self hq
  | some j =>
    have hj := srch_lt e
    have hsm : smallInt (j : Int) = true := small_of (by omega) (by omega)
    show wpAny _ _ (do return Value.bool (!(← isSame (.int j t) (.int j u)))) _ _ _
    unfold isSame
    simp only [beq_self_eq_true, hsm, Bool.and_self, if_true]
    unfold isSame.cachedInt
    rw [if_neg (by simp [ht, hu])]
    exact wpAny_bind (wpAny_bind (wpAny_rule (wpAny_pure (wpAny_pure hq))))
theorem is_cv {a b : List Int} {t u : Tok} (hs : a.length ≤ 4) (ht : t ≠ 0) (hu : u ≠ 0) (hq : Q (.bool true) s) :
    wpAny (model prog w) A (compareOp .Is (cv a b t) (cv a b u)) Q E s := by
  unfold cv
  split
  · exact wpAny_is_ref_self hq
  · have := cmpv_lo (r := b) hs
    exact is_small (small_of (by omega) (by omega)) ht hu hq
end
end
section
/-- the price of a change of one sign -/
noncomputable def ch (a b : Int) : Nat := if a = b then 0 else 1
/-- the least edits, reckoned without the short cut -/
noncomputable def lvRow (a : Int) (n : Nat) (f : List Int → Nat) : List Int → Nat
  | [] => n
  | b :: t => min (min (f t + ch a b) (f (b :: t) + 1)) (lvRow a n f t + 1)
noncomputable def lv : List Int → List Int → Nat
  | [] => List.length
  | a :: s => lvRow a (s.length + 1) (lv s)
theorem lv_z (b : List Int) : lv [] b = b.length := rfl
theorem lv_s (a : Int) (s : List Int) : lv (a :: s) [] = s.length + 1 := rfl
theorem lv_c (a b : Int) (s t : List Int) : lv (a :: s) (b :: t) = min (min (lv s t + ch a b) (lv s (b :: t) + 1)) (lv (a :: s) t + 1) := rfl
/-- a way of edits and its price -/
inductive Ali : List Int → List Int → Nat → Prop
  | nil : Ali [] [] 0
  | sub {s t n} (a b : Int) : Ali s t n → Ali (a :: s) (b :: t) (n + ch a b)
  | del {s t n} (a : Int) : Ali s t n → Ali (a :: s) t (n + 1)
  | ins {s t n} (b : Int) : Ali s t n → Ali s (b :: t) (n + 1)
theorem ali_ins : ∀ b : List Int, Ali [] b b.length
  | [] => .nil
  | y :: r => .ins y (ali_ins r)
theorem ali_del : ∀ a : List Int, Ali a [] a.length
  | [] => .nil
  | x :: r => .del x (ali_del r)
theorem ali_lv : ∀ a b : List Int, Ali a b (lv a b)
  | [], b => by rw [lv_z]; exact ali_ins b
  | a :: s, [] => by rw [lv_s]; exact ali_del (a :: s)
  | a :: s, b :: t => by
    have h1 := Ali.sub a b (ali_lv s t)
    have h2 := Ali.del a (ali_lv s (b :: t))
    have h3 := Ali.ins b (ali_lv (a :: s) t)
    rw [lv_c]
    rcases Nat.le_total (lv s t + ch a b) (lv s (b :: t) + 1) with h | h
    · rw [Nat.min_eq_left h]
      rcases Nat.le_total (lv s t + ch a b) (lv (a :: s) t + 1) with h' | h'
      · rw [Nat.min_eq_left h']; exact h1
      · rw [Nat.min_eq_right h']; exact h3
    · rw [Nat.min_eq_right h]
      rcases Nat.le_total (lv s (b :: t) + 1) (lv (a :: s) t + 1) with h' | h'
      · rw [Nat.min_eq_left h']; exact h2
      · rw [Nat.min_eq_right h']; exact h3
termination_by a b => a.length + b.length
theorem lv_nil (a : List Int) : lv a [] = a.length := by cases a <;> rfl
theorem lv_le {a b : List Int} {n : Nat} (h : Ali a b n) : lv a b ≤ n := by
  induction h with
  | nil => exact Nat.le_refl _
  | sub a b _ ih => rw [lv_c]; exact Nat.le_trans (Nat.min_le_left _ _) (Nat.le_trans (Nat.min_le_left _ _) (Nat.add_le_add_right ih _))
  | @del s t n a h ih =>
    cases t with
    | nil => rw [lv_nil] at ih ⊢; simp; omega
    | cons b t => rw [lv_c]; exact Nat.le_trans (Nat.min_le_left _ _) (Nat.le_trans (Nat.min_le_right _ _) (Nat.succ_le_succ ih))
  | @ins s t n b h ih =>
    cases s with
    | nil =>
      rw [lv_z] at ih ⊢; exact Nat.succ_le_succ ih
    | cons a s => rw [lv_c]; exact Nat.le_trans (Nat.min_le_right _ _) (Nat.succ_le_succ ih)
theorem ali_snoc_sub {s t : List Int} {n : Nat} (a b : Int) (h : Ali s t n) : Ali (s ++ [a]) (t ++ [b]) (n + ch a b) := by
  induction h with
  | nil => exact .sub a b .nil
  | sub x y _ ih =>
    rename_i n _
    have := Ali.sub x y ih
    rw [show n + ch x y + ch a b = n + ch a b + ch x y by omega]; exact this
  | del x _ ih =>
    rename_i n _
    have := Ali.del x ih
    rw [show n + 1 + ch a b = n + ch a b + 1 by omega]; exact this
  | ins y _ ih =>
    rename_i n _
    have := Ali.ins y ih
    rw [show n + 1 + ch a b = n + ch a b + 1 by omega]; exact this
theorem ali_snoc_del {s t : List Int} {n : Nat} (a : Int) (h : Ali s t n) : Ali (s ++ [a]) t (n + 1) := by
  induction h with
  | nil => exact .del a .nil
  | sub x y _ ih =>
    rename_i n _
    have := Ali.sub x y ih
    rw [show n + ch x y + 1 = n + 1 + ch x y by omega]; exact this
  | del x _ ih => exact .del x ih
  | ins y _ ih => exact .ins y ih
theorem ali_snoc_ins {s t : List Int} {n : Nat} (b : Int) (h : Ali s t n) : Ali s (t ++ [b]) (n + 1) := by
  induction h with
  | nil => exact .ins b .nil
  | sub x y _ ih =>
    rename_i n _
    have := Ali.sub x y ih
    rw [show n + ch x y + 1 = n + 1 + ch x y by omega]; exact this
  | del x _ ih => exact .del x ih
  | ins y _ ih => exact .ins y ih
theorem ali_rev {s t : List Int} {n : Nat} (h : Ali s t n) : Ali s.reverse t.reverse n := by
  induction h with
  | nil => exact .nil
  | sub a b _ ih => rw [List.reverse_cons, List.reverse_cons]; exact ali_snoc_sub a b ih
  | del a _ ih => rw [List.reverse_cons]; exact ali_snoc_del a ih
  | ins b _ ih => rw [List.reverse_cons]; exact ali_snoc_ins b ih
theorem lv_rev (s t : List Int) : lv s.reverse t.reverse = lv s t := by
  refine Nat.le_antisymm (lv_le (ali_rev (ali_lv s t))) ?_
  have := lv_le (ali_rev (ali_lv s.reverse t.reverse))
  rwa [List.reverse_reverse, List.reverse_reverse] at this
theorem ali_tail_l {s t : List Int} {n : Nat} (h : Ali s t n) : ∀ {a r}, s = a :: r → ∃ m, m ≤ n + 1 ∧ Ali r t m := by
  induction h with
  | nil => intro a r e; cases e
  | @sub s t n a b h _ => intro a' r e; obtain ⟨rfl, rfl⟩ := List.cons.inj e; exact ⟨n + 1, by omega, .ins b h⟩
  | @del s t n a h _ => intro a' r e; obtain ⟨rfl, rfl⟩ := List.cons.inj e; exact ⟨n, by omega, h⟩
  | @ins s t n b h ih => intro a' r e; obtain ⟨m, hm, h'⟩ := ih e; exact ⟨m + 1, by omega, .ins b h'⟩
theorem ali_tail_r {s t : List Int} {n : Nat} (h : Ali s t n) : ∀ {b r}, t = b :: r → ∃ m, m ≤ n + 1 ∧ Ali s r m := by
  induction h with
  | nil => intro a r e; cases e
  | @sub s t n a b h _ => intro a' r e; obtain ⟨rfl, rfl⟩ := List.cons.inj e; exact ⟨n + 1, by omega, .del a h⟩
  | @ins s t n b h _ => intro a' r e; obtain ⟨rfl, rfl⟩ := List.cons.inj e; exact ⟨n, by omega, h⟩
  | @del s t n a h ih => intro a' r e; obtain ⟨m, hm, h'⟩ := ih e; exact ⟨m + 1, by omega, .del a h'⟩
theorem lv_same (a : Int) (s t : List Int) : lv (a :: s) (a :: t) = lv s t := by
  have h1 : lv s t ≤ lv s (a :: t) + 1 := by
    obtain ⟨m, hm, h⟩ := ali_tail_r (ali_lv s (a :: t)) rfl
    have := lv_le h
    omega
  have h2 : lv s t ≤ lv (a :: s) t + 1 := by
    obtain ⟨m, hm, h⟩ := ali_tail_l (ali_lv (a :: s) t) rfl
    have := lv_le h
    omega
  rw [lv_c, ch, if_pos rfl, Nat.add_zero, Nat.min_eq_left h1, Nat.min_eq_left h2]
theorem min3_succ (p q r : Nat) : 1 + min (min p q) r = min (min (p + 1) (q + 1)) (r + 1) := by
  rw [Nat.add_min_add_right, Nat.add_min_add_right, Nat.add_comm]
theorem min_cast (p q : Nat) : ((min p q : Nat) : Int) = min (p : Int) q := by
  rcases Nat.le_total p q with h | h
  · rw [Nat.min_eq_left h, Int.min_eq_left (Int.ofNat_le.mpr h)]
  · rw [Nat.min_eq_right h, Int.min_eq_right (Int.ofNat_le.mpr h)]
theorem min3_cast (p q r : Nat) (x y z : Int) (hx : (p : Int) = x) (hy : (q : Int) = y) (hz : (r : Int) = z) : ((min (min p q) r : Nat) : Int) = min (min x y) z := by
  subst hx hy hz
  rw [min_cast, min_cast]
theorem lev_lv : ∀ s t : List Int, lev s t = lv s t
  | [], t => rfl
  | a :: s, [] => rfl
  | a :: s, b :: t => by
    rw [lev_c]
    by_cases e : a = b
    · subst e
      rw [if_pos rfl, lv_same, lev_lv s t]
    · rw [if_neg e, lv_c, ch, if_neg e, lev_lv s t, lev_lv s (b :: t), lev_lv (a :: s) t]
      exact min3_succ _ _ _
termination_by s t => s.length + t.length
/-- the edits of the first i signs into the first j -/
noncomputable def dd (x y : List Int) (i j : Nat) : Int := ((lv (x.take i).reverse (y.take j).reverse : Nat) : Int)
theorem take_rev {x : List Int} {i : Nat} (h : i < x.length) : (x.take (i + 1)).reverse = x.getD i 0 :: (x.take i).reverse := by
  rw [take_snoc h, List.reverse_append]; rfl
theorem dd_zero_l (x y : List Int) {j : Nat} (h : j ≤ y.length) : dd x y 0 j = j := by
  unfold dd
  rw [List.take_zero, List.reverse_nil, lv_z, List.length_reverse, List.length_take, Nat.min_eq_left h]
theorem dd_zero_r (x y : List Int) {i : Nat} (h : i ≤ x.length) : dd x y i 0 = i := by
  unfold dd
  rw [List.take_zero, List.reverse_nil, lv_nil, List.length_reverse, List.length_take, Nat.min_eq_left h]
theorem dd_step {x y : List Int} {i j : Nat} (hi : i < x.length) (hj : j < y.length) :
    dd x y (i + 1) (j + 1) = min (min (dd x y i j + (ch (x.getD i 0) (y.getD j 0) : Nat)) (dd x y i (j + 1) + 1)) (dd x y (i + 1) j + 1) := by
  unfold dd
  rw [take_rev hi, take_rev hj, lv_c, ← take_rev hi, ← take_rev hj]
  exact min3_cast _ _ _ _ _ _ (Int.natCast_add _ _) (Int.natCast_add _ _) (Int.natCast_add _ _)
theorem dd_end (x y : List Int) : dd x y x.length y.length = ((lev x y : Nat) : Int) := by
  unfold dd
  rw [List.take_length, List.take_length, lv_rev, lev_lv]
/-- the first k of row i -/
noncomputable def row (x y : List Int) (i k : Nat) : List Int := (List.range k).map fun j => dd x y i j
theorem row_length (x y : List Int) (i k : Nat) : (row x y i k).length = k := by simp [row]
theorem row_getD {x y : List Int} {i k j : Nat} (h : j < k) : (row x y i k).getD j 0 = dd x y i j := by
  rw [List.getD_eq_getElem?_getD, List.getElem?_eq_getElem (by rw [row_length]; exact h), Option.getD_some]
  simp [row]
theorem row_succ (x y : List Int) (i k : Nat) : row x y i (k + 1) = row x y i k ++ [dd x y i k] := by
  simp [row, List.range_succ]
theorem row_zero (x y : List Int) {k : Nat} (h : k = y.length + 1) : row x y 0 k = rangeKs 0 k := by
  unfold row rangeKs
  refine List.map_congr_left fun j hj => ?_
  rw [dd_zero_l x y (by have := List.mem_range.mp hj; omega)]
  omega
theorem edit_line {x y : List Int} {i : Nat} {t : Tok} (h : i < x.length) : IntsAre [Value.int ((i : Int) + 1) t] (row x y (i + 1) (0 + 1)) := by
  have e : row x y (i + 1) (0 + 1) = [(i : Int) + 1] := by
    show [dd x y (i + 1) 0] = _
    rw [dd_zero_r x y h]; rfl
  rw [e]
  exact .cons _ _ .nil
theorem edit_step {x y : List Int} {i j : Nat} {lw : List Value} {t : Tok} {M : Int} (hi : i < x.length) (hj : j < y.length) (h : IntsAre (lw ++ [Value.int M t]) (row x y (i + 1) (j + 1) ++ [M]))
    (e : M = min (min ((row x y i (y.length + 1)).getD (j : Int).toNat 0 + if (x.getD i 0 != y.getD j 0) = true then 1 else 0) ((row x y i (y.length + 1)).getD ((j : Int) + 1).toNat 0 + 1)) ((row x y (i + 1) (j + 1)).getD (j : Int).toNat 0 + 1)) :
    IntsAre (lw ++ [Value.int M t]) (row x y (i + 1) (j + 1 + 1)) := by
  have e1 : M = dd x y (i + 1) (j + 1) := by
    rw [Int.toNat_natCast, show ((j : Int) + 1).toNat = j + 1 by omega, row_getD (by omega), row_getD (by omega), row_getD (by omega)] at e
    rw [dd_step hi hj, e]
    congr 3
    unfold ch
    generalize x.getD i 0 = a
    generalize y.getD j 0 = b
    by_cases q : a = b
    · rw [if_pos q]; simp [q]
    · rw [if_neg q]; simp [q]
  rw [row_succ, ← e1]
  exact h
theorem edit_last {x y : List Int} : (row x y x.length (y.length + 1)).getD (-1 + ((row x y x.length (y.length + 1)).length : Int)).toNat 0 = ((lev x y : Nat) : Int) := by
  rw [row_length, show (-1 + ((y.length + 1 : Nat) : Int)).toNat = y.length by omega, row_getD (by omega), dd_end]
end
section
theorem run_pos {c : Int} {l : List Int} (h : fig c = true) : 0 < run (c :: l) := by rw [run, h, if_pos rfl]; omega
theorem run_le : ∀ l : List Int, run l ≤ l.length
  | [] => Nat.le_refl _
  | c :: l => by
    rw [run]
    have := run_le l
    split
    · simp; omega
    · simp
/-- the versions' order, sign by sign -/
noncomputable def vlF : Nat → List Int → List Int → Bool
  | _, [], b => decide (0 < b.length)
  | _, _ :: _, [] => false
  | 0, _ :: _, _ :: _ => false
  | n + 1, a :: s, b :: t =>
    if fig a = true ∧ fig b = true then
      if num 0 (a :: s) = num 0 (b :: t) then vlF n ((a :: s).drop (run (a :: s))) ((b :: t).drop (run (b :: t))) else decide (num 0 (a :: s) < num 0 (b :: t))
    else if a = b then vlF n s t else decide (a < b)
noncomputable def vl (a b : List Int) : Bool := vlF a.length a b
theorem dropRun_le {a : Int} {s : List Int} (h : fig a = true) : ((a :: s).drop (run (a :: s))).length ≤ s.length := by
  have := run_pos (l := s) h
  rw [List.length_drop, List.length_cons]; omega
theorem vlF_more : ∀ (n m : Nat) (a b : List Int), a.length ≤ n → a.length ≤ m → vlF n a b = vlF m a b
  | n, m, [], b, _, _ => by cases n <;> cases m <;> rfl
  | n, m, _ :: _, [], _, _ => by cases n <;> cases m <;> rfl
  | 0, _, _ :: _, _ :: _, h, _ => absurd h (Nat.not_succ_le_zero _)
  | _ + 1, 0, _ :: _, _ :: _, _, h => absurd h (Nat.not_succ_le_zero _)
  | n + 1, m + 1, a :: s, b :: t, hn, hm => by
    have p : s.length ≤ n := Nat.le_of_succ_le_succ hn
    have q : s.length ≤ m := Nat.le_of_succ_le_succ hm
    unfold vlF
    by_cases h : fig a = true ∧ fig b = true
    · rw [if_pos h, if_pos h, vlF_more n m _ ((b :: t).drop (run (b :: t))) (Nat.le_trans (dropRun_le h.1) p) (Nat.le_trans (dropRun_le h.1) q)]
    · rw [if_neg h, if_neg h, vlF_more n m s t p q]
theorem vl_z (b : List Int) : vl [] b = decide (0 < b.length) := rfl
theorem vl_s (a : Int) (s : List Int) : vl (a :: s) [] = false := rfl
theorem vl_c (a b : Int) (s t : List Int) : vl (a :: s) (b :: t) = if fig a = true ∧ fig b = true then
      (if num 0 (a :: s) = num 0 (b :: t) then vl ((a :: s).drop (run (a :: s))) ((b :: t).drop (run (b :: t))) else decide (num 0 (a :: s) < num 0 (b :: t)))
    else if a = b then vl s t else decide (a < b) := by
  show vlF (s.length + 1) (a :: s) (b :: t) = _
  unfold vlF
  by_cases h : fig a = true ∧ fig b = true
  · rw [if_pos h, if_pos h, vlF_more s.length _ _ ((b :: t).drop (run (b :: t))) (dropRun_le h.1) (Nat.le_refl _)]; rfl
  · rw [if_neg h, if_neg h]; rfl
/-- a part: is it a figure's, its number, its first sign -/
abbrev Part := Bool × Int × Int
noncomputable def partsF : Nat → List Int → List Part
  | _, [] => []
  | 0, _ :: _ => []
  | n + 1, c :: l => bif fig c then (true, num 0 (c :: l), c) :: partsF n ((c :: l).drop (run (c :: l))) else (false, c, c) :: partsF n l
noncomputable def parts (l : List Int) : List Part := partsF l.length l
theorem partsF_more : ∀ (n m : Nat) (l : List Int), l.length ≤ n → l.length ≤ m → partsF n l = partsF m l
  | n, m, [], _, _ => by cases n <;> cases m <;> rfl
  | 0, _, _ :: _, h, _ => absurd h (Nat.not_succ_le_zero _)
  | _ + 1, 0, _ :: _, _, h => absurd h (Nat.not_succ_le_zero _)
  | n + 1, m + 1, c :: l, hn, hm => by
    have a : l.length ≤ n := Nat.le_of_succ_le_succ hn
    have b : l.length ≤ m := Nat.le_of_succ_le_succ hm
    cases h : fig c with
    | true =>
      have q : ((c :: l).drop (run (c :: l))).length ≤ l.length := by
        have := run_pos (l := l) h
        rw [List.length_drop, List.length_cons]; clear a b hn hm; omega
      simp only [partsF, h, cond_true]
      rw [partsF_more n m _ (Nat.le_trans q a) (Nat.le_trans q b)]
    | false =>
      simp only [partsF, h, cond_false]
      rw [partsF_more n m l a b]
noncomputable def ahead : List Part → List Part → Bool
  | [], b => decide (0 < b.length)
  | _ :: _, [] => false
  | p :: s, q :: t => if p.1 = true ∧ q.1 = true then (if p.2.1 = q.2.1 then ahead s t else decide (p.2.1 < q.2.1)) else if p.2.2 = q.2.2 then ahead s t else decide (p.2.2 < q.2.2)
theorem parts_nil : parts [] = [] := rfl
theorem parts_fig {c : Int} {l : List Int} (h : fig c = true) : parts (c :: l) = (true, num 0 (c :: l), c) :: parts ((c :: l).drop (run (c :: l))) := by
  have q : ((c :: l).drop (run (c :: l))).length ≤ l.length := by
    have := run_pos (l := l) h
    rw [List.length_drop, List.length_cons]; omega
  show partsF (l.length + 1) (c :: l) = _
  simp only [partsF, h, cond_true]
  rw [partsF_more l.length _ _ q (Nat.le_refl _)]; rfl
theorem parts_not {c : Int} {l : List Int} (h : fig c = false) : parts (c :: l) = (false, c, c) :: parts l := by
  show partsF (l.length + 1) (c :: l) = _
  simp only [partsF, h, cond_false]; rfl
theorem parts_pos (c : Int) (l : List Int) : 0 < (parts (c :: l)).length := by
  cases h : fig c with
  | true => rw [parts_fig h]; simp
  | false => rw [parts_not h]; simp
theorem parts_head (c : Int) (l : List Int) : ∃ v r, parts (c :: l) = (fig c, v, c) :: r := by
  cases h : fig c with
  | true => exact ⟨_, _, parts_fig h⟩
  | false => exact ⟨_, _, parts_not h⟩
theorem vl_parts : ∀ (n : Nat) (x y : List Int), x.length ≤ n → vl x y = ahead (parts x) (parts y) := by
  intro n
  induction n with
  | zero =>
    intro x y hx
    obtain rfl := List.eq_nil_of_length_eq_zero (Nat.le_zero.mp hx)
    rw [vl_z, parts_nil, ahead]
    cases y with
    | nil => rw [parts_nil]; rfl
    | cons b t => simp [parts_pos b t]
  | succ n ih =>
    intro x y hx
    cases x with
    | nil =>
      rw [vl_z, parts_nil, ahead]
      cases y with
      | nil => rw [parts_nil]; rfl
      | cons b t => simp [parts_pos b t]
    | cons a s =>
      cases y with
      | nil =>
        rw [vl_s, parts_nil]
        obtain ⟨v, r, e⟩ := parts_head a s
        rw [e, ahead]
      | cons b t =>
        rw [vl_c]
        by_cases h : fig a = true ∧ fig b = true
        · rw [if_pos h, parts_fig h.1, parts_fig h.2, ahead]
          dsimp only
          rw [if_pos (show true = true ∧ true = true from ⟨rfl, rfl⟩)]
          by_cases e : num 0 (a :: s) = num 0 (b :: t)
          · rw [if_pos e, if_pos e]
            have := run_pos (l := s) h.1
            exact ih _ _ (by rw [List.length_drop]; simp only [List.length_cons] at hx ⊢; omega)
          · rw [if_neg e, if_neg e]
        · rw [if_neg h]
          by_cases e : a = b
          · subst e
            have hf : fig a = false := by cases q : fig a with | false => rfl | true => exact absurd ⟨q, q⟩ h
            rw [if_pos rfl, parts_not hf, parts_not hf, ahead]
            dsimp only
            rw [if_neg (fun q => Bool.false_ne_true q.1), if_pos rfl]
            exact ih _ _ (by simp only [List.length_cons] at hx; omega)
          · rw [if_neg e]
            obtain ⟨v, r, e1⟩ := parts_head a s
            obtain ⟨v', r', e2⟩ := parts_head b t
            rw [e1, e2, ahead]
            dsimp only
            rw [if_neg h, if_neg e]
theorem ahead_anti : ∀ p q : List Part, ¬ (ahead p q = true ∧ ahead q p = true)
  | [], q, h => by
    cases q with
    | nil => simp [ahead] at h
    | cons b t => simp [ahead] at h
  | a :: s, [], h => by simp [ahead] at h
  | a :: s, b :: t, h => by
    rw [ahead, ahead] at h
    by_cases h1 : a.1 = true ∧ b.1 = true
    · rw [if_pos h1, if_pos (And.intro h1.2 h1.1)] at h
      by_cases e : a.2.1 = b.2.1
      · rw [if_pos e, if_pos e.symm] at h
        exact ahead_anti s t h
      · rw [if_neg e, if_neg (fun q => e q.symm)] at h
        simp only [decide_eq_true_eq] at h
        omega
    · rw [if_neg h1, if_neg (fun q : b.1 = true ∧ a.1 = true => h1 ⟨q.2, q.1⟩)] at h
      by_cases e : a.2.2 = b.2.2
      · rw [if_pos e, if_pos e.symm] at h
        exact ahead_anti s t h
      · rw [if_neg e, if_neg (fun q => e q.symm)] at h
        simp only [decide_eq_true_eq] at h
        omega
/-- steps of the loop over two versions -/
theorem vl_out {x y : List Int} {a b : Int} (h0 : 0 ≤ a) (h1 : 0 ≤ b) (h : ¬ a < x.length ∨ ¬ b < y.length) : vl (x.drop a.toNat) (y.drop b.toNat) = decide (b < y.length) ∨ (a < x.length ∧ vl (x.drop a.toNat) (y.drop b.toNat) = false) := by
  by_cases ha : a < x.length
  · right
    rw [drop_at (show a.toNat < x.length by omega), List.drop_of_length_le (show y.length ≤ b.toNat by omega), vl_s]
    exact ⟨ha, rfl⟩
  · left
    rw [List.drop_of_length_le (show x.length ≤ a.toNat by omega), vl_z, List.length_drop]
    exact decide_eq_decide.mpr (by omega)
theorem vl_end {x y : List Int} {a b : Int} (h0 : 0 ≤ a) (h1 : 0 ≤ b) (h : ¬ a < x.length ∨ ¬ b < y.length) : decide (b < y.length) = vl (x.drop a.toNat) (y.drop b.toNat) := by
  rcases vl_out h0 h1 h with e | ⟨ha, e⟩
  · exact e.symm
  · rw [e]; exact decide_eq_false (by omega)
theorem vl_num {x y : List Int} {a b : Int} (h0 : 0 ≤ a) (h1 : 0 ≤ b) (h2 : a < x.length) (h3 : b < y.length) (hf : fig (x.getD a.toNat 0) = true) (hg : fig (y.getD b.toNat 0) = true) :
    vl (x.drop a.toNat) (y.drop b.toNat) = if num 0 (x.drop a.toNat) = num 0 (y.drop b.toNat) then vl (x.drop (a + (run (x.drop a.toNat) : Nat)).toNat) (y.drop (b + (run (y.drop b.toNat) : Nat)).toNat) else decide (num 0 (x.drop a.toNat) < num 0 (y.drop b.toNat)) := by
  have e1 := drop_at (tn_lt h0 h2)
  have e2 := drop_at (tn_lt h1 h3)
  have e3 : x.drop (a + (run (x.drop a.toNat) : Nat)).toNat = (x.drop a.toNat).drop (run (x.drop a.toNat)) := by rw [List.drop_drop, tn_add _ (by assumption)]
  have e4 : y.drop (b + (run (y.drop b.toNat) : Nat)).toNat = (y.drop b.toNat).drop (run (y.drop b.toNat)) := by rw [List.drop_drop, tn_add _ (by assumption)]
  rw [e3, e4, e1, e2, vl_c, if_pos ⟨hf, hg⟩]
theorem vl_sign {x y : List Int} {a b : Int} (h0 : 0 ≤ a) (h1 : 0 ≤ b) (h2 : a < x.length) (h3 : b < y.length) (hf : ¬ (fig (x.getD a.toNat 0) = true ∧ fig (y.getD b.toNat 0) = true)) :
    vl (x.drop a.toNat) (y.drop b.toNat) = if x.getD a.toNat 0 = y.getD b.toNat 0 then vl (x.drop (a + 1).toNat) (y.drop (b + 1).toNat) else decide (x.getD a.toNat 0 < y.getD b.toNat 0) := by
  have e1 := drop_at (tn_lt h0 h2)
  have e2 := drop_at (tn_lt h1 h3)
  rw [e1, e2, vl_c, if_neg hf, tn_succ h0, tn_succ h1]
theorem run_at {x : List Int} {a : Int} (h0 : 0 ≤ a) (h2 : a ≤ x.length) : a + ((run (x.drop a.toNat) : Nat) : Int) ≤ x.length := by
  have := run_le (x.drop a.toNat)
  rw [List.length_drop] at this
  omega
theorem run_gt {x : List Int} {a : Int} (h0 : 0 ≤ a) (h2 : a < x.length) (hf : fig (x.getD a.toNat 0) = true) : 0 < run (x.drop a.toNat) := by
  rw [drop_at (show a.toNat < x.length by omega)]
  exact run_pos hf
/-- the ledger bears the parts -/
noncomputable def PartsIn (news : Led) (vs : List Value) (ps : List Part) : Prop :=
  vs.length = ps.length ∧ ∀ (i : Nat) (p : Part), ps[i]? = some p → ∃ (a : Addr) (n : Nat) (t u : Tok), vs[i]? = some (Value.ref a) ∧ (a, ({ cls := .type "tuple", data := .seq #[Value.bool p.1, Value.int p.2.1 t, Value.int p.2.2 u] n } : Obj)) ∈ news
theorem PartsIn.mono {news news' : Led} {vs : List Value} {ps : List Part} (h : PartsIn news vs ps) (hs : ∀ p ∈ news, p ∈ news') : PartsIn news' vs ps :=
  ⟨h.1, fun i p hp => let ⟨a, n, t, u, h1, h2⟩ := h.2 i p hp; ⟨a, n, t, u, h1, hs _ h2⟩⟩
theorem PartsIn.nil {news : Led} : PartsIn news [] [] := ⟨rfl, fun i p hp => by simp at hp⟩
theorem PartsIn.snoc {news : Led} {vs : List Value} {ps : List Part} {a : Addr} {n : Nat} {t u : Tok} {p : Part} (h : PartsIn news vs ps) (hm : (a, ({ cls := .type "tuple", data := .seq #[.bool p.1, .int p.2.1 t, .int p.2.2 u] n } : Obj)) ∈ news) : PartsIn news (vs ++ [Value.ref a]) (ps ++ [p]) := by
  refine ⟨by rw [List.length_append, List.length_append, h.1]; rfl, fun i q hq => ?_⟩
  rw [List.getElem?_append] at hq
  split at hq
  · rename_i hlt
    obtain ⟨b, n', t', u', h1, h2⟩ := h.2 i q hq
    exact ⟨b, n', t', u', by rw [List.getElem?_append_left (by rw [h.1]; exact hlt)]; exact h1, h2⟩
  · rename_i hge
    have hi : i - ps.length = 0 := by
      obtain ⟨hlt, _⟩ := List.getElem?_eq_some_iff.mp hq
      simp at hlt; omega
    rw [hi] at hq
    obtain rfl : p = q := by simpa using hq
    refine ⟨a, n, t, u, ?_, hm⟩
    rw [List.getElem?_append_right (by rw [h.1]; omega), show i - vs.length = 0 by rw [h.1]; exact hi]
    rfl
open PySem.NumText
/-- a sign as a text -/
noncomputable def ch1 (n : Int) : PySem.Str := ⟨#[n.toNat]⟩
theorem join_codes : ∀ l : List Int, (Txt.join (Str.ofString "") (l.map ch1)).cps.toList = l.map Int.toNat := by
  intro l
  show (Builtin.Str.glued _ _).cps.toList = _
  rw [StrLaws.glued_eq_join]
  have he : (Str.ofString "").cps.toList = [] := by decide +kernel
  induction l with
  | nil => rfl
  | cons a r ih =>
    cases r with
    | nil => rfl
    | cons b q =>
      simp only [List.map_cons] at ih ⊢
      rw [PyProof.Rows.join_cons_cons, cps_toList_append, cps_toList_append, he, List.append_nil, ih]
      rfl
theorem fold_num : ∀ (l : List Int) (rest : List Int) (f : Int) (g : Nat), (∀ x ∈ l, 48 ≤ x ∧ x ≤ 57) → (rest = [] ∨ ∃ c r, rest = c :: r ∧ fig c = false) → f = (g : Int) →
    (((l.map Int.toNat).foldl (fun acc c => acc * 10 + (c - 48)) g : Nat) : Int) = num f (l ++ rest)
  | [], rest, f, g, _, hr, e => by
    rcases hr with rfl | ⟨c, r, rfl, hf⟩
    · rw [List.map_nil, List.foldl_nil, List.append_nil, num, e]
    · rw [List.map_nil, List.foldl_nil, List.nil_append, num, hf, if_neg Bool.false_ne_true, e]
  | a :: l, rest, f, g, h, hr, e => by
    have h1 := h a (.head _)
    have hf : fig a = true := decide_eq_true h1
    rw [List.map_cons, List.foldl_cons, List.cons_append, num, hf, if_pos rfl]
    exact fold_num l rest _ _ (fun x hx => h x (.tail _ hx)) hr (by rw [e]; omega)
theorem run_split : ∀ l : List Int, (∀ x ∈ l.take (run l), 48 ≤ x ∧ x ≤ 57) ∧ (l.drop (run l) = [] ∨ ∃ c r, l.drop (run l) = c :: r ∧ fig c = false)
  | [] => ⟨fun _ h => by simp at h, .inl (by simp)⟩
  | c :: l => by
    rw [run]
    cases h : fig c with
    | true =>
      rw [if_pos rfl, List.take_succ_cons, List.drop_succ_cons]
      refine ⟨fun x hx => ?_, (run_split l).2⟩
      rcases List.mem_cons.mp hx with rfl | hx
      · exact fig_ge h
      · exact (run_split l).1 x hx
    | false =>
      rw [if_neg Bool.false_ne_true]
      exact ⟨fun x hx => by simp at hx, .inr ⟨c, l, rfl, h⟩⟩
theorem text_num {l : List Int} (h0 : 0 < run l) (hl : l.length ≤ 100) : PySem.intText? (Txt.join (Str.ofString "") ((l.take (run l)).map ch1)) = some (num 0 l) ∧ (Txt.join (Str.ofString "") ((l.take (run l)).map ch1)).length ≤ 640 := by
  have hs := run_split l
  have hc := join_codes (l.take (run l))
  have hlen : (Txt.join (Str.ofString "") ((l.take (run l)).map ch1)).length = (l.take (run l)).length := by
    show (Txt.join (Str.ofString "") ((l.take (run l)).map ch1)).cps.size = _
    rw [← Array.length_toList, hc, List.length_map]
  have hle := run_le l
  have htl : (l.take (run l)).length ≤ 100 := by rw [List.length_take]; omega
  have hd : AllDigits ((l.take (run l)).map Int.toNat) := fun c hx => by
    obtain ⟨x, hx2, rfl⟩ := List.mem_map.mp hx
    have := hs.1 x hx2
    omega
  refine ⟨?_, by rw [hlen]; omega⟩
  rw [intText_digits (by rw [hc]; exact hd) (by
    rw [hc]
    intro e
    have := congrArg List.length e
    rw [List.length_map, List.length_take, List.length_nil] at this
    omega) (by rw [hlen]; omega), hc]
  unfold digitsVal
  rw [fold_num (l.take (run l)) (l.drop (run l)) 0 0 hs.1 hs.2 rfl, List.take_append_drop]
theorem fig_lo {c : Int} (h : ¬ 48 ≤ c) : fig c = false := decide_eq_false fun q => h q.1
theorem fig_hi {c : Int} (h : ¬ c ≤ 57) : fig c = false := decide_eq_false fun q => h q.2
theorem sum_ch1 : ∀ l : List Int, ((l.map ch1).map (·.length)).sum = l.length
  | [] => rfl
  | _ :: l => by
    rw [List.map_cons, List.map_cons, List.sum_cons, sum_ch1 l, List.length_cons]
    show 1 + _ = _
    omega
theorem parts_at_fig {x : List Int} {a e : Int} (h0 : 0 ≤ a) (h1 : a < x.length) (hr : 0 < run (x.drop a.toNat)) (he : e = a + ((run (x.drop a.toNat) : Nat) : Int)) : parts (x.drop a.toNat) = (true, num 0 (x.drop a.toNat), x.getD a.toNat 0) :: parts (x.drop e.toNat) := by
  have e1 := drop_at (tn_lt h0 h1)
  have e3 : x.drop e.toNat = (x.drop a.toNat).drop (run (x.drop a.toNat)) := by rw [List.drop_drop, he, tn_add _ h0]
  have hf : fig (x.getD a.toNat 0) = true := by
    cases h : fig (x.getD a.toNat 0) with
    | true => rfl
    | false =>
      rw [e1, run, h, if_neg Bool.false_ne_true] at hr
      exact absurd hr (Nat.lt_irrefl _)
  rw [e3, e1]
  exact parts_fig hf
theorem parts_at_not {x : List Int} {a : Int} (h0 : 0 ≤ a) (h1 : a < x.length) (hr : run (x.drop a.toNat) = 0) : parts (x.drop a.toNat) = (false, x.getD a.toNat 0, x.getD a.toNat 0) :: parts (x.drop (a + 1).toNat) := by
  have e1 := drop_at (show a.toNat < x.length by omega)
  have hf : fig (x.getD a.toNat 0) = false := by
    cases h : fig (x.getD a.toNat 0) with
    | false => rfl
    | true =>
      rw [e1, run, h, if_pos rfl] at hr
      omega
  rw [show (a + 1).toNat = a.toNat + 1 by omega, e1]
  exact parts_not hf
section
variable {h₀ : Heap} {L E9 T : Addr} {s : Shared} {base news' pt : Led} {stored : List PySem.Str} {m₀ m' : PySem.Str → Option Value} {pv : List Value} {ps : List Part} {pn n tk : Nat} {at9 at' e v f : Int} {tat tk' t u : Tok} {b : Bool} {h' : Heap} {ns1 : List Int}
theorem partsEnd (F : Fr h₀ L h' m') (N : News h₀ L h' news') (mT : (T, ({ cls := .type "tuple", data := .seq #[Value.bool b, Value.int v t, Value.int f u] n } : Obj)) ∈ news') (mE : (E9, listOf (List.toArray (pv ++ [Value.ref T])) (pn + 1)) ∈ news') (mb : ∀ p ∈ base ++ pt, p ∈ news') (hTE : @Ne Nat T E9) (hbo : ∀ p ∈ base ++ pt, p.1 ≠ E9)
    (hk : m' (Str.ofString "at") = some (Value.int at' tk')) (hr : ∀ z, stored.contains z = false → m' z = m₀ z) (hp1 : PartsIn pt pv ps) (hat : at' = e) (h0 : at9 < e) (h2 : 0 ≤ at9) (h1 : e ≤ ns1.length) (h4 : (ps.length : Int) ≤ at9) (hp5 : ps ++ parts (ns1.drop at9.toNat) = parts ns1) (hp6 : parts (ns1.drop at9.toNat) = (b, v, f) :: parts (ns1.drop e.toNat)) :
    WEnd h₀ L s (fun c : List Value × List Part × Nat × Led × Int × Tok => (E9, listOf c.1.toArray c.2.2.1) :: (base ++ c.2.2.2.1)) (fun c => [(Str.ofString "at", Value.int c.2.2.2.2.1 c.2.2.2.2.2)]) stored m₀
      (fun c => (PartsIn c.2.2.2.1 c.1 c.2.1 ∧ 0 ≤ c.2.2.2.2.1 ∧ c.2.2.2.2.1 ≤ ns1.length ∧ c.2.1.length ≤ c.2.2.2.2.1 ∧ c.2.1 ++ parts (ns1.drop c.2.2.2.2.1.toNat) = parts ns1) ∧ ∀ p ∈ c.2.2.2.1, p.1 ≠ E9) (fun c => ns1.length - c.2.2.2.2.1.toNat) (pv, ps, pn, pt, at9, tat) { s with heap := h', toks := tk } := by
  subst hat
  refine wEnd (pv ++ [Value.ref T], ps ++ [(b, v, f)], pn + 1, (T, ({ cls := .type "tuple", data := .seq #[Value.bool b, Value.int v t, Value.int f u] n } : Obj)) :: pt, at', tk') F N (fun p hp => ?_) (fun p hp => ?_) hr ⟨⟨(hp1.mono fun q hq => .tail _ hq).snoc (p := (b, v, f)) (n := n) (t := t) (u := u) (.head _), ?_, h1, ?_, ?_⟩, fun p hp => ?_⟩ ?_
  · rcases List.mem_cons.mp hp with rfl | hp
    · exact mE
    · rcases List.mem_append.mp hp with hp | hp
      · exact mb p (List.mem_append_left _ hp)
      · rcases List.mem_cons.mp hp with rfl | hp
        · exact mT
        · exact mb p (List.mem_append_right _ hp)
  · rw [List.mem_singleton.mp hp]; exact hk
  · dsimp only; omega
  · dsimp only; rw [List.length_append, List.length_singleton]; omega
  · dsimp only; rw [List.append_assoc]
    show ps ++ ((b, v, f) :: parts (ns1.drop at'.toNat)) = _
    rw [← hp6]; exact hp5
  · rcases List.mem_cons.mp hp with rfl | hp
    · exact hTE
    · exact hbo p (List.mem_append_right _ hp)
  · dsimp only; omega
end
theorem strs_snoc {l : List Int} {i : Nat} {k : Int} {t : Tok} {ys : List Value} (h : PyProof.Rows.StrsAre ys ((l.take i).map ch1)) (hi : i < l.length) (hk : k = l.getD i 0) : PyProof.Rows.StrsAre (ys ++ [Value.str ⟨#[k.toNat]⟩ t]) ((l.take (i + 1)).map ch1) := by
  rw [take_snoc hi, List.map_append, ← hk]
  exact PyProof.Rows.StrsAre.append' h (.cons (ch1 k) t .nil)
section
variable {prog : Program} {w : World} {A : Around} {E : Value → Shared → Prop} {s : Shared} {h₀ : Heap} {L l : Addr} {news : Led} {vs : List Value} {n : Nat} {Q : Value → Shared → Prop}
theorem len_v (N : News h₀ L s.heap news) (hm : (l, listOf vs.toArray n) ∈ news) (hz : vs.length ≤ 1000) (h : Q (.int vs.length (s.toks + 1)) { s with toks := s.toks + 1 + 1 }) : wpAny (model prog w) A (call (.builtin "len") [.ref l]) Q E s :=
  len_w N hm (by rw [List.size_toArray]) (by omega) h
end
theorem ahead_at {p q : List Part} {i : Nat} {a b : Part} (ha : p[i]? = some a) (hb : q[i]? = some b) : ahead (p.drop i) (q.drop i) = if a.1 = true ∧ b.1 = true then (if a.2.1 = b.2.1 then ahead (p.drop (i + 1)) (q.drop (i + 1)) else decide (a.2.1 < b.2.1)) else if a.2.2 = b.2.2 then ahead (p.drop (i + 1)) (q.drop (i + 1)) else decide (a.2.2 < b.2.2) := by
  obtain ⟨h1, e1⟩ := List.getElem?_eq_some_iff.mp ha
  obtain ⟨h2, e2⟩ := List.getElem?_eq_some_iff.mp hb
  rw [List.drop_eq_getElem_cons h1, List.drop_eq_getElem_cons h2, e1, e2, ahead]
theorem ahead_end {p q : List Part} {i : Nat} (h : i = min p.length q.length) : ahead (p.drop i) (q.drop i) = decide ((p.length : Int) < (q.length : Int)) := by
  rcases Nat.lt_or_ge p.length q.length with hl | hl
  · rw [List.drop_of_length_le (show p.length ≤ i by omega), ahead, List.length_drop]
    exact decide_eq_decide.mpr (by omega)
  · rw [List.drop_of_length_le (show q.length ≤ i by omega)]
    rcases Nat.lt_or_ge i p.length with h1 | h1
    · rw [List.drop_eq_getElem_cons h1, ahead]
      exact (decide_eq_false (by omega)).symm
    · rw [List.drop_of_length_le h1, ahead]
      exact decide_eq_decide.mpr (by simp; omega)
/-- the parts at the place i -/
theorem PartsIn.at {news : Led} {vs : List Value} {ps : List Part} {i : Nat} {x : Value} (h : PartsIn news vs ps) (hx : vs[i]? = some x) : ∃ p a n t u, ps[i]? = some p ∧ x = .ref a ∧ (a, ({ cls := .type "tuple", data := .seq #[Value.bool p.1, Value.int p.2.1 t, Value.int p.2.2 u] n } : Obj)) ∈ news := by
  obtain ⟨hlt, _⟩ := List.getElem?_eq_some_iff.mp hx
  have hp : i < ps.length := by rw [← h.1]; exact hlt
  obtain ⟨a, n, t, u, h1, h2⟩ := h.2 i _ (List.getElem?_eq_getElem hp)
  rw [hx] at h1
  exact ⟨_, a, n, t, u, List.getElem?_eq_getElem hp, Option.some.inj h1, h2⟩
theorem apart5 {I : Addr} {o1 o2 o3 o4 o5 : Obj} {l : Led} (h : ∀ p ∈ l, p.1 < I) : ∀ p ∈ l, ∀ q ∈ [((I + 4, o1) : Addr × Obj), (I + 2, o2), (I + 3, o3), (I, o4), (I + 1, o5)], p.1 ≠ q.1 := by
  intro p hp q hq
  have h1 : @LT.lt Nat _ p.1 I := h p hp
  refine Nat.ne_of_lt (Nat.lt_of_lt_of_le h1 ?_)
  simp only [List.mem_cons, List.not_mem_nil, or_false] at hq
  rcases hq with rfl | rfl | rfl | rfl | rfl
  · exact Nat.le_add_right _ _
  · exact Nat.le_add_right _ _
  · exact Nat.le_add_right _ _
  · exact Nat.le_refl _
  · exact Nat.le_add_right _ _
end
section
open PyProof.V PySem.SeqAt
/-- a way within a join -/
structure JMark : Prop where
  mk ::
/-- the list of flags: T, or none -/
noncomputable def flg (b : Bool) : Array Value := if b then #[.ref 60] else #[]
theorem flg_add (x y : Addr) (b : Bool) : (#[Value.ref x, Value.ref y] : Array Value).toList ++ (flg b).toList = (flagged x y b).toList := by cases b <;> rfl
noncomputable def JFlag (h₀ : Heap) (L : Addr) (m : Str → Option Value) (news : Led) (s : Shared) (b : Bool) (v : Value) (s' : Shared) : Prop :=
  ∃ (D : Addr) (h' : Heap) (tk n : Nat), v = .ref D ∧ s' = { s with heap := h', toks := tk } ∧ Fr h₀ L h' m ∧ News h₀ L h' ((D, listOf (flg b) n) :: news) ∧ AllLt D news
noncomputable def JVal (h₀ : Heap) (L : Addr) (m : Str → Option Value) (news : Led) (s : Shared) (u : Value) (v : Value) (s' : Shared) : Prop :=
  v = u ∧ ∃ (h' : Heap) (tk : Nat), s' = { s with heap := h', toks := tk } ∧ Fr h₀ L h' m ∧ News h₀ L h' news
noncomputable def JPair (h₀ : Heap) (L : Addr) (m : Str → Option Value) (news : Led) (s : Shared) (dk : Addr) (xs ys : List Int) (v : Value) (s' : Shared) : Prop :=
  ∃ (T l r : Addr) (vs us : List Value) (nT nl nr : Nat) (h' : Heap) (tk : Nat), v = .ref T ∧ s' = { s with heap := h', toks := tk } ∧ Fr h₀ L h' m ∧
    News h₀ L h' ((T, { cls := .type "tuple", data := .seq #[.ref l, .ref r] nT }) :: (l, listOf vs.toArray nl) :: (r, listOf us.toArray nr) :: news) ∧ IntsAre vs xs ∧ IntsAre us ys ∧ @Ne Nat T dk ∧ @Ne Nat l dk ∧ @Ne Nat r dk
section
variable {prog : Program} {w : World} {A : Around} {E : Value → Shared → Prop} {s : Shared} {h₀ : Heap} {L : Addr} {m : Str → Option Value} {news : Led} {t : Sem Value} {Q : Value → Shared → Prop}
theorem joinFlag {z : Str} {b : Bool} (_F : Fr h₀ L s.heap m) (_N : News h₀ L s.heap news) (_hz : m z = some (.bool b)) (h : wpAny (model prog w) A t (JFlag h₀ L m news s b) E s)
    (k : ∀ D h' tk n, Fr h₀ L h' m → News h₀ L h' ((D, listOf (flg b) n) :: news) → AllLt D news → Q (.ref D) { s with heap := h', toks := tk }) : wpAny (model prog w) A t Q E s :=
  wpAny_mono h (fun v s' ⟨D, h', tk, n, e1, e2, F, N, l⟩ => by subst e1 e2; exact k D h' tk n F N l) fun _ _ e => e
theorem jFlag {b : Bool} {D : Addr} {h' : Heap} {tk n : Nat} {its : Array Value} {news' : Led} (F : Fr h₀ L h' m) (N : News h₀ L h' news') (hm : (D, listOf its n) ∈ news') (hs : ∀ p ∈ news, p ∈ news') (e : its = flg b) (l : AllLt D news) :
    JFlag h₀ L m news s b (.ref D) { s with heap := h', toks := tk } := by
  subst e
  exact ⟨D, h', tk, n, rfl, rfl, F, fun p hp => (List.mem_cons.mp hp).elim (fun q => q ▸ N _ hm) fun q => N _ (hs p q), l⟩
theorem joinVal (u : Value) (_F : Fr h₀ L s.heap m) (_N : News h₀ L s.heap news) (h : wpAny (model prog w) A t (JVal h₀ L m news s u) E s)
    (k : ∀ h' tk, Fr h₀ L h' m → News h₀ L h' news → Q u { s with heap := h', toks := tk }) : wpAny (model prog w) A t Q E s :=
  wpAny_mono h (fun v s' ⟨e1, h', tk, e2, F, N⟩ => by subst e1 e2; exact k h' tk F N) fun _ _ e => e
theorem jVal {u v : Value} {h' : Heap} {tk : Nat} {news' : Led} (F : Fr h₀ L h' m) (N : News h₀ L h' news') (hs : ∀ p ∈ news, p ∈ news') (e : v = u) :
    JVal h₀ L m news s u v { s with heap := h', toks := tk } := ⟨e, h', tk, rfl, F, fun p hp => N p (hs p hp)⟩
theorem joinTn {z : Str} {b : Bool} (_F : Fr h₀ L s.heap m) (_N : News h₀ L s.heap news) (_hz : m z = some (.bool b)) (h : wpAny (model prog w) A t (JVal h₀ L m news s (tn b)) E s)
    (k : ∀ h' tk, Fr h₀ L h' m → News h₀ L h' news → Q (tn b) { s with heap := h', toks := tk }) : wpAny (model prog w) A t Q E s := joinVal _ _F _N h k
theorem joinOr {b : Bool} {ns1 ns2 : List Int} {vs : List Value} (_i : IntsAre vs (fd b ns1)) (_F : Fr h₀ L s.heap m) (_N : News h₀ L s.heap news) (h : wpAny (model prog w) A t (JVal h₀ L m news s (.bool (decide (ns1.length ≤ ns2.length ∧ (fd b ns2).drop (ns2.length - ns1.length) = fd b ns1)))) E s)
    (k : ∀ h' tk, Fr h₀ L h' m → News h₀ L h' news → Q (.bool (decide (ns1.length ≤ ns2.length ∧ (fd b ns2).drop (ns2.length - ns1.length) = fd b ns1))) { s with heap := h', toks := tk }) : wpAny (model prog w) A t Q E s := joinVal _ _F _N h k
theorem joinPair {z : Str} {b : Bool} (dk : Addr) (xs ys : List Int) (_F : Fr h₀ L s.heap m) (_N : News h₀ L s.heap news) (_hz : m z = some (.bool b)) (h : wpAny (model prog w) A t (JPair h₀ L m news s dk (fd b xs) (fd b ys)) E s)
    (k : ∀ T l r vs us nT nl nr h' tk, Fr h₀ L h' m → News h₀ L h' ((T, { cls := .type "tuple", data := .seq #[.ref l, .ref r] nT }) :: (l, listOf vs.toArray nl) :: (r, listOf us.toArray nr) :: news) → IntsAre vs (fd b xs) → IntsAre us (fd b ys) → (fd b xs).length = xs.length → (fd b ys).length = ys.length →
      @Ne Nat T dk → @Ne Nat l dk → @Ne Nat r dk → Q (.ref T) { s with heap := h', toks := tk }) : wpAny (model prog w) A t Q E s :=
  wpAny_mono h (fun v s' q => by
    obtain ⟨T, l, r, vs, us, nT, nl, nr, h', tk, e1, e2, F, N, i1, i2, o1, o2, o3⟩ := q
    subst e1 e2; exact k T l r vs us nT nl nr h' tk F N i1 i2 (fd_length _ _) (fd_length _ _) o1 o2 o3) fun _ _ e => e
theorem jPair {dk : Addr} {xs ys : List Int} {T l r : Addr} {vs us : List Value} {nT nl nr : Nat} {h' : Heap} {tk : Nat} {news' : Led} (F : Fr h₀ L h' m) (N : News h₀ L h' news')
    (h1 : (T, { cls := .type "tuple", data := .seq #[.ref l, .ref r] nT }) ∈ news') (h2 : (l, listOf vs.toArray nl) ∈ news') (h3 : (r, listOf us.toArray nr) ∈ news') (hs : ∀ p ∈ news, p ∈ news') (i1 : IntsAre vs xs) (i2 : IntsAre us ys) (o1 : @Ne Nat T dk) (o2 : @Ne Nat l dk) (o3 : @Ne Nat r dk) :
    JPair h₀ L m news s dk xs ys (.ref T) { s with heap := h', toks := tk } := by
  refine ⟨T, l, r, vs, us, nT, nl, nr, h', tk, rfl, rfl, F, fun p hp => ?_, i1, i2, o1, o2, o3⟩
  rcases List.mem_cons.mp hp with rfl | hp
  · exact N _ h1
  rcases List.mem_cons.mp hp with rfl | hp
  · exact N _ h2
  rcases List.mem_cons.mp hp with rfl | hp
  · exact N _ h3
  exact N _ (hs p hp)
theorem add_flags {l f x y : Addr} {n n' : Nat} {b : Bool} (F : Fr h₀ L s.heap m) (N : News h₀ L s.heap news) (h2 : (f, listOf (flg b) n') ∈ news) (h1 : (l, listOf #[.ref x, .ref y] n) ∈ news)
    (h : ∀ D h', Fr h₀ L h' m → News h₀ L h' ((D, listOf (flagged x y b) 0) :: news) → (∀ p ∈ news, p.1 < D) → Q (.ref D) { s with heap := h' }) : wpAny (model prog w) A (binaryOp .Add (.ref l) (.ref f)) Q E s := by
  refine kmk_add_lit F N (PySem.IsL.isList (n := n) (N _ h1).1) (PySem.IsL.isList (n := n') (N _ h2).1) (flg_add x y b) (fun D h' F' N' l => h D h' F' (by simpa using N') l) ?_
  rw [PySem.sizeLine_eq]
  cases b <;> (simp only [flg, List.size_toArray, Array.length_toList, if_true, if_false, List.length_cons, List.length_nil, Bool.false_eq_true]; omega)
theorem readsAll_bools {h : Heap} : ∀ bs : List Bool, ReadsAll h (bs.map Value.bool) (bs.map PyData.bool) []
  | [] => .nil
  | b :: r => by
    have := ReadsAll.cons (Reads.bool (h := h) b) (readsAll_bools (h := h) r)
    simpa using this
theorem reads_bools {h : Heap} {a : Addr} {bs : List Bool} {its : Array Value} (hl : h.IsList a its) (e : its.toList = bs.map Value.bool) : Reads h (.ref a) (.list (bs.map PyData.bool)) [a] := by
  obtain ⟨o, ho, hc, n, hd⟩ := hl
  have e' : its = (bs.map Value.bool).toArray := by rw [← e, Array.toArray_toList]
  exact Reads.list ho hc (e' ▸ hd) (by simpa using readsAll_bools bs)
theorem canLayAll0_bools : ∀ ns : List Bool, PyData.canLayAll0 (ns.map PyData.bool) = true
  | [] => by simp [PyData.canLayAll0]
  | n :: r => by simp [PyData.canLayAll0, PyData.canLay0, canLayAll0_bools r]
theorem depthAll_bools : ∀ ns : List Bool, PyData.depthAll (ns.map PyData.bool) ≤ 1
  | [] => by simp [PyData.depthAll]
  | n :: r => by
    have := depthAll_bools r
    simp only [List.map_cons, PyData.depthAll, PyData.depth]
    omega
theorem shaped_bools (ns : List Bool) : shaped (.list (ns.map PyData.bool)) = true := by
  have h1 := depthAll_bools ns
  have h2 : PyData.depth (.list (ns.map PyData.bool)) ≤ 64 := by simp only [PyData.depth]; omega
  show (PyData.canLay0 (.list (ns.map PyData.bool)) && decide (PyData.depth (.list (ns.map PyData.bool)) ≤ 64)) = true
  rw [Bool.and_eq_true]
  exact ⟨by simp only [PyData.canLay0]; exact canLayAll0_bools ns, decide_eq_true h2⟩
theorem noMix_bools : ∀ ns ms : List Bool, noMixAll (ns.map PyData.bool) (ms.map PyData.bool) = true
  | [], [] => by simp [noMixAll]
  | [], _ :: _ => by simp [noMixAll]
  | _ :: _, [] => by simp [noMixAll]
  | _ :: r, _ :: q => by simp [noMixAll, noMix, noMix_bools r q]
theorem same_bools : ∀ ns ms : List Bool, PySem.Spec.sameAll (ns.map PyData.bool) (ms.map PyData.bool) = decide (ns = ms)
  | [], [] => by simp [PySem.Spec.sameAll]
  | [], _ :: _ => by simp [PySem.Spec.sameAll]
  | _ :: _, [] => by simp [PySem.Spec.sameAll]
  | n :: r, k :: q => by
    simp only [List.map_cons, PySem.Spec.sameAll, PySem.Spec.same, same_bools r q]
    by_cases h : n = k <;> simp [h]
theorem ne_bools {a b : Addr} {xs ys : Array Value} {n n' : Nat} (bs cs : List Bool) (N : News h₀ L s.heap news) (h1 : (a, listOf xs n) ∈ news) (h2 : (b, listOf ys n') ∈ news) (e1 : xs.toList = bs.map Value.bool) (e2 : ys.toList = cs.map Value.bool) (hu : A.units + 64 < cLine)
    (h : Q (.bool (!decide (bs = cs))) s) : wpAny (model prog w) A (compareOp .NotEq (.ref a) (.ref b)) Q E s :=
  ne_dataH_same (reads_bools (PySem.IsL.isList (n := n) (N _ h1).1) e1) (reads_bools (PySem.IsL.isList (n := n') (N _ h2).1) e2) (shaped_bools bs) (shaped_bools cs) hu (by simp only [noMix]; exact noMix_bools bs cs) (by simp only [PySem.Spec.same]; rw [same_bools]; exact h)
theorem ne_bools_same {a b : Addr} {xs ys : Array Value} {n n' : Nat} (bs cs : List Bool) (N : News h₀ L s.heap news) (h1 : (a, listOf xs n) ∈ news) (h2 : (b, listOf ys n') ∈ news) (e1 : xs.toList = bs.map Value.bool) (e2 : ys.toList = cs.map Value.bool) (hu : A.units + 64 < cLine) (he : bs = cs)
    (h : Q (.bool false) s) : wpAny (model prog w) A (compareOp .NotEq (.ref a) (.ref b)) Q E s :=
  ne_bools bs cs N h1 h2 e1 e2 hu (by rw [decide_eq_true he]; exact h)
theorem eq_bools {a b : Addr} {xs ys : Array Value} {n n' : Nat} (bs cs : List Bool) (N : News h₀ L s.heap news) (h1 : (a, listOf xs n) ∈ news) (h2 : (b, listOf ys n') ∈ news) (e1 : xs.toList = bs.map Value.bool) (e2 : ys.toList = cs.map Value.bool) (hu : A.units + 64 < cLine)
    (h : Q (.bool (decide (bs = cs))) s) : wpAny (model prog w) A (compareOp .Eq (.ref a) (.ref b)) Q E s :=
  eq_dataH_same (reads_bools (PySem.IsL.isList (n := n) (N _ h1).1) e1) (reads_bools (PySem.IsL.isList (n := n') (N _ h2).1) e2) (shaped_bools bs) (shaped_bools cs) hu (by simp only [noMix]; exact noMix_bools bs cs) (by simp only [PySem.Spec.same]; rw [same_bools]; exact h)
end
section
variable {prog : Program} {w : World} {A : Around} {h₀ : Heap} {L ax : Addr} {m : Str → Option Value} {env : Env} {elt : Expr} {x : Str} {scope : Scope} {cl : List (Str × Addr)} {s : Shared} {Fin : List Value → List (Addr × Obj) → Prop}
/-- a comprehension over a list of T and NIL -/
theorem compB {its : Array Value} {kk : Nat} (bs : List Bool) (Led : Led) (e : its = (bs.map tn).toArray) (hl : (ax, listOf its kk) ∈ Led)
    (turn : ∀ i b I oI C oC D m₂ ys h tk (E' : Value → Shared → Prop), i < bs.length → LCg.NsObj oC m₂ → m₂ x = some (tn b) → Fr h₀ L h m → News h₀ L h ((I, oI) :: (C, oC) :: (D, LCg.lst ys) :: Led) → LCg.Off3 I C D Led → ((@Ne Nat I C) ∧ (@Ne Nat I D) ∧ (@Ne Nat C D)) →
      wpAny (model prog w) A (eval elt (compEnvC scope cl C env)) (CEnd h₀ L m { s with heap := h, toks := tk } I oI C oC D ys (fun _ : Unit => Led) (fun ys' _ => ys' = ys ++ [.bool b])) E' { s with heap := h, toks := tk })
    (fin : Fin (bs.map Value.bool) Led) : LCg.CompRest prog w A h₀ L m env elt x scope cl s (LCg.SrcAt h₀ ax its) (fun i v => its[i]? = some v) Fin its.size 0 [] Led := by
  subst e
  have hz : (bs.map tn).toArray.size = bs.length := by simp
  have key : ∀ (j i : Nat), i + j = bs.length → LCg.CompRest prog w A h₀ L m env elt x scope cl s (LCg.SrcAt h₀ ax (bs.map tn).toArray) (fun i v => (bs.map tn).toArray[i]? = some v) Fin j i ((bs.take i).map Value.bool) Led := by
    intro j
    induction j with
    | zero =>
      intro i hi'
      rw [List.take_of_length_le (by omega)]
      exact LCg.CompRest.zero fin
    | succ j ih =>
      intro i hi'
      refine LCg.CompRest.succ ?_
      intro v I oI C oC D m₂ h tk E' hv hC hx F N off ne
      have hin : i < bs.length := by omega
      have hv' : v = tn bs[i] := by
        have : (bs.map tn)[i]? = some v := by simpa using hv
        rw [List.getElem?_map, List.getElem?_eq_getElem hin] at this
        exact (Option.some.inj this).symm
      subst hv'
      refine wpAny_mono (turn i bs[i] I oI C oC D m₂ _ h tk E' hin hC hx F N off ne) (fun y s₂ hq => ?_) fun _ _ e => e
      obtain ⟨_, h', tk', all, e, F', N', sub, off', hc'⟩ := hq
      refine ⟨h', tk', Led, e, F', fun p hp => N' p (sub p hp), off', .inr ⟨_, hl, rfl, _, rfl⟩, ?_⟩
      dsimp only
      rw [hc']
      have e2 : ((bs.take i).map Value.bool) ++ [Value.bool bs[i]] = (bs.take (i + 1)).map Value.bool := by
        rw [List.take_succ_eq_append_getElem hin, List.map_append]; rfl
      rw [e2]
      exact ih (i + 1) (by omega)
  rw [hz]
  exact key bs.length 0 (by omega)
end
theorem five {a b c d e a' b' c' d' e' : Bool} (h1 : a = a') (h2 : b = b') (h3 : c = c') (h4 : d = d') (h5 : e = e') : [a, b, c, d, e] = [a', b', c', d', e'] := by rw [h1, h2, h3, h4, h5]
theorem fd_t {b : Bool} {ns : List Int} (h : b = true) : fd b ns = ns.map low := by subst h; rfl
theorem fd_f {b : Bool} {ns : List Int} (h : b = false) : fd b ns = ns := by subst h; rfl
/-- the right ends as the law takes them -/
theorem suff_law {l r : List Int} (h : l ≠ []) : (l.length ≤ r.length ∧ r.drop (r.length - l.length) = l) ↔ r.drop (r.length - (-(-(l.length : Int))).toNat) = l := by
  have e : (-(-(l.length : Int))).toNat = l.length := by omega
  rw [e]
  constructor
  · exact fun q => q.2
  · intro q
    refine ⟨?_, q⟩
    have := congrArg List.length q
    rw [List.length_drop] at this
    have hp := List.length_pos_iff.mpr h
    omega
theorem flg_t {k : Int} (h : k = 1) : #[Value.ref 60] = flg (k == 1) := by subst h; rfl
theorem flg_f {k : Int} (h : k ≠ 1) : #[] = flg (k == 1) := by rw [flg, if_neg fun q => h (beq_iff_eq.mp q)]
theorem tn_t {k : Int} (h : k = 1) : Value.ref 60 = tn (k == 1) := by subst h; rfl
theorem tn_f {k : Int} (h : k ≠ 1) : Value.ref 57 = tn (k == 1) := by rw [tn, if_neg fun q => h (beq_iff_eq.mp q)]
theorem ia_t {k : Int} {vs : List Value} {ns : List Int} (h : k = 1) (i : IntsAre vs (ns.map low)) : IntsAre vs (fd (k == 1) ns) := by rw [fd_t (beq_iff_eq.mpr h)]; exact i
theorem ia_f {k : Int} {vs : List Value} {ns : List Int} (h : k ≠ 1) (i : IntsAre vs ns) : IntsAre vs (fd (k == 1) ns) := by rw [fd_f (beq_eq_false_iff_ne.mpr h)]; exact i
theorem suff_or1 {b : Bool} {n m : List Int} (h : (fd b n).length = 0) : true = decide (n.length ≤ m.length ∧ (fd b m).drop (m.length - n.length) = fd b n) := by
  have e : fd b n = [] := List.length_eq_zero_iff.mp h
  have e2 : n.length = 0 := by rw [← fd_length b n]; exact h
  rw [e, e2]
  symm
  rw [decide_eq_true_eq]
  exact ⟨Nat.zero_le _, by rw [List.drop_eq_nil_iff, fd_length]; exact Nat.le_refl _⟩
theorem suff_or2 {b : Bool} {n m : List Int} {k : Nat} (h : ¬ (fd b n).length = 0) (hk : k = (fd b m).length - (-(-((fd b n).length : Int))).toNat) : decide ((fd b m).drop k = fd b n) = decide (n.length ≤ m.length ∧ (fd b m).drop (m.length - n.length) = fd b n) := by
  subst hk
  have h' : fd b n ≠ [] := fun e => h (by rw [e]; rfl)
  have := suff_law (l := fd b n) (r := fd b m) h'
  rw [fd_length, fd_length] at this
  rw [fd_length, fd_length]
  exact decide_eq_decide.mpr this.symm
theorem pref_len {b : Bool} {n m : List Int} : decide ((fd b m).take n.length = fd b n) = decide ((fd b m).take ((fd b n).length : Int).toNat = fd b n) := by rw [fd_length, Int.toNat_natCast]
end
section
/-- the record oe on its way, its fields turned; fl: the frame that its newest note is flagged for -/
noncomputable def Flown (h base : Heap) (e : Addr) (oe : Obj) (fl : Value) : Prop :=
  ∃ vs T oT ts, h.get? e = some { oe with data := .fields vs } ∧ vs[1]? = some (.ref T) ∧ base.get? T = none ∧ T ≠ e ∧ h.get? T = some oT ∧ oT.data = .fields ts ∧ ts[3]? = some fl
/-- what a step of the way keeps and gives -/
noncomputable def Way (base : Heap) (l : List Env) (e : Addr) (oe : Obj) (fl : Value) (h h' : Heap) : Prop :=
  base.StaysIn h' ∧ h'.FunFrames base l ∧ Flown h' base e oe fl ∧ h.UpToSlots h'
theorem map_is {oe : Obj} {vs : Array Value} (f : Array Value → Array Value) : Obj.mapFields f { oe with data := .fields vs } = { oe with data := .fields (f vs) } := rfl
section
variable {M : Model} {A : Around} {E : Value → Shared → Prop} {s : Shared} {base : Heap} {env : Env} {outer : List Env} {L e : Addr} {oe : Obj} {Q : Unit → Shared → Prop}
theorem keep_upd {h : Heap} {T : Addr} {oT : Obj} {ts : Array Value} {i : Nat} {x : Value} (hT : h.get? T = some oT) (hd : oT.data = .fields ts) (hn : base.get? T = none) :
    (∀ b, b ≠ T → (h.update T (Obj.mapFields (·.setIfInBounds i x))).get? b = h.get? b) ∧ (∀ b o, h.get? b = some o → (∀ vs, o.data ≠ .fields vs) → b ≠ T) ∧ (∀ b o, base.get? b = some o → b ≠ T) :=
  ⟨fun b hb => Heap.get?_update_other _ _ (Ne.symm hb), fun b o hb hnf q => by rw [q, hT] at hb; cases hb; exact hnf _ hd, fun b o hb q => by rw [q, hn] at hb; cases hb⟩
/-- a new note for this frame -/
theorem noteD {vs : Array Value} {head : Value} {hadNext : Bool} (hfr : A.frames = some (env :: outer)) (hl : s.heap.FunFrames base (env :: outer)) (hf : env.frame = some L)
    (he : s.heap.get? e = some { oe with data := .fields vs }) (hkb : base.StaysIn s.heap) (hen : base.get? e = none) (hsz : 1 < vs.size)
    (h : ∀ h', Way base (env :: outer) e oe (rawInt L) s.heap h' → Q () { s with heap := h' }) :
    wpAny M A (do let a ← frameOf env; let pl ← entryPlaceOf L hadNext; let b ← EntryCells.newEntry head a .none (rawInt L) .none pl; setField (.ref e) 1 b) Q E s := by
  have hene : e ∉ (env :: outer).filterMap (·.frame) := fun hm => by
    obtain ⟨_, o, ho, hnf⟩ := hl.mem hm
    rw [he] at ho; cases ho; exact hnf _ rfl
  refine wpAny_bind (wpAny_frameOf_fun hfr hl hf fun h₁ hs₁ => ?_)
  refine wpAny_bind (wpAny_entryPlaceOf fun pl hpl => ?_)
  unfold EntryCells.newEntry newFields
  refine wpAny_bind (wpAny_newObj_type ?_ (hpl.sizeOk5 _ _ _ _ _))
  have he₁ := (hs₁.2.1 e hene).trans he
  have kb₁ : base.StaysIn h₁ := fun b o hbo => (hs₁.2.1 b fun hm => by rw [(hl.mem hm).1] at hbo; cases hbo).trans (hkb b o hbo)
  generalize hN : ({ cls := .type "traceback", dict := none, data := .fields ([head, .ref L, .none, rawInt L, .none] ++ (if pl.isEmpty then List.replicate 6 Value.none else pl)).toArray } : Obj) = nt
  have he₂ := Heap.get?_push_of_some (h := h₁) nt he₁
  have hTe : h₁.objs.size ≠ e := Nat.ne_of_gt (Heap.lt_size he₁)
  refine wpAny_setField he₂ rfl hsz (h _ ?_)
  have hT := Heap.get?_push_size (o := nt) h₁ (by subst hN; rfl)
  obtain ⟨k1, k2, k3⟩ := keep_upd (base := base) (i := 1) (x := .ref h₁.objs.size) he₂ rfl hen
  have up : s.heap.UpToSlots ((h₁.push nt).update e (Obj.mapFields (·.setIfInBounds 1 (Value.ref h₁.objs.size)))) := fun b o hb hnf => by
    obtain ⟨sl, hs⟩ := hs₁.2.2 b o hb
    have hs' := Heap.get?_push_of_some (h := h₁) nt hs
    exact ⟨sl, (k1 b (k2 b _ hs' hnf)).trans hs'⟩
  refine ⟨fun b o hbo => (k1 b (k3 b o hbo)).trans (Heap.get?_push_of_some _ (kb₁ b o hbo)), hl.of_keeps fun b o hb hnf => ?_, ?_, up⟩
  · obtain ⟨sl, hs⟩ := up b o hb hnf
    exact ⟨_, hs, rfl⟩
  · refine ⟨vs.setIfInBounds 1 (.ref h₁.objs.size), h₁.objs.size, nt, _, ?_, by simp [hsz], kb₁.fresh, hTe, (k1 _ hTe).trans hT, by subst hN; rfl, by first | (simp; done) | (rcases hpl with rfl | ⟨_, _, _, _, _, _, _, rfl⟩ <;> simp)⟩
    exact Heap.get?_update_self _ he₂ (Obj.isFreed_of_fields rfl)
/-- the flag taken off -/
theorem flagD {l : List Env} {fl : Value} (hkb : base.StaysIn s.heap) (hl : s.heap.FunFrames base l) (ht : Flown s.heap base e oe fl)
    (h : ∀ h', Way base l e oe .none s.heap h' → Q () { s with heap := h' }) : wpAny M A (setFlight (.ref e) none) Q E s := by
  obtain ⟨vs, T, oT, ts, he, h1, hnT, hTe, hT, hdT, h3⟩ := ht
  have hsz3 : 3 < ts.size := (Array.getElem?_eq_some_iff.mp h3).1
  unfold setFlight
  refine wpAny_bind (wpAny_field he rfl h1 ?_)
  rw [if_pos (show (Value.ref T != Value.none) = true from by simp)]
  refine wpAny_setField hT hdT hsz3 (h _ ?_)
  obtain ⟨k1, k2, k3⟩ := keep_upd (base := base) (i := 3) (x := (none : Option Addr).elim Value.none fun f => rawInt f) hT hdT hnT
  refine ⟨fun b o hbo => (k1 b (k3 b o hbo)).trans (hkb b o hbo), hl.of_keeps fun b o hb hnf => ⟨o, (k1 b (k2 b o hb hnf)).trans hb, rfl⟩, ?_, fun b o hb hnf => ⟨o.slots, (k1 b (k2 b o hb hnf)).trans hb⟩⟩
  exact ⟨vs, T, _, _, (k1 e (Ne.symm hTe)).trans he, h1, hnT, hTe, Heap.get?_update_self _ hT (Obj.isFreed_of_fields (Obj.data_mapFields hdT _)), Obj.data_mapFields hdT _, by simp [hsz3]⟩
/-- the first frame left -/
theorem leave1D {vs : Array Value} (hfr : A.frames = some (env :: outer)) (hl : s.heap.FunFrames base (env :: outer)) (hf : env.frame = some L)
    (he : s.heap.get? e = some { oe with data := .fields vs }) (hkb : base.StaysIn s.heap) (hen : base.get? e = none) (h1 : vs[1]? = some .none)
    (h : ∀ h', Way base (env :: outer) e oe .none s.heap h' → Q () { s with heap := h' }) : wpAny M A (leaving env (.ref e)) Q E s := by
  unfold leaving
  refine wpAny_bind ?_
  unfold noteFrame
  simp only [hf]
  refine wpAny_bind (wpAny_field he rfl h1 ?_)
  rw [if_neg (by decide)]
  refine noteD hfr hl hf he hkb hen (Array.getElem?_eq_some_iff.mp h1).1 fun h₁ ⟨a1, a2, a3, a4⟩ => ?_
  exact flagD a1 a2 a3 fun h₂ ⟨b1, b2, b3, b4⟩ => h h₂ ⟨b1, b2, b3, a4.trans b4⟩
/-- a frame looks at it -/
theorem looksD (hfr : A.frames = some (env :: outer)) (hl : s.heap.FunFrames base (env :: outer)) (hf : env.frame = some L) (ht : Flown s.heap base e oe .none) (hkb : base.StaysIn s.heap) (hen : base.get? e = none)
    (h : ∀ h', Way base (env :: outer) e oe (rawInt L) s.heap h' → Q () { s with heap := h' }) : wpAny M A (noteFrame (.ref e) env) Q E s := by
  obtain ⟨vs, T, oT, ts, he, h1, hnT, hTe, hT, hdT, h3⟩ := ht
  unfold noteFrame
  simp only [hf]
  refine wpAny_bind (wpAny_field he rfl h1 ?_)
  rw [if_pos (show (Value.ref T != Value.none) = true from by simp)]
  refine wpAny_bind (wpAny_field hT hdT h3 ?_)
  rw [if_neg (show ¬ ((Value.none == rawInt L) = true) from by simp [rawInt])]
  refine wpAny_bind (wpAny_setField hT hdT (Array.getElem?_eq_some_iff.mp h3).1 ?_)
  obtain ⟨k1, k2, k3⟩ := keep_upd (base := base) (i := 3) (x := Value.none) hT hdT hnT
  refine noteD hfr (hl.of_keeps fun b o hb hnf => ⟨o, (k1 b (k2 b o hb hnf)).trans hb, rfl⟩) hf ((k1 e (Ne.symm hTe)).trans he) (fun b o hbo => (k1 b (k3 b o hbo)).trans (hkb b o hbo)) hen (Array.getElem?_eq_some_iff.mp h1).1 fun h' ⟨a1, a2, a3, a4⟩ => ?_
  exact h h' ⟨a1, a2, a3, fun b o hb hnf => a4 b o ((k1 b (k2 b o hb hnf)).trans hb) hnf⟩
end
end
section
open Builtin Builtin.ObjectAttr
abbrev bmE : List Value := [.type "Exception", .type "BaseException", .type "object"]
abbrev cls31 : Obj := excClassObj (Str.ofString "LispSignal") (Str.ofString "LispSignal") 31 30 [.type "Exception"] bmE true [] [] false none none (some (.ref 15)) none (some (.str (Str.ofString "LispSignal") 189)) (some (.str (Str.ofString "LispSignal") 197)) (some (.bool true)) "Exception.__new__"
theorem k31 (p : Params) : (hd.heap_39 p).lookup 31 = some cls31 := by kernel_rfl
theorem k30ok (p : Params) : nsOkIn (hd.heap_39 p) 30 = true := by kernel_rfl
theorem k30set (p : Params) : nsIn (hd.heap_39 p) 30 "__setattr__" = some none := by kernel_rfl
theorem k30get (p : Params) : nsIn (hd.heap_39 p) 30 "__getattribute__" = some none := by kernel_rfl
theorem k30sym (p : Params) : nsIn (hd.heap_39 p) 30 "symbol" = some none := by kernel_rfl
theorem k30dat (p : Params) : nsIn (hd.heap_39 p) 30 "data" = some none := by kernel_rfl
theorem lk_sym : typeLookup (.type "Exception") "symbol" = pure none := by rw [typeLookup_type, builtinLookup_eq_fast]; kernel_rfl
theorem lk_dat : typeLookup (.type "Exception") "data" = pure none := by rw [typeLookup_type, builtinLookup_eq_fast]; kernel_rfl
/-- a dict's object that maps like m, each key once -/
noncomputable def NsU (o : Obj) (m : Str → Option Value) : Prop := ∃ es ep, o.data = .dict es ep ∧ StrKeys es ∧ UniqKeys es ∧ ∀ name, nsFind es name = m name
theorem NsU.ns1 {h : Heap} {D : Addr} {o : Obj} {m : Str → Option Value} (x : NsU o m) (e : h.get? D = some o) : h.Ns1 D m := let ⟨es, ep, r⟩ := x; ⟨o, es, ep, e, r⟩
theorem nsU_of {h : Heap} {D : Addr} {m : Str → Option Value} (x : h.Ns1 D m) : ∃ o, h.get? D = some o ∧ NsU o m := let ⟨o, es, ep, e, r⟩ := x; ⟨o, e, es, ep, r⟩
/-- the record of LispSignal -/
abbrev sig (dd : Option Addr) (vs : Array Value) : Obj := { cls := .ref 31, dict := dd, data := .fields vs }
section
variable {prog : Program} {w : World} {A : Around} {E : Value → Shared → Prop} {h : Heap} {g : Array GenState} {d : Drawn} {t : Nat} {os : OsState} {x : Addr} {mN mA : Str → Option Value} {name : Str} {v : Value} {vs : Array Value}
variable {nm q : Str} {C N : Addr} {bs bm : List Value} {sn : List Str} {sub : List Value} {ab : Bool} {col : Option Bool} {dd : Option Addr} {k0 k1 k2 k3 k5 : Option Value} {B newId sa owner : String}
theorem new_entry {tk : Tok} {o : Obj} {Q : Fin → Shared → Prop} (SF : StoreFacts B bm sa owner) (hC : h.get? C = some (excClassObj nm q C N bs bm true sn sub ab col dd k0 k1 k2 k3 k5 newId)) (hn : h.Ns N mN) (hna : mN name = none) (hB : typeLookup (.type B) name = pure none) (hx : h.get? x = some o) (hc : o.cls = .ref C) (hdf : o.data = .fields vs) (hdn : o.dict = none)
    (hq : ∀ h' tk', h'.get? x = some { o with dict := some h.objs.size } → h'.Ns1 h.objs.size (fun y => if y = name then some v else none) → (∀ b ob, b ≠ x → h.get? b = some ob → h'.get? b = some ob) → Q (.done (.ret .none)) ⟨h', g, d, tk', os⟩) :
    wpAny (model prog w) A (Builtin.«object.__setattr__» ⟨[.ref x, .str name tk, v], []⟩) Q E ⟨h, g, d, t, os⟩ := by
  have hpass := SF.passes (.ref x)
  unfold Builtin.«object.__setattr__»
  repeat (first | rw [refuse_eq] | (rw [refuseLoop_ref, hpass]) | (with_reducible refine wpAny_loadPart_at hx ?_; rw [hc]) | with_reducible refine wpAny_mroOf_exc hC ?_ | (with_reducible refine wpAny_typeLookup_exc hC hn SF.mro hB ?_; rw [hna]) | wp_step)
  have hx₁ : (h.push { cls := .type "dict", data := .dict #[] }).get? x = some o := Heap.get?_push_of_some _ hx
  have hxs : x ≠ h.objs.size := Nat.ne_of_lt (Heap.lt_size hx)
  obtain ⟨oc, od, odt, osl⟩ := o
  dsimp only at hc hdn hdf
  subst hc hdn hdf
  dsimp only
  rw [if_neg (by simp [typeHasDict])]
  refine wpAny_bind (wpAny_alloc' ?_)
  refine wpAny_bind (wpAny_update' hx₁ ?_)
  refine wpAny_pure ?_
  have hgd : ((h.push { cls := .type "dict", data := .dict #[] }).update x fun o => { cls := o.cls, dict := some h.objs.size, data := o.data, slots := o.slots }).get? h.objs.size = some { cls := .type "dict", data := .dict #[] } :=
    (Heap.get?_update_ne _ _ _ _ hxs.symm).trans (Heap.get?_push_at rfl rfl)
  have hnd : ((h.push { cls := .type "dict", data := .dict #[] }).update x fun o => { cls := o.cls, dict := some h.objs.size, data := o.data, slots := o.slots }).Ns h.objs.size (fun _ => none) :=
    ⟨_, #[], _, hgd, rfl, fun e he => absurd he (by simp), fun _ => rfl⟩
  show wpAny _ _ (storeInDict h.objs.size (.str name tk) name v) _ _ _
  unfold storeInDict newKeyGuard
  refine wpAny_bind (wpAny_pure (wpAny_bind (wpAny_nsSet1 (Heap.Ns1.of_empty hnd) fun h' hn' hs => ?_)))
  obtain ⟨oD, esD, epD, hoD, hdD, hcD⟩ := hn'.count (Within.cons name v Within.nil)
  refine wpAny_bind (wpAny_lookBehind hoD (by rw [hdD]; exact pastItsLine_dict (Nat.le_trans hcD (by rw [List.length_cons, List.length_nil, sizeLine_eq]; omega))) ?_)
  wp_walk
  refine hq h' _ ((hs.2 x hxs).trans (Heap.get?_update_self _ hx₁ ?_)) hn' fun b ob hbx hb => (hs.2 b (Nat.ne_of_lt (Heap.lt_size hb))).trans ((Heap.get?_update_ne _ _ _ _ hbx).trans (Heap.get?_push_of_some _ hb))
  rfl
theorem new_call {tk : Tok} {o : Obj} {R : Result → Shared → Prop} (SF : StoreFacts B bm sa owner) (hC : h.get? C = some (excClassObj nm q C N bs bm true sn sub ab col dd k0 k1 k2 k3 k5 newId)) (hn : h.Ns N mN) (hna : mN name = none) (hB : typeLookup (.type B) name = pure none) (hx : h.get? x = some o) (hc : o.cls = .ref C) (hdf : o.data = .fields vs) (hdn : o.dict = none)
    (hq : ∀ h' tk', h'.get? x = some { o with dict := some h.objs.size } → h'.Ns1 h.objs.size (fun y => if y = name then some v else none) → (∀ b ob, b ≠ x → h.get? b = some ob → h'.get? b = some ob) → R (.ok (.ret .none)) ⟨h', g, d, tk', os⟩) :
    codeAny (model prog w) A (.call (.builtin sa) ⟨[.ref x, .str name tk, v], []⟩) R ⟨h, g, d, t, os⟩ :=
  codeAny_call_builtin SF.slot.plain SF.entry (wpAny_check_sa SF hC hx hc (new_entry SF hC hn hna hB hx hc hdf hdn hq))
theorem new_attr {o : Obj} {Q : Unit → Shared → Prop} (SF : StoreFacts B bm sa owner) (hC : h.get? C = some (excClassObj nm q C N bs bm true sn sub ab col dd k0 k1 k2 k3 k5 newId)) (hn : h.Ns N mN) (hns : mN "__setattr__" = none) (hna : mN name = none) (hB : typeLookup (.type B) name = pure none) (hx : h.get? x = some o) (hc : o.cls = .ref C) (hdf : o.data = .fields vs) (hdn : o.dict = none)
    (hq : ∀ h' tk', h'.get? x = some { o with dict := some h.objs.size } → h'.Ns1 h.objs.size (fun y => if y = name then some v else none) → (∀ b ob, b ≠ x → h.get? b = some ob → h'.get? b = some ob) → Q () ⟨h', g, d, tk', os⟩) :
    wpAny (model prog w) A (setAttr (.ref x) name v) Q E ⟨h, g, d, t, os⟩ := by
  have f3 := SF.slot.bind (.ref x)
  unfold setAttr callSpecial? specialOf
  repeat (any_goals (first | assumption | (with_reducible refine wpAny_loadPart_at hx ?_; rw [hc]) | (with_reducible refine wpAny_typeLookup_exc hC hn SF.mro SF.slot.lookup ?_; rw [hns]) | wp_step))
  refine new_call SF hC hn hna hB hx hc hdf hdn fun h' tk' a1 a2 a3 => ?_
  repeat (any_goals (first | assumption | wp_step))
  exact hq h' tk' a1 a2 a3
end
section
variable {prog : Program} {w : World} {A : Around} {E : Value → Shared → Prop} {s : Shared} {h₀ : Heap} {L e D : Addr} {m mA : Str → Option Value} {news : Led} {name : Str} {v : Value} {vs : Array Value} {g : Obj → Led} {oD : Obj} {Q : Unit → Shared → Prop}
/-- the first attribute of a signal: its dict is made -/
theorem sig_set1 (F₀ : Fr h₀ L s.heap m) (X : (hd.heap_39 w.params).In h₀) (N : News h₀ L s.heap news) (U : UpdF e (sig none vs) news g) (ha : nsIn (hd.heap_39 w.params) 30 name = some none) (hB : typeLookup (.type "Exception") name = pure none)
    (h : ∀ D oD h' tk', (∀ p ∈ news, p.1 < D) → NsU oD (fun y => if y = name then some v else none) → Fr h₀ L h' m → News h₀ L h' ((D, oD) :: g (sig (some D) vs)) → Q () { s with heap := h', toks := tk' }) :
    wpAny (model prog w) A (setAttr (.ref e) name v) Q E s := by
  obtain ⟨pre, post, rfl, hg, a, b⟩ := U.split
  have X' := X.keeps F₀.keep
  have z := N (e, sig none vs) (List.mem_append.mpr (.inr (.head _)))
  obtain ⟨hp, gg, d, tk, os⟩ := s
  refine new_attr F.store_Exception (X' _ _ (k31 _)) (.of_isNs (isNs_of_in X' (k30ok _))) (nsMap_none_of_in X' (k30ok _) (k30set _)) (nsMap_none_of_in X' (k30ok _) ha) hB z.1 rfl rfl rfl fun h' tk' a1 a2 a3 => ?_
  obtain ⟨oD, hD, hu⟩ := nsU_of a2
  have keep : ∀ b ob, b ∉ [e] → hp.get? b = some ob → h'.get? b = some ob := fun b ob hb q => a3 b ob (by simpa using hb) q
  have F' := LCg.fr_but F₀ keep (Ne.symm z.2.1) z.2.2
  have hLlt : L < hp.objs.size := F₀.ns.lt
  have hD₀ : h₀.get? hp.objs.size = none := by
    cases q : h₀.get? hp.objs.size with
    | none => rfl
    | some o' => exact absurd (Heap.lt_size (F₀.keep _ _ q)) (Nat.lt_irrefl _)
  refine h hp.objs.size oD h' tk' (fun p hp' => Heap.lt_size (N p hp').1) hu F' fun p hp' => ?_
  rw [hg] at hp'
  rcases List.mem_cons.mp hp' with rfl | hp'
  · exact ⟨hD, Nat.ne_of_gt hLlt, hD₀⟩
  rcases List.mem_append.mp hp' with hp' | hp'
  · have y := N p (List.mem_append.mpr (.inl hp'))
    exact ⟨a3 _ _ (a p hp') y.1, y.2⟩
  rcases List.mem_cons.mp hp' with rfl | hp'
  · exact ⟨a1, z.2⟩
  · have y := N p (List.mem_append.mpr (.inr (.tail _ hp')))
    exact ⟨a3 _ _ (b p hp') y.1, y.2⟩
/-- a further attribute -/
theorem sig_set2 (F₀ : Fr h₀ L s.heap m) (X : (hd.heap_39 w.params).In h₀) (N : News h₀ L s.heap news) (hm : (e, sig (some D) vs) ∈ news) (U : UpdF D oD news g) (hu : NsU oD mA) (ha : nsIn (hd.heap_39 w.params) 30 name = some none) (hB : typeLookup (.type "Exception") name = pure none)
    (hne : @Ne Nat D e) {ns : List Str} (hw : Within mA ns) (hsz : ns.length ≤ 100)
    (h : ∀ oD' h' tk', NsU oD' (fun y => if y = name then some v else mA y) → Fr h₀ L h' m → News h₀ L h' (g oD') → Q () { s with heap := h', toks := tk' }) :
    wpAny (model prog w) A (setAttr (.ref e) name v) Q E s := by
  obtain ⟨pre, post, rfl, hg, a, b⟩ := U.split
  have X' := X.keeps F₀.keep
  have z := N (e, sig (some D) vs) hm
  have y := N (D, oD) (List.mem_append.mpr (.inr (.head _)))
  have hx31 : e ≠ 31 := fun q => by
    have q1 := z.2.2
    rw [q, X _ _ (k31 _)] at q1; cases q1
  obtain ⟨hp, gg, d, tk, os⟩ := s
  refine store_attr F.store_Exception (X' _ _ (k31 _)) (.of_isNs (isNs_of_in X' (k30ok _))) (nsMap_none_of_in X' (k30ok _) (k30set _)) (nsMap_none_of_in X' (k30ok _) ha) hB hx31 (mA := mA) ⟨_, z.1, rfl, (fun c q => by cases q), .inr ⟨D, rfl, hne, hu.ns1 y.1⟩⟩ (fun h' tk' I hk hsame => ?_) hw (Nat.le_trans hsz (by rw [PySem.sizeLine_eq]; decide))
  obtain ⟨o₁, e1, e2, e3, e4, e5⟩ := hsame _ z.1
  have e6 := e5 D rfl
  have ho : o₁ = sig (some D) vs := by
    obtain ⟨c1, c2, c3, c4⟩ := o₁
    dsimp only at e2 e3 e4 e6
    rw [e2, e3, e4, e6]
  subst ho
  obtain ⟨o₂, f1, _, _, f4⟩ := I
  rw [e1] at f1
  cases f1
  obtain ⟨q, _⟩ | ⟨dx, q, _, hN1⟩ := f4
  · cases q
  cases q
  obtain ⟨oD', hD', hu'⟩ := nsU_of hN1
  have kp : ∀ b ob, b ≠ e → b ≠ D → hp.get? b = some ob → h'.get? b = some ob := fun b ob q1 q2 q3 => hk b ob q1 (fun o₀ dx q4 q5 => by rw [z.1] at q4; cases q4; cases q5; exact q2) q3
  have F' : Fr h₀ L h' m := ⟨F₀.ns.at' fun o q => kp L o (Ne.symm z.2.1) (Ne.symm y.2.1) q, fun b o q => kp b o (fun r => by rw [r, z.2.2] at q; cases q) (fun r => by rw [r, y.2.2] at q; cases q) (F₀.keep b o q), F₀.above⟩
  refine h oD' h' tk' hu' F' fun p hp' => ?_
  rw [hg] at hp'
  have other : ∀ p, p ∈ pre ++ (D, oD) :: post → p.1 ≠ D → h'.get? p.1 = some p.2 ∧ p.1 ≠ L ∧ h₀.get? p.1 = none := fun p q1 q2 => by
    have yp := N p q1
    by_cases q3 : p.1 = e
    · have : p.2 = sig (some D) vs := by
        have yp1 := yp.1
        rw [q3] at yp1
        exact Option.some.inj (yp1.symm.trans z.1)
      rw [this, q3]
      exact ⟨e1, z.2⟩
    · exact ⟨kp _ _ q3 q2 yp.1, yp.2⟩
  rcases List.mem_append.mp hp' with hp' | hp'
  · exact other p (List.mem_append.mpr (.inl hp')) (a p hp')
  rcases List.mem_cons.mp hp' with rfl | hp'
  · exact ⟨hD', y.2⟩
  · exact other p (List.mem_append.mpr (.inr (.tail _ hp'))) (b p hp')
end
end
section
/-- a record on its way out of the frames l: the ledger stands as it stood -/
noncomputable def RaisedD (base : Heap) (l : List Env) (e : Addr) (oe : Obj) (news : Led) (h : Heap) : Prop :=
  ∃ B, base.StaysIn B ∧ (∀ q ∈ news, B.get? q.1 = some q.2 ∧ base.get? q.1 = none) ∧ B.get? e = none ∧ B.StaysIn h ∧ h.FunFrames B l ∧ Flown h B e oe .none
section
variable {M : Model} {A : Around} {E : Value → Shared → Prop} {s' : Shared} {base g : Heap} {outer : List Env} {L a e : Addr} {m : Str → Option Value} {name : Str} {scope : Scope} {cd : Value} {Q : Unit → Shared → Prop} {news : Led} {oe : Obj} {vs : Array Value}
theorem leave_raiseD (K : Below A base outer g) (F : Fr g L s'.heap m) (N : News g L s'.heap ((e, { oe with data := .fields vs }) :: news)) (hoff : ∀ q ∈ news, q.1 ≠ e) (h1 : vs[1]? = some .none)
    (hQ : ∀ h', RaisedD base outer e oe news h' → g.UpToSlots h' → Q () { s' with heap := h' }) (hk : scope.kind = .function := by rfl) :
    wpAny M (A.deeper (envOf name scope L a cd)) (leaving (envOf name scope L a cd) (.ref e)) Q E s' := by
  have K' := K.push (name := name) (a := a) (cd := cd) F hk
  have z := N _ (.head _)
  have he0 : base.get? e = none := fresh_of_stays K.stays z.2.2
  generalize hfs : (envOf name scope L a cd :: outer).filterMap (·.frame) = fs at *
  have hin : ∀ env ∈ (envOf name scope L a cd :: outer), ∀ b, env.frame = some b → b ∈ e :: fs := fun env he b hb => .tail _ (hfs ▸ List.mem_filterMap.mpr ⟨env, he, hb⟩)
  have hfresh : ∀ b ∈ fs, base.get? b = none := fun b hb => (K'.frames.mem (hfs ▸ hb)).1
  have hoff2 : ∀ q ∈ news, q.1 ∉ fs := fun q hq hm => by
    rw [← hfs] at hm
    obtain ⟨env, he, hf⟩ := List.mem_filterMap.mp hm
    have y := N q (.tail _ hq)
    rcases List.mem_cons.mp he with rfl | he
    · exact y.2.1 (Option.some.inj hf).symm
    · obtain ⟨o, ho, _⟩ := (K.frames.mem (List.mem_filterMap.mpr ⟨env, he, hf⟩)).2
      rw [y.2.2] at ho; cases ho
  have st : base.StaysIn (hideAll s'.heap (e :: fs)) := fun b o q => hideAll_get _ (K'.stays b o q) fun hm => by
    rcases List.mem_cons.mp hm with rfl | hm
    · rw [he0] at q; cases q
    · rw [hfresh b hm] at q; cases q
  have hl : ∀ q ∈ news, (hideAll s'.heap (e :: fs)).get? q.1 = some q.2 ∧ base.get? q.1 = none := fun q hq =>
    ⟨hideAll_get _ (N q (.tail _ hq)).1 fun hm => (List.mem_cons.mp hm).elim (hoff q hq) (hoff2 q hq), fresh_of_stays K.stays (N q (.tail _ hq)).2.2⟩
  have hen : (hideAll s'.heap (e :: fs)).get? e = none := hideAll_none _ (.head _)
  refine leave1D (base := hideAll s'.heap (e :: fs)) K'.stack (funFrames_hide K'.frames hin) rfl z.1 (fun b o q => of_hideAll _ q) hen h1 fun h' ⟨a1, a2, a3, a4⟩ => ?_
  obtain ⟨_, _, a2⟩ := a2
  exact hQ h' ⟨_, st, hl, hen, a1, a2, a3⟩ ((Heap.UpToSlots.of_keeps F.keep).trans a4)
end
section
variable {prog : Program} {w : World} {A₀ : Around} {E : Value → Shared → Prop} {s' : Shared} {h₀ h : Heap} {outer : List Env} {L a e : Addr} {m : Str → Option Value} {name : Str} {scope : Scope} {cd : Value}
  {n : Str} {b₀ : Stmt} {suite : List Stmt} {pos np : Pos} {rest : List ExceptHandler} {Q : Flow → Shared → Prop} {news : Led} {dd : Option Addr} {vs : Array Value}
  {p : Program} {loose : List Str} {mean : ExcName → Option Value} {mg mb : Str → Option Value} {x : Str}
theorem caught_DB (K : Below A₀ h₀ outer h₀) (F : Fr h₀ L h m) (hsm : h.UpToSlots s'.heap) (R : RaisedD h₀ (envOf name scope L a cd :: outer) e (sig dd vs) news s'.heap)
    (X : (hd.heap_39 w.params).In h₀) (T : TopRead p loose mg mb h₀) (ex : nsIn (hd.heap_39 w.params) mainGlobals x = some (some (.ref 31)))
    (k : ∀ h' ws tk, Fr h₀ L h' (fun y => if y = n then some (.ref e) else m y) → News h₀ L h' ((e, sig dd ws) :: news) →
      wpAny (model prog w) ((A₀.deeper (envOf name scope L a cd)).mark (some (.ref e))) (execs (b₀ :: suite) (envOf name scope L a cd))
        (fun f s₄ => wpAny (model prog w) (A₀.deeper (envOf name scope L a cd)) (do bindName (envOf name scope L a cd) n .none; unbindBehindTheSuite (envOf name scope L a cd) n pos) (fun _ s₅ => Q f s₅) E s₄)
        (AsSuiteRaised (model prog w) ((A₀.deeper (envOf name scope L a cd)).mark (some (.ref e))) (envOf name scope L a cd) n pos (notedBy (model prog w) ((A₀.deeper (envOf name scope L a cd)).mark (some (.ref e))) (envOf name scope L a cd) (cameBackBy (model prog w) (A₀.deeper (envOf name scope L a cd)) (envOf name scope L a cd) E)))
        { s' with heap := h', toks := tk })
    (hk : scope.kind = .function := by rfl) (hlo : (envOf name scope L a cd).kindOf n = some .local := by rfl) (hx : (envOf name scope L a cd).kindOf x = some .globalImplicit := by rfl) (hd : (x == ("__debug__" : Str)) = false := by decide) :
    wpAny (model prog w) (A₀.deeper (envOf name scope L a cd)) (noteFrame (.ref e) (envOf name scope L a cd))
      (fun _ s₂ => wpAny (model prog w) (A₀.deeper (envOf name scope L a cd)) (setFlight (.ref e) none) (fun _ s₃ =>
        wpAny (model prog w) (A₀.deeper (envOf name scope L a cd)) (handleBy (.ref e) (envOf name scope L a cd) (.ExceptHandler (some (.Name x np)) (some n) (b₀ :: suite) pos :: rest)) Q E s₃) E s₂) E s' := by
  obtain ⟨B, hB, hl, hen, hst, hfr, hfl⟩ := R
  have hL : B.get? L = none := by
    obtain ⟨_, ⟨L', _, hf, hn', _⟩, _⟩ := hfr
    obtain rfl : L = L' := Option.some.inj hf
    exact hn'
  refine looksD (Around.frames_deeper K.stack) hfr rfl hfl hst hen fun h₄ ⟨a1, a2, a3, a4⟩ => ?_
  refine flagD a1 a2 a3 fun h₅ ⟨b1, b2, b3, b4⟩ => ?_
  have F₅ : Fr h₀ L h₅ m := F.of_stays (fun b o q => b1 b o (hB b o q)) (hsm.trans (a4.trans b4))
  obtain ⟨ws, _, _, _, he5, _⟩ := id b3
  refine wpAny_handleBy_cons (codeAny_handlers_test (name_K F₅ X T ex ?_ hk hx hd)) (by intro q; cases q)
  refine wpAny_excMatches_sub_self ((X.keeps F₅.keep) _ _ (k31 _)) he5 rfl (by rfl) (codeAny_handlers_suite_as ?_)
  refine flagD b1 b2 b3 fun h₆ ⟨c1, c2, c3, c4⟩ => ?_
  have F₆ : Fr h₀ L h₆ m := F.of_stays (fun b o q => c1 b o (hB b o q)) (hsm.trans (a4.trans (b4.trans c4)))
  obtain ⟨us, _, _, _, he6, _⟩ := id c3
  have Nl : News h₀ L h₆ news := fun q hq => ⟨c1 _ _ (hl q hq).1, (fun z => by have := (hl q hq).1; rw [z, hL] at this; cases this), (hl q hq).2⟩
  have N₆ : News h₀ L h₆ ((e, sig dd us) :: news) := News.more F₆ Nl he6 (fun es n q => by cases q) (fresh_of_stays hB hen)
  exact stN F₆ N₆ (fun h₇ F₇ N₇ => k h₇ us _ F₇ N₇) hk hlo
end
section
variable {prog : Program} {w : World} {A : Around} {E : Value → Shared → Prop} {h : Heap} {g : Array GenState} {d : Drawn} {t : Nat} {os : OsState} {a D : Addr} {vs : Array Value} {mA mN : Str → Option Value} {name : Str} {v : Value}
theorem sym_entry {tk : Tok} {Q : Fin → Shared → Prop} (hC : h.get? 31 = some cls31) (hN : h.Ns 30 mN) (hna : mN name = none) (hB : typeLookup (.type "Exception") name = pure none)
    (hx : h.get? a = some (sig (some D) vs)) (hD : h.Ns D mA) (hv : mA name = some v) (hq : Q (.done (.ret v)) ⟨h, g, d, t, os⟩) :
    wpAny (model prog w) A (Builtin.«object.__getattribute__» ⟨[.ref a, .str name tk], []⟩) Q E ⟨h, g, d, t, os⟩ := by
  unfold Builtin.«object.__getattribute__»
  repeat (any_goals (first | assumption | (with_reducible refine wpAny_loadPart_at hx ?_) | (with_reducible refine wpAny_nsGet hD ?_; rw [hv]) | (with_reducible refine wpAny_typeLookup_exc hC hN F.store_Exception.mro hB ?_; rw [hna]) | wp_step))
theorem sym_call {tk : Tok} {R : Result → Shared → Prop} (hC : h.get? 31 = some cls31) (hN : h.Ns 30 mN) (hna : mN name = none) (hB : typeLookup (.type "Exception") name = pure none)
    (hx : h.get? a = some (sig (some D) vs)) (hD : h.Ns D mA) (hv : mA name = some v) (hq : R (.ok (.ret v)) ⟨h, g, d, t, os⟩) :
    codeAny (model prog w) A (.call (.builtin "BaseException.__getattribute__") ⟨[.ref a, .str name tk], []⟩) R ⟨h, g, d, t, os⟩ := by
  exact codeAny_call_builtin F.attrBase_Exception.ga.plain F.entry_bexc_ga (wpAny_check_ga_own F.attrBase_Exception hC .base hx rfl (sym_entry hC hN hna hB hx hD hv hq))
theorem sym_by {tk : Tok} {fill expr : Bool} {Q : Value → Shared → Prop} (hC : h.get? 31 = some cls31) (hN : h.Ns 30 mN) (hga : mN "__getattribute__" = none) (hgt : mN "__getattr__" = none) (hna : mN name = none) (hB : typeLookup (.type "Exception") name = pure none)
    (hx : h.get? a = some (sig (some D) vs)) (hD : h.Ns D mA) (hv : mA name = some v) (hh : handedOut v = pure v) (hq : Q v ⟨h, g, d, t, os⟩) :
    wpAny (model prog w) A (getAttrBy (.ref a) (.str name tk) fill expr) Q E ⟨h, g, d, t, os⟩ := by
  have f3 := F.attrBase_Exception.ga.bind (.ref a)
  have hx0 : (expr && onTheHeap (Value.builtin "BaseException.__getattribute__")) = false := by cases expr <;> rfl
  have hx2 : (Value.builtin "BaseException.__getattribute__" == Value.builtin "object.__getattribute__") = false := by decide +kernel
  have hx1 : (onTheHeap (Value.ref 31) && Value.builtin "BaseException.__getattribute__" == Value.builtin "object.__getattribute__") = false := by rw [hx2]; rfl
  repeat (any_goals (first | assumption | (with_reducible refine wpAny_loadPart_at hx ?_) | (with_reducible refine wpAny_typeLookup_exc hC hN F.store_Exception.mro F.attrBase_Exception.ga.lookup ?_; rw [hga]) | (with_reducible refine wpAny_typeLookup_exc hC hN F.store_Exception.mro F.attrBase_Exception.noGetattr ?_; rw [hgt]) | wp_step))
  refine sym_call hC hN hna hB hx hD hv ?_
  show wpAny _ _ (handedOut v) _ _ _
  rw [hh]
  exact wpAny_pure hq
theorem sym_attr {expr : Bool} {Q : Value → Shared → Prop} (hC : h.get? 31 = some cls31) (hN : h.Ns 30 mN) (hga : mN "__getattribute__" = none) (hgt : mN "__getattr__" = none) (hna : mN name = none) (hB : typeLookup (.type "Exception") name = pure none)
    (hx : h.get? a = some (sig (some D) vs)) (hD : h.Ns D mA) (hv : mA name = some v) (hh : handedOut v = pure v) (hq : Q v ⟨h, g, d, t + 1, os⟩) :
    wpAny (model prog w) A (getAttr (.ref a) name expr) Q E ⟨h, g, d, t, os⟩ := by
  unfold getAttr
  repeat (any_goals (first | assumption | with_reducible apply sym_by hC hN hga hgt hna hB hx hD hv hh | wp_step))
theorem k30gt (p : Params) : nsIn (hd.heap_39 p) 30 "__getattr__" = some none := by kernel_rfl
end
section
variable {prog : Program} {w : World} {A : Around} {E : Value → Shared → Prop} {s : Shared} {h₀ : Heap} {L e D : Addr} {m mA : Str → Option Value} {news : Led} {name : Str} {v : Value} {vs : Array Value} {oD : Obj} {expr : Bool} {Q : Value → Shared → Prop}
/-- an attribute of a signal -/
theorem sig_get (F₀ : Fr h₀ L s.heap m) (X : (hd.heap_39 w.params).In h₀) (N : News h₀ L s.heap news) (hm : (e, sig (some D) vs) ∈ news) (hmD : (D, oD) ∈ news) (hu : NsU oD mA) (ha : nsIn (hd.heap_39 w.params) 30 name = some none) (hB : typeLookup (.type "Exception") name = pure none)
    (hv : mA name = some v) (hh : handedOut v = pure v) (h : Q v { s with toks := s.toks + 1 }) : wpAny (model prog w) A (getAttr (.ref e) name expr) Q E s := by
  have X' := X.keeps F₀.keep
  obtain ⟨hp, gg, d, tk, os⟩ := s
  exact sym_attr (X' _ _ (k31 _)) (.of_isNs (isNs_of_in X' (k30ok _))) (nsMap_none_of_in X' (k30ok _) (k30get _)) (nsMap_none_of_in X' (k30ok _) (k30gt _)) (nsMap_none_of_in X' (k30ok _) ha) hB (N _ hm).1 (hu.ns1 (N _ hmD).1).ns hv hh h
end
end
section
abbrev fresh6 (t : Addr) : Array Value := #[.ref t, .none, .none, .none, .bool false, .none]
theorem k30init (p : Params) : nsIn (hd.heap_39 p) 30 "__init__" = some (some (.ref 28)) := by kernel_rfl
theorem k28 (p : Params) : ((hd.heap_39 p).lookup 28).map (·.cls) = some (.type "function") := by kernel_rfl
theorem ns_some_of {K : Frag} {h : Heap} {N : Addr} {mg : Str → Option Value} {n : Str} {v : Value} (X : K.In h) (G : h.Ns N mg) (e : nsIn K N n = some (some v)) : mg n = some v := by
  obtain ⟨o, es, ep, ho, hd, _, hf⟩ := G
  unfold nsIn at e
  split at e
  · rename_i q
    have := X _ _ q
    rw [ho] at this
    cases this
    cases hd
    split at e
    · rename_i he
      cases e
      rw [← hf]
      unfold nsFind findBy
      rw [← Array.find?_toList, he]
      rfl
    · split at e <;> cases e
  · cases e
section
variable {prog : Program} {w : World} {A : Around} {E : Value → Shared → Prop} {s : Shared} {h₀ : Heap} {L : Addr} {m : Str → Option Value} {news : Led} {env : Env}
/-- what a raise wants of the value called -/
noncomputable def SigDone (E : Value → Shared → Prop) (v : Value) (s₃ : Shared) : Prop :=
  ∃ e t D, v = .ref e ∧ s₃.heap.get? 31 = some cls31 ∧ s₃.heap.get? e = some (sig (some D) (fresh6 t)) ∧ E (.ref e) s₃
theorem sigDone {e t D : Addr} (F₀ : Fr h₀ L s.heap m) (X : (hd.heap_39 w.params).In h₀) (N : News h₀ L s.heap news) (hm : (e, sig (some D) (fresh6 t)) ∈ news) (h : E (.ref e) s) : SigDone E (.ref e) s :=
  ⟨e, t, D, rfl, (X.keeps F₀.keep) _ _ (k31 _), (N _ hm).1, h⟩
noncomputable def SigCall (prog : Program) (w : World) (A : Around) (E : Value → Shared → Prop) (a : Args) (s₂ : Shared) : Prop := a.kw = [] ∧ s₂.heap.get? 31 = some cls31 ∧ wpAny (model prog w) A (call (.ref 31) a.pos) (SigDone E) E s₂
theorem sigCall {vs : List Value} (F₀ : Fr h₀ L s.heap m) (X : (hd.heap_39 w.params).In h₀) (h : wpAny (model prog w) A (call (.ref 31) vs) (SigDone E) E s) : SigCall prog w A E { pos := vs } s := ⟨rfl, (X.keeps F₀.keep) _ _ (k31 _), h⟩
theorem raise_sig {x : Sem Value} {Q : Flow → Shared → Prop} (hh : A.handled = none) (h : wpAny (model prog w) A x (SigDone E) E s) : wpAny (model prog w) A (raiseStmt env (some x) none) Q E s := by
  have hcB : (Value.ref 31 :: bmE).contains (.type "BaseException") = true := by decide
  unfold raiseStmt
  refine wpAny_bind (wpAny_mono h (fun v s₁ h₁ => ?_) fun _ _ x => x)
  obtain ⟨e, t, D, rfl, hC, he, hE⟩ := h₁
  obtain ⟨hp, g, d, tk, os⟩ := s₁
  repeat (first | with_reducible refine wpAny_loadPart_at he ?_ | with_reducible refine wpAny_loadPart_at hC ?_ | (with_reducible refine wpAny_isSubtype_exc hC ?_; rw [hcB]) | wp_step)
  exact wpAny_raiseNew_none hh hE
theorem Raise_sig {np cpos pos : Pos} {x : Str} {args : List Expr} {Q : Flow → Shared → Prop} (hh : A.handled = none) (hplain : (backTo cpos (starEach args env)).any (·.1) = false)
    (h : wpAny (model prog w) A (eval (.Name x np) env) (fun f s₁ => f = .ref 31 ∧ wpAny (model prog w) A (evalArgs (.ref 31) true (backTo cpos (starEach args env)) [])
      (SigCall prog w A E) E s₁) E s) :
    wpAny (model prog w) A (exec (.Raise (some (.Call (.Name x np) args [] cpos)) none pos) env) Q E s := by
  rw [arm_exec_Raise]
  simp only [evalOpt, Option.map]
  refine wpAny_bind (wpAny_standAt (raise_sig hh (wpAny_bind (wpAny_mono (wpAny_Call_ofName (wpAny_mono h (fun f s₁ h₁ => ?_) fun _ _ x => x)) (fun v s₃ h₃ => wpAny_bind (wpAny_standAt (wpAny_pure h₃))) fun _ _ x => x))))
  obtain ⟨rfl, h₁⟩ := h₁
  unfold callWith
  refine wpAny_bind (wpAny_holding (wpAny_mono h₁ (fun a s₂ h₂ => wpAny_bind (wpAny_standAt ?_)) fun _ _ x => x))
  obtain ⟨apos, akw⟩ := a
  obtain ⟨hkw, hC, h₂⟩ := h₂
  obtain rfl : akw = [] := hkw
  obtain ⟨hp, g, d, tk, os⟩ := s₂
  simp only [hplain]
  refine wpAny_bind (wpAny_keeperOf_exc hC ?_)
  refine wpAny_bind (wpAny_mono h₂ (fun v s₃ h₃ => wpAny_bind (wpAny_holding (wpAny_point (wpAny_pure h₃)))) fun _ _ x => x)
/-- the call of LispSignal: the record is made, then its __init__ runs -/
theorem sig_make {args : List Value} {Q : Value → Shared → Prop} (F₀ : Fr h₀ L s.heap m) (X : (hd.heap_39 w.params).In h₀) (N : News h₀ L s.heap news) (hsz : args.length ≤ 100)
    (h : ∀ e t h', Fr h₀ L h' m → News h₀ L h' ((e, sig none (fresh6 t)) :: news) → LCg.Off1 e news →
      wpAny (model prog w) (A.under (.builtin "type.__call__" ⟨.ref 31 :: args, []⟩)) (call (.ref 28) (.ref e :: args)) (fun r s' => r = .none ∧ Q (.ref e) s') E { s with heap := h' }) :
    wpAny (model prog w) A (call (.ref 31) args) Q E s := by
  have X' := X.keeps F₀.keep
  have hi : s.heap.nsMap 30 "__init__" = some (.ref 28) := ns_some_of X' (.of_isNs (isNs_of_in X' (k30ok _))) (k30init _)
  obtain ⟨oI, ho, hc⟩ := Option.map_eq_some_iff.mp (k28 w.params)
  obtain ⟨hp, g, d, tk, os⟩ := s
  refine wpAny_call_exc_init F.excBase_Exception (X' _ _ (k31 _)) (.of_isNs (isNs_of_in X' (k30ok _))) hi (X' _ _ ho) hc (fun h' e hm => ?_) (Nat.le_trans hsz (by rw [PySem.sizeLine_eq]; decide))
  obtain ⟨t, he, _, _⟩ := hm.there
  have F' := F₀.keeps hm.keeps
  have he0 : h₀.get? e = none := by
    cases q : h₀.get? e with
    | none => rfl
    | some o => have := F₀.keep _ _ q; rw [hm.new] at this; cases this
  refine h e t h' F' (News.more F' (fun p hp' => ⟨hm.keeps _ _ (N p hp').1, (N p hp').2⟩) he (fun es n q => by cases q) he0) (off1_of fun p hp' q => ?_)
  have := (N p hp').1
  rw [q, hm.new] at this
  cases this
end
section
variable {prog : Program} {w : World} {A : Around} {E : Value → Shared → Prop} {s : Shared} {h₀ : Heap} {L e D t : Addr} {m : Str → Option Value} {r : Led} {name n1 : Str} {v v1 : Value} {vs : Array Value} {oD : Obj} {Q : Unit → Shared → Prop}
theorem set1h (F₀ : Fr h₀ L s.heap m) (X : (hd.heap_39 w.params).In h₀) (N : News h₀ L s.heap ((e, sig none vs) :: r)) (ho : ∀ p ∈ r, p.1 ≠ e) (ha : nsIn (hd.heap_39 w.params) 30 name = some none) (hB : typeLookup (.type "Exception") name = pure none)
    (h : ∀ D oD h' tk', (∀ p ∈ (e, sig (some D) vs) :: r, p.1 ≠ D) → NsU oD (fun y => if y = name then some v else none) → Fr h₀ L h' m → News h₀ L h' ((D, oD) :: (e, sig (some D) vs) :: r) → Q () { s with heap := h', toks := tk' }) :
    wpAny (model prog w) A (setAttr (.ref e) name v) Q E s :=
  sig_set1 F₀ X N (.head ho) ha hB fun D oD h' tk' l hu F' N' => h D oD h' tk' (fun p hp => by
    rcases List.mem_cons.mp hp with rfl | hp
    · exact Nat.ne_of_lt (l (e, sig none vs) (.head _))
    · exact Nat.ne_of_lt (l p (.tail _ hp))) hu F' N'
theorem set2h (F₀ : Fr h₀ L s.heap m) (X : (hd.heap_39 w.params).In h₀) (N : News h₀ L s.heap ((D, oD) :: (e, sig (some D) vs) :: r)) (ho : ∀ p ∈ (e, sig (some D) vs) :: r, p.1 ≠ D) (hu : NsU oD (fun y => if y = n1 then some v1 else none)) (ha : nsIn (hd.heap_39 w.params) 30 name = some none) (hB : typeLookup (.type "Exception") name = pure none)
    (h : ∀ oD' h' tk', NsU oD' (fun y => if y = name then some v else if y = n1 then some v1 else none) → Fr h₀ L h' m → News h₀ L h' ((D, oD') :: (e, sig (some D) vs) :: r) → Q () { s with heap := h', toks := tk' }) :
    wpAny (model prog w) A (setAttr (.ref e) name v) Q E s :=
  sig_set2 F₀ X N (.tail _ (.head _)) (.head ho) hu ha hB (Ne.symm (ho _ (.head _))) (Within.cons n1 v1 Within.nil) (by simp) h
end
section
variable {M : Model} {A : Around} {E : Value → Shared → Prop} {s' : Shared} {base g : Heap} {outer : List Env} {L a e t D : Addr} {m : Str → Option Value} {name : Str} {scope : Scope} {cd : Value} {Q : Unit → Shared → Prop} {news r : Led} {oD : Obj}
theorem leave_sig (K : Below A base outer g) (F : Fr g L s'.heap m) (N : News g L s'.heap ((D, oD) :: (e, sig (some D) (fresh6 t)) :: r)) (ho : ∀ p ∈ r, p.1 ≠ e) (hD : ∀ p ∈ (e, sig (some D) (fresh6 t)) :: r, p.1 ≠ D) (hs : ∀ q ∈ news, q ∈ r)
    (hQ : ∀ h', RaisedD base outer e (sig (some D) (fresh6 t)) ((D, oD) :: news) h' → g.UpToSlots h' → Q () { s' with heap := h' }) (hk : scope.kind = .function := by rfl) :
    wpAny M (A.deeper (envOf name scope L a cd)) (leaving (envOf name scope L a cd) (.ref e)) Q E s' := by
  refine leave_raiseD (oe := sig (some D) (fresh6 t)) (vs := fresh6 t) (news := (D, oD) :: news) K F (fun p hp => ?_) (fun q hq => ?_) rfl hQ hk
  · rcases List.mem_cons.mp hp with rfl | hp
    · exact N _ (.tail _ (.head _))
    rcases List.mem_cons.mp hp with rfl | hp
    · exact N _ (.head _)
    · exact N _ (.tail _ (.tail _ (hs p hp)))
  · rcases List.mem_cons.mp hq with rfl | hq
    · exact fun q => hD (e, sig (some D) (fresh6 t)) (.head _) q.symm
    · exact ho q (hs q hq)
end
/-- a def's contract where it raises a signal: the symbol is args-out-of-range -/
noncomputable def ConR (w : World) (loose : List Str) (mean : ExcName → Option Value) (mg mb : Str → Option Value) (f : Addr) (n u : Nat) (vs : List Value) (news : Led) : Prop :=
  ∀ (dp un : Nat) (gd : Option (List Code)) (cn : Str) (cs : Scope) (a : Addr) (ccd : Value) (cl : List (Str × Addr)) (outer : List Env) (A₀ : Around) (base h₀ : Heap) (L : Addr) (m : Str → Option Value) (s : Shared) (Q E : Value → Shared → Prop),
    Below A₀ base outer h₀ → Fr h₀ L s.heap m → (hd.heap_39 w.params).In h₀ → News h₀ L s.heap news → Top hd.view_39 loose mean mg mb h₀ → cs.kind = .function → dp + n < recursionLimit → un + u < cLine →
    (∀ g e D t oD mA tok h' tk', Fr h₀ L g m → g.UpToSlots h' → RaisedD base (envX cn cs L a ccd cl :: outer) e (sig (some D) (fresh6 t)) ((D, oD) :: news) h' → NsU oD mA → mA (Str.ofString "symbol") = some (.str (Str.ofString "args-out-of-range") tok) → E (.ref e) { s with heap := h', toks := tk' }) →
    wpAny (model PySem.Challenge.rw_np0039_01.row.prog w) (ktrTop dp un gd cn cs L a ccd cl outer) (call (.ref f) vs) Q E s
section
variable {w : World} {loose : List Str} {mean : ExcName → Option Value} {mg mb : Str → Option Value}
theorem conr_use {f : Addr} {n u : Nat} {vs : List Value} {news : Led}
    {dp un : Nat} {gd : Option (List Code)} {cn : Str} {cs : Scope} {a : Addr} {ccd : Value} {cl : List (Str × Addr)} {outer : List Env} {A₀ : Around} {base h₀ : Heap} {L : Addr} {m : Str → Option Value} {s : Shared} {Q E : Value → Shared → Prop}
    (N : News h₀ L s.heap news) (B : Below A₀ base outer h₀) (F : Fr h₀ L s.heap m) (X : (hd.heap_39 w.params).In h₀) (T : Top hd.view_39 loose mean mg mb h₀) (hk : cs.kind = .function) (C : ConR w loose mean mg mb f n u vs news) (hd : dp + n < recursionLimit) (hu : un + u < cLine)
    (h : ∀ g e D t oD mA tok h' tk', Fr h₀ L g m → g.UpToSlots h' → RaisedD base (envX cn cs L a ccd cl :: outer) e (sig (some D) (fresh6 t)) ((D, oD) :: news) h' → NsU oD mA → mA (Str.ofString "symbol") = some (.str (Str.ofString "args-out-of-range") tok) → E (.ref e) { s with heap := h', toks := tk' }) :
    wpAny (model PySem.Challenge.rw_np0039_01.row.prog w) (ktrTop dp un gd cn cs L a ccd cl outer) (call (.ref f) vs) Q E s :=
  C dp un gd cn cs a ccd cl outer A₀ base h₀ L m s Q E B F X N T hk hd hu h
end
theorem evalArgs_sp {M : Model} {A : Around} {E : Value → Shared → Prop} {s : Shared} {env : Env} {f : Value} {cpos : Pos} {e₀ : Expr} {rest : List Expr} {Q : Args → Shared → Prop} (he : starEach (e₀ :: rest) env = (false, eval e₀ env) :: starEach rest env)
    (h : wpAny M A (spliced (backTo cpos (starEach (e₀ :: rest) env))) (fun vs s' => Q { pos := vs } s') E s) : wpAny M A (evalArgs f true (backTo cpos (starEach (e₀ :: rest) env)) []) Q E s := by
  rw [he] at h ⊢
  exact Calls.evalArgs_plain h
theorem raisedD_sub {base : Heap} {l : List Env} {e : Addr} {oe : Obj} {news news' : Led} {h : Heap} (R : RaisedD base l e oe news h) (hs : ∀ q ∈ news', q ∈ news) : RaisedD base l e oe news' h :=
  let ⟨B, a, b, r⟩ := R; ⟨B, a, fun q hq => b q (hs q hq), r⟩
end
section
noncomputable def JList (h₀ : Heap) (L : Addr) (m : Str → Option Value) (s : Shared) (dk o : Addr) (vo : List Value) (no : Nat) (keep : Led) (v : Value) (s' : Shared) : Prop :=
  ∃ (D : Addr) (vs : List Value) (ns : List Int) (n : Nat) (vd : List Value) (nd : List Int) (kd : Nat) (h' : Heap) (tk : Nat), v = .ref D ∧ s' = { s with heap := h', toks := tk } ∧ Fr h₀ L h' m ∧
    News h₀ L h' ((D, listOf vs.toArray n) :: (dk, listOf vd.toArray kd) :: (o, listOf vo.toArray no) :: keep) ∧ IntsAre vs ns ∧ ns.length ≤ 6 ∧ (∀ x ∈ ns, x ∈ [(97 : Int), 98, 65]) ∧ IntsAre vd nd ∧ (∀ x ∈ nd, 0 ≤ x) ∧ nd.length ≤ 100 ∧ @Ne Nat D dk
section
variable {prog : Program} {w : World} {A : Around} {E : Value → Shared → Prop} {s : Shared} {h₀ : Heap} {L : Addr} {m : Str → Option Value} {news : Led} {t : Sem Value} {Q : Value → Shared → Prop} {dk o : Addr} {vo : List Value} {no : Nat}
theorem joinList (keep : Led) (_F : Fr h₀ L s.heap m) (_N : News h₀ L s.heap news) (_h1 : m (Str.ofString "deck") = some (.ref dk)) (_h2 : m (Str.ofString "other") = some (.ref o)) (_hm : (o, listOf vo.toArray no) ∈ news)
    (h : wpAny (model prog w) A t (JList h₀ L m s dk o vo no keep) E s)
    (k : ∀ D vs ns n vd nd kd h' tk, Fr h₀ L h' m → News h₀ L h' ((D, listOf vs.toArray n) :: (dk, listOf vd.toArray kd) :: (o, listOf vo.toArray no) :: keep) → IntsAre vs ns → ns.length ≤ 6 → (∀ x ∈ ns, x ∈ [(97 : Int), 98, 65]) →
      IntsAre vd nd → (∀ x ∈ nd, 0 ≤ x) → nd.length ≤ 100 → @Ne Nat D dk → Q (.ref D) { s with heap := h', toks := tk }) : wpAny (model prog w) A t Q E s :=
  wpAny_mono h (fun v s' q => by
    obtain ⟨D, vs, ns, n, vd, nd, kd, h', tk, e1, e2, F, N, a, b, c, d, e, f, g⟩ := q
    subst e1 e2; exact k D vs ns n vd nd kd h' tk F N a b c d e f g) fun _ _ e => e
theorem joinList2 {p : Addr} {vp : List Value} {np : Nat} (F : Fr h₀ L s.heap m) (N : News h₀ L s.heap news) (h1 : m (Str.ofString "deck") = some (.ref dk)) (h2 : m (Str.ofString "other") = some (.ref o)) (hm : (o, listOf vo.toArray no) ∈ news) (_h3 : m (Str.ofString "one") = some (.ref p)) (_h4 : (p, listOf vp.toArray np) ∈ news)
    (h : wpAny (model prog w) A t (JList h₀ L m s dk o vo no [(p, listOf vp.toArray np)]) E s)
    (k : ∀ D vs ns n vd nd kd h' tk, Fr h₀ L h' m → News h₀ L h' ((D, listOf vs.toArray n) :: (dk, listOf vd.toArray kd) :: (o, listOf vo.toArray no) :: [(p, listOf vp.toArray np)]) → IntsAre vs ns → ns.length ≤ 6 → (∀ x ∈ ns, x ∈ [(97 : Int), 98, 65]) →
      IntsAre vd nd → (∀ x ∈ nd, 0 ≤ x) → nd.length ≤ 100 → @Ne Nat D dk → Q (.ref D) { s with heap := h', toks := tk }) : wpAny (model prog w) A t Q E s := joinList _ F N h1 h2 hm h k
theorem jList {keep : Led} {D : Addr} {vs : List Value} {ns : List Int} {n : Nat} {vd : List Value} {nd : List Int} {kd : Nat} {h' : Heap} {tk : Nat} {news' : Led} (F : Fr h₀ L h' m) (N : News h₀ L h' news') (m1 : (D, listOf vs.toArray n) ∈ news') (m2 : (dk, listOf vd.toArray kd) ∈ news') (m3 : (o, listOf vo.toArray no) ∈ news') (m4 : ∀ p ∈ keep, p ∈ news')
    (a : IntsAre vs ns) (b : ns.length ≤ 6) (c : ∀ x ∈ ns, x ∈ [(97 : Int), 98, 65]) (d : IntsAre vd nd) (e : ∀ x ∈ nd, 0 ≤ x) (f : nd.length ≤ 100) (g : @Ne Nat D dk) : JList h₀ L m s dk o vo no keep (.ref D) { s with heap := h', toks := tk } := by
  refine ⟨D, vs, ns, n, vd, nd, kd, h', tk, rfl, rfl, F, fun p hp => ?_, a, b, c, d, e, f, g⟩
  rcases List.mem_cons.mp hp with rfl | hp
  · exact N _ m1
  rcases List.mem_cons.mp hp with rfl | hp
  · exact N _ m2
  rcases List.mem_cons.mp hp with rfl | hp
  · exact N _ m3
  · exact N _ (m4 p hp)
theorem eq_bools_no {a b : Addr} {xs ys : Array Value} {n n' : Nat} (bs cs : List Bool) (N : News h₀ L s.heap news) (h1 : (a, listOf xs n) ∈ news) (h2 : (b, listOf ys n') ∈ news) (e1 : xs.toList = bs.map Value.bool) (e2 : ys.toList = cs.map Value.bool) (hu : A.units + 64 < cLine) (he : bs ≠ cs)
    (h : Q (.bool false) s) : wpAny (model prog w) A (compareOp .Eq (.ref a) (.ref b)) Q E s :=
  eq_bools bs cs N h1 h2 e1 e2 hu (by rw [decide_eq_false he]; exact h)
end
theorem two {a b a' b' : Bool} (h1 : a = a') (h2 : b = b') : [a, b] = [a', b'] := by rw [h1, h2]
theorem two_no {p q : List Part} : [ahead p q, ahead q p] ≠ [true, true] := fun h => ahead_anti p q ⟨(List.cons.inj h).1, (List.cons.inj (List.cons.inj h).2).1⟩
theorem mem_snocP {ks : List Int} {x : Int} (h : ∀ y ∈ ks, 0 ≤ y) (hx : 0 ≤ x) : ∀ y ∈ ks ++ [x], 0 ≤ y := fun y hy => (List.mem_append.mp hy).elim (h y) fun q => by rw [List.mem_singleton.mp q]; exact hx
theorem deck_mod (x : Int) : 0 ≤ x.fmod 1000000000000000000000000000000 := Int.fmod_nonneg_of_pos _ (by decide)
theorem lt192 {x : Int} (h : x ∈ [(97 : Int), 98, 65]) : x < 192 := by
  simp only [List.mem_cons, List.not_mem_nil, or_false] at h
  omega
theorem lt_i {l : List Int} (h : ∀ x ∈ l, x ∈ [(97 : Int), 98, 65]) : ∀ x ∈ l, x < 192 := fun x hx => lt192 (h x hx)
theorem lt_t {l : List Int} {k : Nat} (h : ∀ x ∈ l, x ∈ [(97 : Int), 98, 65]) : ∀ x ∈ l.take k, x < 192 := fun x hx => lt192 (h x (List.mem_of_mem_take hx))
theorem parts_le : ∀ (n : Nat) (l : List Int), l.length ≤ n → (parts l).length ≤ l.length
  | _, [], _ => by rw [parts_nil]; exact Nat.le_refl _
  | 0, _ :: _, h => absurd h (by simp)
  | n + 1, c :: l, h => by
    cases hf : fig c with
    | true =>
      rw [parts_fig hf]
      have hp := run_pos (l := l) hf
      have h2 := parts_le n ((c :: l).drop (run (c :: l))) (by rw [List.length_drop, List.length_cons] at *; omega)
      rw [List.length_drop] at h2
      simp only [List.length_cons] at *
      omega
    | false =>
      rw [parts_not hf]
      have h2 := parts_le n l (by simp only [List.length_cons] at h; omega)
      simp only [List.length_cons]
      omega
end
local macro_rules | `(tactic| walk_at "mu") => `(tactic| first | exact tn_down (by assumption) (by assumption) | exact tn_down2 (by assumption) (by assumption) (by assumption) | omega)
local macro_rules | `(tactic| walk_at "omg") => `(tactic| first | (with_reducible assumption) | exact le_take_drop (by assumption) | exact le_drop (by assumption) | exact le_take (by assumption) | exact lev_dl (by assumption) (by assumption) | exact lev_dr (by assumption) (by assumption) | exact lev_db (by assumption) (by assumption) | exact le_num (by assumption) (by rfl) | exact le_via (by assumption) (by assumption) (by rfl) | exact le_drop (le_num (by assumption) (by rfl)) | exact le_drop (le_via (by assumption) (by assumption) (by rfl)) | exact le_take (le_num (by assumption) (by rfl)) | exact le_take (le_via (by assumption) (by assumption) (by rfl)) | exact le_take_drop (le_num (by assumption) (by rfl)) | exact sub_le_via (by assumption) (by assumption) (by rfl) | exact int_pos_succ _ | omega)
local macro_rules | `(tactic| k_all) => `(tactic| assumption)
local macro_rules | `(tactic| walk_at "compareOp NotEq ref ref") => `(tactic| (k_here; (with_reducible show wpAny _ _ (compareOp CmpOp.NotEq (Value.ref _) (Value.ref _)) _ _ _); k_dflt (refine' ne_nilK ?k1 ?k2 ?k3 ?k4 ?k5 ?_; (case k1 => k_asm); (case k4 => k_mem); (case k2 => k_mem); (case k3 => with_reducible assumption); (case k5 => units_room); k_whole)))
local macro_rules | `(tactic| walk_at "compareOp Eq ref ref") => `(tactic| (k_here; (with_reducible show wpAny _ _ (compareOp CmpOp.Eq (Value.ref _) (Value.ref _)) _ _ _); k_dflt (refine' eq_nilK ?k1 ?k2 ?k3 ?k4 ?k5 ?_; (case k1 => k_asm); (case k4 => k_mem); (case k2 => k_mem); (case k3 => with_reducible assumption); (case k5 => units_room); k_whole)))
local macro_rules | `(tactic| walk_at "call builtin:list.pop") => `(tactic| (k_here; (with_reducible show wpAny _ _ (call (Value.builtin _) [Value.ref _, Value.int _ _]) _ _ _); k_dflt (refine' pop0K ?F ?N ?U ?i ?l ?z ?_; (case F => k_asm); (case N => k_asm); (case U => k_upd); (case i => with_reducible assumption); (case l => walk_at "omg"); (case z => walk_at "omg"); k_whole); intro h' t' F' N' hI'; (try k_sweep)))
local macro_rules | `(tactic| walk_at "WPost") => `(tactic| (dsimp only [WPost]))
local macro_rules | `(tactic| walk_at "FPost") => `(tactic| (dsimp only [FPost]))
local macro_rules | `(tactic| walk_at "compareOp Is int ref") => `(tactic| (k_here; refine is_int_ref ?_))
local macro_rules | `(tactic| walk_at "compareOp IsNot int ref") => `(tactic| (k_here; refine isNot_int_ref ?_))
local macro_rules | `(tactic| walk_at "compareOp Lt ref ref") => `(tactic| (k_here; (with_reducible show wpAny _ _ (compareOp CmpOp.Lt (Value.ref _) (Value.ref _)) _ _ _); k_dflt (refine' lt_ints ?k1 ?k2 ?k3 ?k4 ?k5 ?k6 ?_; (case k1 => k_asm); (case k2 => k_mem); (case k3 => with_reducible assumption); (case k4 => k_mem); (case k5 => with_reducible assumption); (case k6 => units_room); k_whole)))
local macro_rules | `(tactic| walk_at "compareOp Gt ref ref") => `(tactic| (k_here; (with_reducible show wpAny _ _ (compareOp CmpOp.Gt (Value.ref _) (Value.ref _)) _ _ _); k_dflt (refine' gt_ints ?k1 ?k2 ?k3 ?k4 ?k5 ?k6 ?_; (case k1 => k_asm); (case k2 => k_mem); (case k3 => with_reducible assumption); (case k4 => k_mem); (case k5 => with_reducible assumption); (case k6 => units_room); k_whole)))
local macro_rules | `(tactic| walk_at "eval Name") => `(tactic| (k_here; k_dflt (refine' ld ?k1 ?k2 ?_; (case k1 => k_asm); (case k2 => exact rfl); k_whole)))
local macro_rules | `(tactic| walk_at "testChain") => `(tactic| (plain_pass; with_unfolding_all refine test_link ?_))
local macro_rules | `(tactic| walk_at "call ref") => `(tactic| (k_here; refine wpAny_call ?_; k_dflt cell_enter))
local macro_rules | `(tactic| walk_at "call builtin:len") => `(tactic| (k_here; (with_reducible show wpAny _ _ (call (Value.builtin "len") [Value.ref _]) _ _ _); k_dflt (refine' len_w ?k1 ?k2 ?k3 ?k4 ?_; (case k1 => k_asm); (case k2 => k_mem); (case k3 => rfl); (case k4 => decide); k_whole)))
local macro_rules | `(tactic| walk_at "call builtin:len") => `(tactic| (k_here; (with_reducible show wpAny _ _ (call (Value.builtin "len") [Value.ref _]) _ _ _); k_dflt (refine' len_i ?k1 ?k2 ?k3 ?k4 ?_; (case k1 => k_asm); (case k2 => k_mem); (case k3 => with_reducible assumption); (case k4 => walk_at "omg"); k_whole)))
local macro_rules | `(tactic| walk_at "compareOp IsNot ref ref") => `(tactic| (k_here; (with_reducible show wpAny _ _ (compareOp _ (tn _) (Value.ref 57)) _ _ _); k_dflt (refine' isNot_tn ?k1 ?_; (case k1 => k_in))))
local macro_rules | `(tactic| walk_at "compareOp Is ref ref") => `(tactic| (k_here; (with_reducible show wpAny _ _ (compareOp _ (tn _) (Value.ref 60)) _ _ _); k_dflt (refine' is_tn60 ?k1 ?_; (case k1 => k_in))))
local macro_rules | `(tactic| walk_at "own slice") => `(tactic| (k_here; (with_reducible show wpAny _ _ (subscriptTail _ (PySem.Expr.Slice _ _ none _) (Value.ref _) (Value.ref _)) _ _ _); k_dflt (refine' sl_neg ?F ?N ?m ?i ?h0 ?z ?_ ?s ?t; (case F => k_asm); (case N => k_asm); (case m => k_mem); (case i => with_reducible assumption); (case h0 => walk_at "omg"); (case z => walk_at "omg"); (case s => with_unfolding_all rfl); (case t => kmk_pure); k_whole); intro D' ws' h' F' N' l1 hI' hL'; (try k_lt l1); (try k_sweep)))
local macro_rules | `(tactic| walk_at "own slice") => `(tactic| (k_here; (with_reducible show wpAny _ _ (subscriptTail _ (PySem.Expr.Slice _ _ none _) (Value.ref _) (Value.ref _)) _ _ _); k_dflt (refine' sl_run ?F ?N ?m ?i ?h0 ?h1 ?z ?_ ?s ?t; (case F => k_asm); (case N => k_asm); (case m => k_mem); (case i => with_reducible assumption); (case h0 => walk_at "omg"); (case h1 => walk_at "omg"); (case z => walk_at "omg"); (case s => with_unfolding_all rfl); (case t => kmk_pure); k_whole); intro D' ws' h' F' N' l1 hI' hL'; (try k_lt l1); (try k_sweep)))
local macro_rules | `(tactic| walk_at "own slice") => `(tactic| (k_here; (with_reducible show wpAny _ _ (subscriptTail _ (PySem.Expr.Slice _ _ none _) (Value.ref _) (Value.ref _)) _ _ _); k_dflt (refine' sl_from ?F ?N ?m ?i ?h0 ?z ?_ ?s ?t; (case F => k_asm); (case N => k_asm); (case m => k_mem); (case i => with_reducible assumption); (case h0 => walk_at "omg"); (case z => walk_at "omg"); (case s => with_unfolding_all rfl); (case t => kmk_pure); k_whole); intro D' ws' h' F' N' l1 hI' hL'; (try k_lt l1); (try k_sweep)))
local macro_rules | `(tactic| walk_at "own slice") => `(tactic| (k_here; (with_reducible show wpAny _ _ (subscriptTail _ (PySem.Expr.Slice _ _ none _) (Value.ref _) (Value.ref _)) _ _ _); k_dflt (refine' sl_upto ?F ?N ?m ?i ?h0 ?z ?_ ?s ?t; (case F => k_asm); (case N => k_asm); (case m => k_mem); (case i => with_reducible assumption); (case h0 => walk_at "omg"); (case z => walk_at "omg"); (case s => with_unfolding_all rfl); (case t => kmk_pure); k_whole); intro D' ws' h' F' N' l1 hI' hL'; (try k_lt l1); (try k_sweep)))
local macro_rules | `(tactic| walk_at "own item") => `(tactic| (k_here; (with_reducible show wpAny _ _ (subscriptTail _ _ (Value.ref _) (Value.int _ _)) _ _ _); k_dflt (refine' ksa_sub ?k1 ?k2 ?k3 ?k4 ?k5 ?k6 ?_ ?k7; (case k1 => k_asm); (case k2 => k_mem); (case k3 => with_reducible assumption); (case k4 => walk_at "omg"); (case k5 => walk_at "omg"); (case k6 => walk_at "omg"); (case k7 => with_unfolding_all rfl); k_whole); intro _))
local macro_rules | `(tactic| walk_at "own item") => `(tactic| (k_here; (with_reducible show wpAny _ _ (subscriptTail _ _ (Value.ref _) (Value.int _ _)) _ _ _); k_dflt (refine' sub_w ?k1 ?k2 ?k3 ?k4 ?k5 ?_ ?k7; (case k1 => k_asm); (case k2 => k_mem); (case k3 => decide); (case k4 => decide); (case k5 => rfl); (case k7 => with_unfolding_all rfl); k_whole)))
local macro_rules | `(tactic| walk_at "subscriptTail") => `(tactic| walk_at "own slice")
local macro_rules | `(tactic| walk_at "subscriptTail Name Slice ref ref") => `(tactic| walk_at "own slice")
local macro_rules | `(tactic| walk_at "subscriptTail Attribute Name Slice ref ref") => `(tactic| walk_at "own slice")
local macro_rules | `(tactic| walk_at "subscriptTail") => `(tactic| walk_at "own item")
local macro_rules | `(tactic| walk_at "subscriptTail Name Constant ref int") => `(tactic| walk_at "own item")
local macro_rules | `(tactic| walk_at "subscriptTail Name Name ref int") => `(tactic| walk_at "own item")
local macro_rules | `(tactic| walk_at "subscriptTail Attribute Name ref int") => `(tactic| walk_at "own item")
local macro_rules | `(tactic| k_qdec) => `(tactic| decide +kernel)
local macro_rules | `(tactic| ktr_room) => `(tactic| exact room0 rfl (by assumption))
local macro_rules | `(tactic| units_room) => `(tactic| first | exact units_ok 3 rfl (by assumption) (by rfl) | exact units_ok 0 rfl (by assumption) (by rfl))

local macro_rules | `(tactic| walk_at "eval Name") => `(tactic| (k_here; name_kind "globalImplicit"; name_is_builtin; (with_reducible show wpAny _ _ (eval (PySem.Expr.Name _ _) (envOf _ _ _ _ _)) _ _ _); (with_reducible rename Fr _ _ _ _ => kF); k_dflt (refine' name_B kF ?k1 ?k2 ?k3 ?k4 ?k5 ?_; (case k1 => k_asm); (case k2 => k_asm); (case k3 => k_is); (case k4 => boot_by_name); (case k5 => decide +kernel); k_whole)))
local macro_rules | `(tactic| walk_at "eval Name") => `(tactic| (k_here; name_kind "globalImplicit"; (fail_if_success name_is_builtin); (with_reducible show wpAny _ _ (eval (PySem.Expr.Name _ _) (envOf _ _ _ _ _)) _ _ _); (with_reducible rename Fr _ _ _ _ => kF); k_dflt (refine' name_K kF ?k1 ?k2 ?k3 ?_; (case k1 => k_asm); (case k2 => k_asm); (case k3 => k_is); k_whole)))
local macro_rules | `(tactic| walk_at "eval Name") => `(tactic| (k_here; name_kind "local"; (with_reducible show wpAny _ _ (eval (PySem.Expr.Name _ _) (envOf _ _ _ _ _)) _ _ _); k_dflt (refine' ld ?k1 ?k2 ?_; (case k1 => k_asm); (case k2 => exact rfl); k_whole)))
local macro_rules | `(tactic| walk_at "newList") => `(tactic| (k_here; k_dflt (refine' newList_K (hsz := Nat.le_of_ble_eq_true rfl) ?k1 ?k2 ?_; (case k1 => k_asm); (case k2 => k_asm); k_whole); intro l' h' F' N' l1; (try k_lt l1); (try k_sweep)))
local macro_rules | `(tactic| walk_at "CompSrc") => `(tactic| k_extra "own CompSrc")
local macro_rules | `(tactic| walk_at "EPost") => `(tactic| k_extra "own EPost")
local macro_rules | `(tactic| walk_at "PosN") => `(tactic| k_extra "own PosN")
local macro_rules | `(tactic| walk_at "RangeT") => `(tactic| k_extra "own RangeT")
local macro_rules | `(tactic| walk_at "SigCall") => `(tactic| k_extra "own SigCall")
local macro_rules | `(tactic| walk_at "SigDone") => `(tactic| k_extra "own SigDone")
local macro_rules | `(tactic| walk_at "TPostF") => `(tactic| k_extra "own TPostF")
local macro_rules | `(tactic| walk_at "binaryOp Add ref ref") => `(tactic| k_extra "own binaryOp Add ref ref")
local macro_rules | `(tactic| walk_at "binaryOp FloorDiv int int") => `(tactic| k_extra "own binaryOp FloorDiv int int")
local macro_rules | `(tactic| walk_at "call builtin:chr") => `(tactic| k_extra "own call builtin:chr")
local macro_rules | `(tactic| walk_at "call builtin:len") => `(tactic| k_extra "own call builtin:len")
local macro_rules | `(tactic| walk_at "call builtin:list.append") => `(tactic| k_extra "own call builtin:list.append")
local macro_rules | `(tactic| walk_at "call builtin:min") => `(tactic| k_extra "own call builtin:min")
local macro_rules | `(tactic| walk_at "call builtin:str.join") => `(tactic| k_extra "own call builtin:str.join")
local macro_rules | `(tactic| walk_at "call ref") => `(tactic| k_extra "own call ref")
local macro_rules | `(tactic| walk_at "call type:enumerate") => `(tactic| k_extra "own call type:enumerate")
local macro_rules | `(tactic| walk_at "call type:int") => `(tactic| k_extra "own call type:int")
local macro_rules | `(tactic| walk_at "call type:list") => `(tactic| k_extra "own call type:list")
local macro_rules | `(tactic| walk_at "call type:zip") => `(tactic| k_extra "own call type:zip")
local macro_rules | `(tactic| walk_at "compareOp Eq ref ref") => `(tactic| k_extra "own compareOp Eq ref ref")
local macro_rules | `(tactic| walk_at "compareOp Is") => `(tactic| k_extra "own compareOp Is")
local macro_rules | `(tactic| walk_at "compareOp IsNot") => `(tactic| k_extra "own compareOp IsNot")
local macro_rules | `(tactic| walk_at "compareOp NotEq ref ref") => `(tactic| k_extra "own compareOp NotEq ref ref")
local macro_rules | `(tactic| walk_at "eval BoolOp") => `(tactic| k_extra "own eval BoolOp")
local macro_rules | `(tactic| walk_at "eval IfExp") => `(tactic| k_extra "own eval IfExp")
local macro_rules | `(tactic| walk_at "eval ListComp") => `(tactic| k_extra "own eval ListComp")
local macro_rules | `(tactic| walk_at "eval Name") => `(tactic| k_extra "own eval Name")
local macro_rules | `(tactic| walk_at "evalArgs ref") => `(tactic| k_extra "own evalArgs ref")
local macro_rules | `(tactic| walk_at "exec For Name Call cons nil") => `(tactic| k_extra "own exec For Name Call cons nil")
local macro_rules | `(tactic| walk_at "exec For Name Name cons nil") => `(tactic| k_extra "own exec For Name Name cons nil")
local macro_rules | `(tactic| walk_at "exec For Tuple Call cons nil") => `(tactic| k_extra "own exec For Tuple Call cons nil")
local macro_rules | `(tactic| walk_at "exec If") => `(tactic| k_extra "own exec If")
local macro_rules | `(tactic| walk_at "exec Raise some none") => `(tactic| k_extra "own exec Raise some none")
local macro_rules | `(tactic| walk_at "exec While BoolOp cons nil") => `(tactic| k_extra "own exec While BoolOp cons nil")
local macro_rules | `(tactic| walk_at "exec While Compare cons nil") => `(tactic| k_extra "own exec While Compare cons nil")
local macro_rules | `(tactic| walk_at "getAttr ref") => `(tactic| k_extra "own getAttr ref")
local macro_rules | `(tactic| walk_at "leaving ref") => `(tactic| k_extra "own leaving ref")
local macro_rules | `(tactic| walk_at "noteFrame ref") => `(tactic| k_extra "own noteFrame ref")
local macro_rules | `(tactic| walk_at "pyIter ref") => `(tactic| k_extra "own pyIter ref")
local macro_rules | `(tactic| walk_at "setAttr ref") => `(tactic| k_extra "own setAttr ref")
local macro_rules | `(tactic| walk_at "subscriptTail Name Constant ref int") => `(tactic| k_extra "own subscriptTail Name Constant ref int")
local macro_rules | `(tactic| walk_at "subscriptTail Name UnaryOp ref int") => `(tactic| k_extra "own subscriptTail Name UnaryOp ref int")
section
variable (w : World) (loose : List Str) (mean : ExcName → Option Value) (mg mb : Str → Option Value)

set_option maxHeartbeats 8000000 in
theorem c_draw0 (rest : Led) (dk : Addr) (n : Nat) (vs : List Value) (ns : List Int) (many : Int) (tm : Tok) (hi : IntsAre vs ns) (hp : ∀ x ∈ ns, 0 ≤ x) (hz : ns.length ≤ 1000) (hm : 0 < many) (hm2 : many ≤ 1000) (hoff : ∀ p ∈ rest, p.1 ≠ dk) :
    Con w loose mean mg mb 280 4 100 [.ref dk, .int many tm] ((dk, listOf vs.toArray n) :: rest) (fun K => ∀ k t vs' ns' n', t ≠ 0 → IntsAre vs' ns' → (∀ x ∈ ns', 0 ≤ x) → ns'.length ≤ ns.length → 0 ≤ k → k < many → K (.int k t) ((dk, listOf vs'.toArray n') :: rest)) := by
  unfold Con
  k_fill
  intro dp un gd cn cs a ccd cl outer A₀ base h₀ L m s Q E B F X N T hk hd hu hret
  refine wpAny_call ?_
  k_dflt (refine' code_def ?k1 ?k2 ?k3 ?k4 ?k5 ?kA ?kF ?kK ?k6 ?k7 ?k8 ?k9 ?kB ?_ ?c2 ?c3 ?c4 ?c5; (case kA => exact rfl); (case kF => exact rfl); (case kK => assumption); (case k1 => k_asm); (case k2 => k_asm); (case k3 => k_asm); (case k4 => k_asm); (case k5 => k_asm); (case k6 => k_is); (case k7 => k_is); (case k8 => ktr_room); (case k9 => exact BindsTo.of_eq rfl); (case c5 => decide); (case kB => exact locs rfl); (case c2 => exact rfl); (case c3 => exact rfl); (case c4 => exact rfl); k_whole; intro g' L' h' FG' F' N' B' X' T'; (try dsimp only); refine pos_gen (by first | ((try dsimp only); omega) | (with_unfolding_all exact Nat.le_add_left 1 _) | (with_unfolding_all exact Nat.le_trans (Nat.le_succ 1) (Nat.le_add_left 2 _)) | (with_unfolding_all exact Nat.le_trans (show 1 ≤ 3 by decide) (Nat.le_add_left 3 _))) ?_; intro tk9 htk9; (try dsimp only); (try k_lift B'); (try k_fold))
  k_with_none
  w_top off
  k_with "own exec While BoolOp cons nil" => k_extra "While"
  k_with "own exec While Compare cons nil" => k_extra "While"
  k_with "own binaryOp FloorDiv int int" => (k_here; refine floordiv_int ?z3kd1 ?_ (Or.inl (PyProof.noPylong_small ?z3kd2)); (case z3kd1 => walk_at "omg"); (case z3kd2 => walk_at "omg"))
  k_with "own PosN" => (refine posN_gen ?_; intro tk9 htk9; (try dsimp only); (try k_fold))
  k_with "own exec If" => (k_here; refine wpAny_If ?_; refine with_posN (by (try dsimp only); omega) ?_; (try k_fold))
  k_with "While" => ((refine with_posN (by (try dsimp only); omega) ?_); (rename Fr _ _ _ _ => lF'); (rename News _ _ _ _ => lN'); with_unfolding_all refine' whileW (σ := List Value × List Int × Nat) (fun c => (dk, listOf c.1.toArray c.2.2) :: rest) (fun c => []) [] (fun c => IntsAre c.1 c.2.1 ∧ (∀ x ∈ c.2.1, 0 ≤ x) ∧ c.2.1.length ≤ ns.length) (fun c => c.2.1.length) (vs, ns, n) lF' lN' ?knq3 ?k2q3 ?k3q3 ?_; (case knq3 => exact (fun p hp => by repeat' (first | exact hp | refine List.Mem.tail _ ?_))); (case k2q3 => kst_all); (case k3q3 => exact ⟨hi, hp, Nat.le_refl _⟩); clear lF' lN'; rintro ⟨us, ks, nu⟩ u h tk ⟨hp1, hp2, hp3⟩ F9 N9; (try dsimp only at hp1 hp2 hp3); dsimp only at F9 N9)
  k_steps
  · exact wEnd (us.tail, ks.tail, _) (by assumption) (by assumption) (fun p hp => by repeat' (first | exact hp | refine List.Mem.tail _ ?_)) (by kst_all) (by intro z h3; simp only [List.contains_cons, List.contains_nil, Bool.or_false, Bool.or_eq_false_iff, beq_eq_false_iff_ne, ne_eq] at h3; first | rfl | (simp [h3]; done) | (simp [h3, kstB]; done)) ⟨by assumption, fun x hx => hp2 x (List.mem_of_mem_tail hx), by dsimp only; rw [List.length_tail]; omega⟩ (by dsimp only; rw [List.length_tail]; omega)
  · exact fin (hret _ _ _ _ _ (by first | exact Nat.succ_ne_zero _ | assumption | exact Nat.ne_of_gt (by assumption) | omega) (by assumption) (fun x hx => deck_set hp2 (Int.fdiv_nonneg (deck_at hp2 (by omega)) (by omega)) x hx) (by rw [List.length_set]; exact hp3) (Int.fmod_nonneg (deck_at hp2 (by omega)) (by omega)) (Int.fmod_lt_of_pos _ hm)) rfl (by assumption) (by assumption) (fun p hp => by repeat' (first | exact hp | refine List.Mem.tail _ ?_))
  · exact fin (hret _ _ _ _ _ (by first | exact Nat.succ_ne_zero _ | assumption | exact Nat.ne_of_gt (by assumption) | omega) hp1 hp2 hp3 (Int.le_refl _) hm) rfl (by assumption) (by assumption) (fun p hp => by repeat' (first | exact hp | refine List.Mem.tail _ ?_))

end
section
variable (w : World) (loose : List Str) (mean : ExcName → Option Value) (mg mb : Str → Option Value)

set_option maxHeartbeats 8000000 in
theorem c_draw (news : Led) (dk : Addr) (n : Nat) (vs : List Value) (ns : List Int) (many : Int) (tm : Tok) (g : Obj → Led) (U : UpdF dk (listOf vs.toArray n) news g) (hi : IntsAre vs ns) (hp : ∀ x ∈ ns, 0 ≤ x) (hz : ns.length ≤ 1000) (hm : 0 < many) (hm2 : many ≤ 1000) :
    Con w loose mean mg mb 280 4 100 [.ref dk, .int many tm] news (fun K => ∀ k t vs' ns' n', t ≠ 0 → IntsAre vs' ns' → (∀ x ∈ ns', 0 ≤ x) → ns'.length ≤ ns.length → 0 ≤ k → k < many → K (.int k t) (g (listOf vs'.toArray n'))) := by
  obtain ⟨pre, post, rfl, hg, a, b⟩ := U.split
  refine con_sub (news₀ := (dk, listOf vs.toArray n) :: (pre ++ post)) (fun p hp => ?_) (con_mono (fun K hK h k t vs' ns' n' h0 h1 h2 h3 h4 h5 => hK _ _ _ (h k t vs' ns' n' h0 h1 h2 h3 h4 h5) fun p hp => ?_) (c_draw0 w loose mean mg mb (pre ++ post) dk n vs ns many tm hi hp hz hm hm2 fun p hp => (List.mem_append.mp hp).elim (a p) (b p)))
  · simp only [List.mem_cons, List.mem_append] at hp ⊢
    rcases hp with h | h | h
    · exact .inr (.inl h)
    · exact .inl h
    · exact .inr (.inr h)
  · rw [hg] at hp
    simp only [List.mem_cons, List.mem_append] at hp ⊢
    rcases hp with h | h | h
    · exact .inr (.inl h)
    · exact .inl h
    · exact .inr (.inr h)

end
section
variable (w : World) (loose : List Str) (mean : ExcName → Option Value) (mg mb : Str → Option Value)

set_option maxHeartbeats 8000000 in
theorem c_signs0 (rest : Led) (dk : Addr) (n : Nat) (vs : List Value) (ns : List Int) (l1 : Addr) (nl1 : Nat) (vs1 : List Value) (ns1 : List Int) (most : Int) (tm : Tok) (hi : IntsAre vs ns) (hp : ∀ x ∈ ns, 0 ≤ x) (hz : ns.length ≤ 1000) (hl1 : (l1, listOf vs1.toArray nl1) ∈ rest) (hi1 : IntsAre vs1 ns1) (hz1 : 0 < ns1.length) (hz2 : ns1.length ≤ 1000) (h0 : 0 ≤ most) (h1 : most ≤ 100) (hoff : ∀ p ∈ rest, p.1 ≠ dk) :
    Con w loose mean mg mb 285 6 300 [.ref dk, .ref l1, .int most tm] ((dk, listOf vs.toArray n) :: rest) (fun K => ∀ r vs1' ns1' n1' vs' ns' n', LCg.Off1 r ((dk, listOf vs'.toArray n') :: rest) → IntsAre vs1' ns1' → (∀ x ∈ ns1', x ∈ ns1) → (ns1'.length : Int) ≤ most → IntsAre vs' ns' → (∀ x ∈ ns', 0 ≤ x) → ns'.length ≤ ns.length → K (.ref r) ((r, listOf vs1'.toArray n1') :: (dk, listOf vs'.toArray n') :: rest)) := by
  unfold Con
  k_fill
  intro dp un gd cn cs a ccd cl outer A₀ base h₀ L m s Q E B F X N T hk hd hu hret
  have N0 := N
  replace N := news_add N0 N (.tail _ hl1)
  clear N0
  have hne1 : @Ne Nat l1 dk := hoff _ hl1
  refine wpAny_call ?_
  k_dflt (refine' code_defC ?k1 ?k2 ?k3 ?k4 ?k5 ?kA ?kF ?kK ?k6 ?k7 ?k8 ?k9 ?kB ?kD ?_ ?c2 ?c3 ?c4; (case kA => exact rfl); (case kF => exact rfl); (case kK => assumption); (case k1 => k_asm); (case k2 => k_asm); (case k3 => k_asm); (case k4 => k_asm); (case k5 => k_asm); (case k6 => k_is); (case k7 => k_is); (case k8 => ktr_room); (case k9 => exact BindsTo.of_eq rfl); (case kB => exact rfl); (case kD => decide +kernel); (case c2 => exact rfl); (case c3 => exact rfl); (case c4 => exact rfl); k_whole; intro g' L' h' tk' cells' FG' F' N' Y' B' X' T' lt9; (try k_lt lt9); (have hY := CellsAre.two Y'; obtain ⟨o1', o2', hE', d1', d2'⟩ := hY; subst hE'; clear Y'); (try simp only [List.cons_append, List.nil_append] at N'); (try dsimp only); (try k_lift B'); (try k_fold))
  k_with_none
  w_top off
  k_with "own eval ListComp" => (k_here; k_dflt (refine LCg.ListComp_U (F₀ := by k_asm) (by with_unfolding_all rfl) (by decide) (by rfl) (by decide) (by rfl) ?_))
  k_with "own CompSrc" => (k_here; k_extra "Comp")
  k_with "own eval Name" => (k_here; (fail_if_success (with_reducible show wpAny _ _ (eval (PySem.Expr.Name _ _) (compEnvC _ _ _ _)) _ _ _)); k_dflt (first | (refine' nameX_L ?z8F ?z8v ?_ ?z8a ?z8b; (case z8F => k_asm); (case z8a => rfl); (case z8b => rfl); (case z8v => rfl); k_whole) | (refine' nameX_C ?z8N ?z8c ?z8m ?z8d ?_ ?z8a ?z8b; (case z8a => rfl); (case z8b => rfl); (case z8N => k_asm); (case z8c => rfl); (case z8m => k_mem); (case z8d => k_asm); k_whole) | (refine' nameX_K ?z8F ?z8X ?z8T ?z8e ?_ ?z8a ?z8b; (case z8F => k_asm); (case z8X => k_asm); (case z8T => k_asm); (case z8a => rfl); (case z8b => rfl); (case z8e => k_is); k_whole)))
  k_with "own eval Name" => (k_here; (with_reducible show wpAny _ _ (eval (PySem.Expr.Name _ _) (compEnvC _ _ _ _)) _ _ _); k_dflt (refine kcf_cell (by k_asm) (by rfl) (by k_mem) (by k_asm) ?_))
  k_with "own call ref" => (k_here; (with_reducible show wpAny _ _ (call (Value.ref 280) _) _ _ _);  k_dflt (refine' con_use ?z10k1 ?z10k2 ?z10k3 ?z10k4 ?z10k5 ?z10k6 (c_draw _ _ _ _ _ _ _ _ _ _ _ _ _ ?z10u1 ?z10i1 ?z10p1 ?z10z1 ?z10z2 ?z10z3) ?z10k7 ?z10k8 ?_; (case z10k1 => k_asm); (case z10k2 => k_asm); (case z10k3 => k_asm); (case z10k4 => k_asm); (case z10k5 => k_asm); (case z10k6 => first | exact rfl | assumption); (case z10u1 => k_updF); (case z10i1 => with_reducible assumption); (case z10p1 => assumption); (case z10z1 => walk_at "omg"); (case z10z2 => walk_at "omg"); (case z10z3 => walk_at "omg"); (case z10k7 => first | exact room_ok hd rfl rfl | ktr_room); (case z10k8 => first | exact room_ok hu rfl rfl | ktr_units)); (try dsimp only); intro k' t' vs' ns' n' ht' hI' hP' hL' hk0' hk1' h' tk' F' N';  (try k_sweep); (try k_fold))
  k_with "Comp" => ((rename Fr _ _ _ _ => lF'); (rename News _ _ _ _ => lN'); (rename IsRange _ _ _ _ _ _ _ _ => rgX); (rename 0 ≤ _ => hk0); (rename _ < most + 1 => hk1); k_dflt (refine LCg.CompSrc.range (by rfl) lF' lN' rgX (small_one (by omega) (by omega) (by omega) (by omega)) (rangeSize_nat _ _) (by rw [PySem.sizeLine_eq]; omega) ?_); intro g9; k_dflt (refine' compS (σ := List Value × List Int × Nat) (fun c => (L' + 1 + 1, o1') :: (L' + 1, o2') :: (l1, listOf vs1.toArray nl1) :: (dk, listOf c.1.toArray c.2.2) :: rest) (fun i ys c => ∃ ks, IntsAre ys ks ∧ (∀ x ∈ ks, x ∈ ns1) ∧ ks.length = i ∧ IntsAre c.1 c.2.1 ∧ (∀ x ∈ c.2.1, 0 ≤ x) ∧ c.2.1.length ≤ ns.length) (_, _, _) ?hp ?turn ?fin); (case hp => exact ⟨[], .nil, (fun _ h => absurd h List.not_mem_nil), rfl, by assumption, by assumption, by assumption⟩); (case' turn => rintro ⟨us, ks, nu⟩ i k t I oI C oC D m₂ ys h tk E' hlt hki ⟨zs, hz3, hz4, hz5, hz6, hz7, hz8⟩ hC hx F9 N9 off9 ne9; dsimp only at hz6 hz7 hz8 N9 off9; simp only [LCg.Off3] at off9); (case' fin => rintro ⟨us, ks, nu⟩ ys ⟨zs, hz3, hz4, hz5, hz6, hz7, hz8⟩; dsimp only at hz6 hz7 hz8; dsimp only))
  k_steps
  any_goals (exact cEnd (_, _, _) (by assumption) (by assumption) (fun p hp => by repeat' (first | exact hp | refine List.Mem.tail _ ?_)) off9 ⟨zs ++ [_], IntsAre.append hz3 (.cons _ _ .nil), mem_snoc hz4 (getD_mem (by omega)), by rw [List.length_append, hz5]; rfl, by assumption, by assumption, by dsimp only; omega⟩)
  any_goals (exact fin (hret _ _ _ _ _ _ _ (by first | assumption | exact (by assumption : _ ∧ _ ∧ _ ∧ LCg.Off1 _ _).2.2.2 | exact (by assumption : _ ∧ _ ∧ _ ∧ _ ∧ LCg.Off1 _ _).2.2.2) hz3 hz4 (by omega) hz6 hz7 hz8) rfl (by assumption) (by assumption) (sub_new (fun p hp => .tail _ (.tail _ (.tail _ hp)))))

end
section
variable (w : World) (loose : List Str) (mean : ExcName → Option Value) (mg mb : Str → Option Value)

set_option maxHeartbeats 8000000 in
theorem c_signs (news : Led) (dk : Addr) (n : Nat) (vs : List Value) (ns : List Int) (l1 : Addr) (nl1 : Nat) (vs1 : List Value) (ns1 : List Int) (most : Int) (tm : Tok) (g : Obj → Led) (U : UpdF dk (listOf vs.toArray n) news g) (hi : IntsAre vs ns) (hp : ∀ x ∈ ns, 0 ≤ x) (hz : ns.length ≤ 1000) (hl1 : (l1, listOf vs1.toArray nl1) ∈ news) (hne : @Ne Nat l1 dk) (hi1 : IntsAre vs1 ns1) (hz1 : 0 < ns1.length) (hz2 : ns1.length ≤ 1000) (h0 : 0 ≤ most) (h1 : most ≤ 100) :
    Con w loose mean mg mb 285 6 300 [.ref dk, .ref l1, .int most tm] news (fun K => ∀ r vs1' ns1' n1' vs' ns' n', LCg.Off1 r (g (listOf vs'.toArray n')) → IntsAre vs1' ns1' → (∀ x ∈ ns1', x ∈ ns1) → (ns1'.length : Int) ≤ most → IntsAre vs' ns' → (∀ x ∈ ns', 0 ≤ x) → ns'.length ≤ ns.length → K (.ref r) ((r, listOf vs1'.toArray n1') :: g (listOf vs'.toArray n'))) := by
  obtain ⟨pre, post, rfl, hg, a, b⟩ := U.split
  have hm : (l1, listOf vs1.toArray nl1) ∈ pre ++ post := by
    simp only [List.mem_cons, List.mem_append] at hl1 ⊢
    rcases hl1 with h | h | h
    · exact .inl h
    · exact absurd (Prod.mk.inj h).1 hne
    · exact .inr h
  refine con_sub (news₀ := (dk, listOf vs.toArray n) :: (pre ++ post)) (fun p hp => ?_) (con_mono (fun K hK h r vs1' ns1' n1' vs' ns' n' ho h1 h2 h3 h4 h5 h6 => hK _ _ _ (h r vs1' ns1' n1' vs' ns' n' ?_ h1 h2 h3 h4 h5 h6) (sub_new fun p hp => ?_)) (c_signs0 w loose mean mg mb (pre ++ post) dk n vs ns l1 nl1 vs1 ns1 most tm hi hp hz hm hi1 hz1 hz2 h0 h1 fun p hp => (List.mem_append.mp hp).elim (a p) (b p)))
  · simp only [List.mem_cons, List.mem_append] at hp ⊢
    rcases hp with h | h | h
    · exact .inr (.inl h)
    · exact .inl h
    · exact .inr (.inr h)
  · rw [hg]
    exact off1_of fun p hp => Off1.mem ho p (by
      simp only [List.mem_cons, List.mem_append] at hp ⊢
      rcases hp with h | h | h
      · exact .inr (.inl h)
      · exact .inl h
      · exact .inr (.inr h))
  · rw [hg] at hp
    simp only [List.mem_cons, List.mem_append] at hp ⊢
    rcases hp with h | h | h
    · exact .inr (.inl h)
    · exact .inl h
    · exact .inr (.inr h)

end
section
variable (w : World) (loose : List Str) (mean : ExcName → Option Value) (mg mb : Str → Option Value)

set_option maxHeartbeats 8000000 in
theorem c_mktext (news : Led) (l : Addr) :
    Con w loose mean mg mb 79 4 300 [.ref l] news (fun K => ∀ x d, (∀ p ∈ news, p.1 < d) → @LT.lt Nat _ d x → ∀ ha hb ta tb, K (.ref x) ((x, instObj 79 d) :: (d, dictOf [⟨ha, .str (Str.ofString "codes") ta, .ref l⟩, ⟨hb, .str (Str.ofString "spans") tb, .none⟩] 2) :: news)) := by
  unfold Con
  k_fill
  intro dp un gd cn cs a ccd cl outer A₀ base h₀ L m s Q E B F X N T hk hd hu hret
  k_dflt (refine' call_cls ?k1 ?k2 ?k3 ?k4 ?k5 ?k6 ?_; (case k1 => k_asm); (case k2 => k_asm); (case k3 => k_asm); (case k4 => k_is); (case k5 => k_is); (case k6 => k_is); k_whole; intro x' d' h' F' N' l1 l2; have q1 := l1; have q2 : @LT.lt Nat _ d' x' := l2; have q3 : ∀ p ∈ news, p.1 ≠ d' := (fun p hp => Nat.ne_of_lt (l1 p hp)); (refine' code_def ?k1 ?k2 ?k3 ?k4 ?k5 ?kA ?kF ?kK ?k6 ?k7 ?k8 ?k9 ?kB ?_ ?c2 ?c3 ?c4 ?c5; (case kA => exact rfl); (case kF => exact rfl); (case kK => assumption); (case k1 => k_asm); (case k2 => k_asm); (case k3 => k_asm); (case k4 => k_asm); (case k5 => k_asm); (case k6 => k_is); (case k7 => k_is); (case k8 => ktr_room); (case k9 => first | exact BindsTo.of_eq rfl | exact binds_K (by k_in) rfl (by k_is) rfl rfl rfl); (case c5 => decide); (case kB => exact locs rfl); (case c2 => exact rfl); (case c3 => exact rfl); (case c4 => exact rfl); k_whole; intro g' L' h' FG' F' N' B' X' T'; (try dsimp only); (try k_lift B'); (try k_fold)))
  k_with_none
  w_top off

  k_steps
  exact fin (hret _ _ q1 q2 _ _ _ _) rfl (by assumption) (by assumption) (fun p hp => by repeat' (first | exact hp | refine List.Mem.tail _ ?_))
end
section
variable (w : World) (loose : List Str) (mean : ExcName → Option Value) (mg mb : Str → Option Value)

set_option maxHeartbeats 8000000 in
theorem c_small (news : Led) (l1 : Addr) (nl1 : Nat) (vs1 : List Value) (ns1 : List Int) (hl1 : (l1, listOf vs1.toArray nl1) ∈ news) (hi1 : IntsAre vs1 ns1) (hz1 : ns1.length ≤ 1000) :
    Con w loose mean mg mb 290 4 100 [.ref l1] news (fun K => ∀ r vs' n', LCg.Off1 r news → IntsAre vs' (ns1.map low) → K (.ref r) ((r, listOf vs'.toArray n') :: news)) := by
  unfold Con
  k_fill
  intro dp un gd cn cs a ccd cl outer A₀ base h₀ L m s Q E B F X N T hk hd hu hret
  have N0 := N
  replace N := news_add N0 N hl1
  clear N0
  refine wpAny_call ?_
  k_dflt cell_enter
  k_with_none
  w_top off
  k_with "own eval ListComp" => (k_here; k_dflt (refine LCg.ListComp_U (F₀ := by k_asm) (by with_unfolding_all rfl) (by decide) (by rfl) (by decide) (by rfl) ?_))
  k_with "own CompSrc" => (k_here; k_dflt ((refine LCg.CompSrc.ledger (by rfl) (by k_asm) (by k_asm) (by k_mem) (by (have hLe := IntsAre.length (by assumption)); rw [PySem.sizeLine_eq, List.size_toArray]; omega) ?_; intro g'; (refine' kcf_list _ (by assumption) (fun k' t' I' oI' C' oC' D' m' ys' h' tk' E' hk' hC' hx' F' N' off' ne' hMark' => ?_) ?_); kcf_last)))
  k_steps
  have hlow := map_low ns1
  exact fin (hret _ _ _ (by assumption : _ ∧ LCg.Off1 _ _).2 (by rw [← hlow]; assumption)) rfl (by assumption) (by assumption) (sub_new (fun p hp => by repeat' (first | exact hp | refine List.Mem.tail _ ?_)))

end
section
variable (w : World) (loose : List Str) (mean : ExcName → Option Value) (mg mb : Str → Option Value)

set_option maxHeartbeats 8000000 in
theorem c_text (news : Led) (x dx : Addr) (od : Obj) (hx : (x, instObj 79 dx) ∈ news) (he : (dx, od) ∈ news) :
    Con w loose mean mg mb 130 2 40 [.ref x] news (fun K => K (.ref x) news) := by
  unfold Con
  k_fill
  intro dp un gd cn cs a ccd cl outer A₀ base h₀ L m s Q E B F X N T hk hd hu hret
  have N0 := N
  replace N := news_add N0 N hx
  replace N := news_add N0 N he
  clear N0
  refine wpAny_call ?_
  k_dflt cell_enter
  k_with_none
  w_top off

  k_steps
  exact fin hret (by first | rfl | simp [*]) (by assumption) (by assumption) (fun p hp => by repeat' (first | exact hp | refine List.Mem.tail _ ?_))

end
section
variable (w : World) (loose : List Str) (mean : ExcName → Option Value) (mg mb : Str → Option Value)

set_option maxHeartbeats 8000000 in
theorem c_opt3 (news : Led) (aa : Addr) (nn : Nat) (v0 v1 v2 : Value) (t : Tok) (hh : (aa, listOf #[v0, v1, v2] nn) ∈ news) :
    Con w loose mean mg mb 151 2 60 [.ref aa, .int 2 t] news (fun K => K v2 news) := by
  unfold Con
  k_fill
  intro dp un gd cn cs a ccd cl outer A₀ base h₀ L m s Q E B F X N T hk hd hu hret
  have N0 := N
  replace N := news_add N0 N hh
  clear N0
  refine wpAny_call ?_
  k_dflt cell_enter
  k_with_none
  w_top off

  k_steps
  exact fin hret (by first | rfl | simp [*]) (by assumption) (by assumption) (fun p hp => by repeat' (first | exact hp | refine List.Mem.tail _ ?_))

end
section
variable (w : World) (loose : List Str) (mean : ExcName → Option Value) (mg mb : Str → Option Value)

set_option maxHeartbeats 8000000 in
theorem c_iswhole (news : Led) (k : Int) (t : Tok) :
    Con w loose mean mg mb 90 2 40 [.int k t] news (fun K => K (.bool true) news) := by
  unfold Con
  k_fill
  intro dp un gd cn cs a ccd cl outer A₀ base h₀ L m s Q E B F X N T hk hd hu hret
  refine wpAny_call ?_
  k_dflt cell_enter
  k_with_none
  w_top off

  k_steps
  exact fin hret (by first | rfl | simp [*]) (by assumption) (by assumption) (fun p hp => by repeat' (first | exact hp | refine List.Mem.tail _ ?_))

end
section
variable (w : World) (loose : List Str) (mean : ExcName → Option Value) (mg mb : Str → Option Value)

set_option maxHeartbeats 8000000 in
theorem c_whole (news : Led) (k : Int) (t : Tok) :
    Con w loose mean mg mb 144 3 60 [.int k t] news (fun K => K (.int k t) news) := by
  unfold Con
  k_fill
  intro dp un gd cn cs a ccd cl outer A₀ base h₀ L m s Q E B F X N T hk hd hu hret
  refine wpAny_call ?_
  k_dflt cell_enter
  k_with_none
  w_top off
  k_with "own call ref" => (k_here; (with_reducible show wpAny _ _ (call (Value.ref 90) _) _ _ _);  k_dflt (refine' con_use ?z13k1 ?z13k2 ?z13k3 ?z13k4 ?z13k5 ?z13k6 (c_iswhole _ _ _ _ _ _ _ _ ) ?z13k7 ?z13k8 ?_; (case z13k1 => k_asm); (case z13k2 => k_asm); (case z13k3 => k_asm); (case z13k4 => k_asm); (case z13k5 => k_asm); (case z13k6 => first | exact rfl | assumption);  (case z13k7 => first | exact room_ok hd rfl rfl | ktr_room); (case z13k8 => first | exact room_ok hu rfl rfl | ktr_units)); (try dsimp only); intro  h' tk' F' N';  (try k_sweep); (try k_fold))
  k_steps
  exact fin hret (by first | rfl | simp [*]) (by assumption) (by assumption) (fun p hp => by repeat' (first | exact hp | refine List.Mem.tail _ ?_))

end
section
variable (w : World) (loose : List Str) (mean : ExcName → Option Value) (mg mb : Str → Option Value)

set_option maxHeartbeats 8000000 in
theorem c_place (news : Led) (l1 : Addr) (nl1 : Nat) (vs1 : List Value) (ns1 : List Int) (l2 : Addr) (nl2 : Nat) (vs2 : List Value) (ns2 : List Int) (st : Int) (tt : Tok) (hl1 : (l1, listOf vs1.toArray nl1) ∈ news) (hi1 : IntsAre vs1 ns1) (hl2 : (l2, listOf vs2.toArray nl2) ∈ news) (hi2 : IntsAre vs2 ns2) (hz1 : ns1.length ≤ 1000) (hz2 : ns2.length ≤ 1000) (h0 : 0 ≤ st) (h1 : st ≤ ns2.length) (htt : tt ≠ 0) :
    Con w loose mean mg mb 219 4 200 [.ref l1, .ref l2, .int st tt] news (fun K => ∀ t, (0 ≤ place (srch ns1 ns2 st.toNat (((ns2.length : Int) - ns1.length + 1 - st).toNat)) → t ≠ 0) → K (.int (place (srch ns1 ns2 st.toNat (((ns2.length : Int) - ns1.length + 1 - st).toNat))) t) news) := by
  unfold Con
  k_fill
  intro dp un gd cn cs a ccd cl outer A₀ base h₀ L m s Q E B F X N T hk hd hu hret
  have N0 := N
  replace N := news_add N0 N hl1
  replace N := news_add N0 N hl2
  clear N0
  refine wpAny_call ?_
  k_dflt cell_enter
  k_with_none
  w_top off
  k_with "own exec For Name Call cons nil" => (k_here; (rename Fr _ _ _ _ => lF'); (with_unfolding_all refine' For_invVF lF' ?z14k1 ?z14k2 ?_; (case z14k1 => exact rfl); (case z14k2 => exact rfl); k_whole))
  k_with "own exec For Name Name cons nil" => (k_here; (rename Fr _ _ _ _ => lF'); (with_unfolding_all refine' For_invVF lF' ?z15k1 ?z15k2 ?_; (case z15k1 => exact rfl); (case z15k2 => exact rfl); k_whole))
  k_with "own pyIter ref" => k_extra "For"
  k_with "own exec While BoolOp cons nil" => k_extra "While"
  k_with "own exec While Compare cons nil" => k_extra "While"
  k_with "own call builtin:list.append" => (k_here; (with_reducible show wpAny _ _ (call (Value.builtin _) [Value.ref _, Value.int _ _]) _ _ _); k_dflt (refine' append_i ?z19F ?z19N ?z19U ?z19i ?z19z ?_; (case z19F => k_asm); (case z19N => k_asm); (case z19U => k_upd); (case z19i => with_reducible assumption); (case z19z => walk_at "omg"); k_whole); intro h' F' N' hI'; (try k_sweep))
  k_with "While" => ((rename Fr _ _ _ _ => lF'); (rename News _ _ _ _ => lN'); with_unfolding_all refine' whileK (σ := Int × Tok) (fun c => [(Str.ofString "known", .int c.1 c.2)]) [Str.ofString "known"] (fun c => 0 ≤ c.1 ∧ c.1 ≤ pre.length ∧ Wk ns1 ((ns1.drop 1).take pre.length) (ns1.getD ka.toNat 0) c.1.toNat) (fun c => c.1.toNat) (kk, _) lF' lN' ?k2q6 ?k3q6 ?_; (case k2q6 => kst_all); (case k3q6 => exact ⟨hp4, by have := suf_le hp5.1; rw [List.length_take] at this; omega, wk_of hp5⟩); clear lF' lN'; rintro ⟨kn, tk0⟩ u h tk ⟨hw1, hw2, hw3⟩ F9 N9; (try dsimp only at hw1 hw2 hw3); dsimp only at F9 N9)
  k_with "While" => ((have g9 := hp8); (rename Fr _ _ _ _ => lF'); (rename News _ _ _ _ => lN'); with_unfolding_all refine' whileK (σ := Int × Tok) (fun c => [(Str.ofString "known", .int c.1 c.2)]) [Str.ofString "known"] (fun c => 0 ≤ c.1 ∧ c.1 < ns1.length ∧ Wk ns1 ((ns2.drop st.toNat).take pre.length) (ns2.getD ka.toNat 0) c.1.toNat) (fun c => c.1.toNat) (kk, _) lF' lN' ?k2q7 ?k3q7 ?_; (case k2q7 => kst_all); (case k3q7 => exact ⟨hp6, hp7, wk_of hp8⟩); clear lF' lN'; rintro ⟨kn, tk0⟩ u h tk ⟨hw1, hw2, hw3⟩ F9 N9; (try dsimp only at hw1 hw2 hw3); dsimp only at F9 N9)
  k_with "For" => ((rename Fr _ _ _ _ => lF'); (rename News _ _ _ _ => lN'); (replace lN' := news_tail lN'); (rename IsRange _ _ _ _ _ _ _ _ => rgX); with_unfolding_all refine' forRangeH (σ := List Value × List Int × Nat × Int × Tok) (fun c => c.1) (fun c => c.2.2.1) (fun c => [(Str.ofString "known", .int c.2.2.2.1 c.2.2.2.2)]) [Str.ofString "known"] (fun pre c => IntsAre c.1 c.2.1 ∧ c.2.1.length = pre.length + 1 ∧ EndsOk ns1 c.2.1 ∧ 0 ≤ c.2.2.2.1 ∧ Best ns1 ((ns1.drop 1).take pre.length) c.2.2.2.1.toNat) ([_], [0], _, 0, _) (by rfl) rgX (small_one (by omega) (by omega) (by omega) (by omega)) (rangeSize_nat _ _) lF' lN' (by rename _ ∧ _ ∧ AllLt _ _ => hlt9; exact allLt_off hlt9) (by rfl) (by rfl) ?kkq8 ?kpq8 ?turnq8 ?doneq8; (case kkq8 => kst_all); (case kpq8 => exact ⟨.cons _ _ .nil, rfl, ends0 ns1, Int.le_refl _, best0 ns1⟩); clear lF' lN' rgX; (case' turnq8 => rintro ⟨ev, es, ne, kk, tkk⟩ pre ka t u h tk own hk hlt hbo hoff ⟨hp1, hp2, hp3, hp4, hp5⟩ F9 N9; (try dsimp only at hoff hp1 hp2 hp3 hp4 hp5); dsimp only at F9 N9; (try simp only [List.cons_append, List.nil_append] at N9 hbo)); (case' doneq8 => rintro ⟨ev, es, ne, kk, tkk⟩ u h tk ⟨he1, he2, he3, he4, he5⟩ F9 N9; (try dsimp only at he1 he2 he3 he4 he5); dsimp only at F9 N9; (try simp only [rangeKs_length] at he1 he2 he3 he4 he5)))
  k_with "For" => ((have g9 := he3); (rename Fr _ _ _ _ => lF'); (rename News _ _ _ _ => lN'); (rename IsRange _ _ _ _ _ _ _ _ => rgX); with_unfolding_all refine' forRange (σ := Int × Tok) (n := _) (fun c => _) (fun c => [(Str.ofString "known", .int c.1 c.2)]) [Str.ofString "known"] (fun pre c => 0 ≤ c.1 ∧ c.1 < ns1.length ∧ Best ns1 ((ns2.drop st.toNat).take pre.length) c.1.toNat ∧ NoHit ns1 (ns2.drop st.toNat) pre.length) (0, _) (by rfl) rgX (small_one (by omega) (by omega) (by omega) (by omega)) (rangeSize_nat _ _) lF' lN' ?knq9 ?kkq9 ?kpq9 ?turnq9 ?doneq9; (case knq9 => exact (fun p hp => by repeat' (first | exact hp | refine List.Mem.tail _ ?_))); (case kkq9 => kst_all); (case kpq9 => exact ⟨Int.le_refl _, by dsimp only; omega, best0 ns1, noHit0 (by omega)⟩); clear lF' lN' rgX; (case' turnq9 => rintro ⟨kk, tkk⟩ pre ka t u h tk own hk hlt hoff ⟨hp6, hp7, hp8, hp9⟩ F9 N9; (try dsimp only at hoff hp6 hp7 hp8 hp9); dsimp only at F9 N9; (try simp only [List.cons_append, List.nil_append] at N9)); (case' doneq9 => rintro ⟨kk, tkk⟩ u h tk ⟨hp6, hp7, hp8, hp9⟩ F9 N9; (try dsimp only at hp6 hp7 hp8 hp9); dsimp only at F9 N9; (try simp only [rangeKs_length] at hp6 hp7 hp8 hp9)))
  k_steps
  all_goals first
    | ((with_reducible show WEnd _ _ _ _ _ _ _ _ _ _ _); have g8 := hp2
       obtain ⟨hs1, hs2, hs3⟩ := kmp_fall hw3 (by assumption) (by assumption) hp3 (by omega)
       exact wEnd (es.getD (kn - 1).toNat 0, _) (by assumption) (by assumption) (fun p hp => by repeat' (first | exact hp | exact List.mem_append_left _ hp | refine List.Mem.tail _ ?_)) (by kst_all) (by intro z h3; simp only [List.contains_cons, List.contains_nil, Bool.or_false, Bool.or_eq_false_iff, beq_eq_false_iff_ne, ne_eq] at h3; first | rfl | (simp [h3]; done) | (simp [h3, kstB]; done)) ⟨hs1, by dsimp only; omega, hs3⟩ (by dsimp only; walk_at "mu"))
    | ((with_reducible show WEnd _ _ _ _ _ _ _ _ _ _ _)
       obtain ⟨hs1, hs2, hs3⟩ := kmp_fall hw3 (by assumption) (by assumption) he3 (by omega)
       exact wEnd (es.getD (kn - 1).toNat 0, _) (by assumption) (by assumption) (fun p hp => by repeat' (first | exact hp | exact List.mem_append_left _ hp | refine List.Mem.tail _ ?_)) (by kst_all) (by intro z h3; simp only [List.contains_cons, List.contains_nil, Bool.or_false, Bool.or_eq_false_iff, beq_eq_false_iff_ne, ne_eq] at h3; first | rfl | (simp [h3]; done) | (simp [h3, kstB]; done)) ⟨hs1, by dsimp only; omega, hs3⟩ (by dsimp only; walk_at "mu"))
    | ((with_reducible show FEnd _ _ _ _ _ _ _ _ _ _ _ _ _); have g8 := hp2; first
       | contradiction
       | (have hs := kmp_hit (st := 1) (by omega) hw1 (by omega) hw3 (by omega) (by assumption)
          exact fEnd (_, es ++ [kn + 1], _, kn + 1, _) (by assumption) (by assumption) (fun p hp => by repeat' (first | exact hp | exact List.mem_append_left _ hp | refine List.Mem.tail _ ?_)) (fun p hp => by repeat' (first | exact hp | exact List.mem_append_right _ hp | refine List.Mem.tail _ ?_)) rfl (by kst_all) (by intro z h2 h3; simp only [List.contains_cons, List.contains_nil, Bool.or_false, Bool.or_eq_false_iff, beq_eq_false_iff_ne, ne_eq] at h3; first | rfl | (simp [h2, h3]; done) | (simp [h2, h3, kstB]; done)) ⟨by assumption, by dsimp only; rw [snoc_len, snoc_len]; omega, ends_snoc hp3 (by omega) (by rw [hp2]; exact hs), by dsimp only; omega, by rw [snoc_len]; exact hs⟩)
       | (have hs := kmp_miss (st := 1) (by omega) hw1 (by omega) hw3 (by assumption) (by assumption)
          exact fEnd (_, es ++ [kn], _, kn, _) (by assumption) (by assumption) (fun p hp => by repeat' (first | exact hp | exact List.mem_append_left _ hp | refine List.Mem.tail _ ?_)) (fun p hp => by repeat' (first | exact hp | exact List.mem_append_right _ hp | refine List.Mem.tail _ ?_)) rfl (by kst_all) (by intro z h2 h3; simp only [List.contains_cons, List.contains_nil, Bool.or_false, Bool.or_eq_false_iff, beq_eq_false_iff_ne, ne_eq] at h3; first | rfl | (simp [h2, h3]; done) | (simp [h2, h3, kstB]; done)) ⟨by assumption, by dsimp only; rw [snoc_len, snoc_len]; omega, ends_snoc hp3 (by omega) (by rw [hp2]; exact hs), by dsimp only; omega, by rw [snoc_len]; exact hs⟩))
    | ((with_reducible show FEnd _ _ _ _ _ _ _ _ _ _ _ _ _); first
       | contradiction
       | (have hs := kmp_hit (st := st.toNat) (by omega) hw1 (by omega) hw3 (by omega) (by assumption)
          exact fEnd (kn + 1, _) (by assumption) (by assumption) (fun p hp => by repeat' (first | exact hp | exact List.mem_append_left _ hp | refine List.Mem.tail _ ?_)) (fun p hp => by repeat' (first | exact hp | exact List.mem_append_right _ hp | refine List.Mem.tail _ ?_)) rfl (by kst_all) (by intro z h2 h3; simp only [List.contains_cons, List.contains_nil, Bool.or_false, Bool.or_eq_false_iff, beq_eq_false_iff_ne, ne_eq] at h3; first | rfl | (simp [h2, h3]; done) | (simp [h2, h3, kstB]; done)) ⟨by dsimp only; omega, by dsimp only; omega, by rw [snoc_len]; exact hs, by rw [snoc_len]; exact noHit_succ hp9 hs (by omega)⟩)
       | (have hs := kmp_miss (st := st.toNat) (by omega) hw1 (by omega) hw3 (by assumption) (by assumption)
          exact fEnd (kn, _) (by assumption) (by assumption) (fun p hp => by repeat' (first | exact hp | exact List.mem_append_left _ hp | refine List.Mem.tail _ ?_)) (fun p hp => by repeat' (first | exact hp | exact List.mem_append_right _ hp | refine List.Mem.tail _ ?_)) rfl (by kst_all) (by intro z h2 h3; simp only [List.contains_cons, List.contains_nil, Bool.or_false, Bool.or_eq_false_iff, beq_eq_false_iff_ne, ne_eq] at h3; first | rfl | (simp [h2, h3]; done) | (simp [h2, h3, kstB]; done)) ⟨by dsimp only; omega, by dsimp only; omega, by rw [snoc_len]; exact hs, by rw [snoc_len]; exact noHit_succ hp9 hs (by omega)⟩))
    | (have g8 := hw3; first
       | contradiction
       | (exfalso; omega)
       | (have hs := kmp_hit (st := st.toNat) (by omega) hw1 (by omega) hw3 (by omega) (by assumption)
          exact fin (hret _ (fun _ => Nat.succ_ne_zero _)) (congrArg (Value.int · _) (place_found h0 (by omega) hlt hp9 hs hw1 (by assumption)).symm) (by assumption) (by assumption) (fun p hp => by repeat' (first | exact hp | exact List.mem_append_left _ hp | refine List.Mem.tail _ ?_))))
    | (have g8 := hp9; exact fin (hret _ (place_tok (place_none (place_no h0 h1 rfl hp9)))) (congrArg (Value.int · _) (place_no h0 h1 rfl hp9).symm) (by assumption) (by assumption) (fun p hp => by repeat' (first | exact hp | exact List.mem_append_left _ hp | refine List.Mem.tail _ ?_)))
    | exact fin (hret _ (fun _ => htt)) (congrArg (Value.int · _) (place_nil (by assumption) h0 (by omega)).symm) (by assumption) (by assumption) (fun p hp => by repeat' (first | exact hp | refine List.Mem.tail _ ?_))

end
section
variable (w : World) (loose : List Str) (mean : ExcName → Option Value) (mg mb : Str → Option Value)

set_option maxHeartbeats 8000000 in
theorem c_search (news : Led) (aa : Addr) (nn : Nat) (x1 d1 l1 : Addr) (ha1 hb1 : Int) (ta1 tb1 : Tok) (na1 nl1 : Nat) (vs1 : List Value) (ns1 : List Int)(x2 d2 l2 : Addr) (ha2 hb2 : Int) (ta2 tb2 : Tok) (na2 nl2 : Nat) (vs2 : List Value) (ns2 : List Int) (st : Int) (tt : Tok)
    (hh : (aa, listOf #[.ref x1, .ref x2, .int st tt] nn) ∈ news) (hx1 : (x1, instObj 79 d1) ∈ news) (he1 : (d1, dictOf [⟨ha1, .str (Str.ofString "codes") ta1, .ref l1⟩, ⟨hb1, .str (Str.ofString "spans") tb1, .none⟩] na1) ∈ news) (hl1 : (l1, listOf vs1.toArray nl1) ∈ news) (hi1 : IntsAre vs1 ns1)(hx2 : (x2, instObj 79 d2) ∈ news) (he2 : (d2, dictOf [⟨ha2, .str (Str.ofString "codes") ta2, .ref l2⟩, ⟨hb2, .str (Str.ofString "spans") tb2, .none⟩] na2) ∈ news) (hl2 : (l2, listOf vs2.toArray nl2) ∈ news) (hi2 : IntsAre vs2 ns2) (hz1 : ns1.length ≤ 1000) (hz2 : ns2.length ≤ 1000) (h0 : 0 ≤ st) (h1 : st ≤ ns2.length) (htt : tt ≠ 0) :
    Con w loose mean mg mb 226 6 300 [.none, .ref aa] news (fun K => ∀ t, t ≠ 0 → K (sv (srch ns1 ns2 st.toNat (((ns2.length : Int) - ns1.length + 1 - st).toNat)) t) news) := by
  unfold Con
  k_fill
  intro dp un gd cn cs a ccd cl outer A₀ base h₀ L m s Q E B F X N T hk hd hu hret
  have N0 := N
  replace N := news_add N0 N hx1
  replace N := news_add N0 N he1
  replace N := news_add N0 N hl1
  replace N := news_add N0 N hx2
  replace N := news_add N0 N he2
  replace N := news_add N0 N hl2
  replace N := news_add N0 N hh
  clear N0
  refine wpAny_call ?_
  k_dflt cell_enter
  k_with_none
  w_top off
  k_with "own call ref" => (k_here; (with_reducible show wpAny _ _ (call (Value.ref 130) _) _ _ _);  k_dflt (refine' con_use ?z20k1 ?z20k2 ?z20k3 ?z20k4 ?z20k5 ?z20k6 (c_text _ _ _ _ _ _ _ _ _ ?z20a1 ?z20a2) ?z20k7 ?z20k8 ?_; (case z20k1 => k_asm); (case z20k2 => k_asm); (case z20k3 => k_asm); (case z20k4 => k_asm); (case z20k5 => k_asm); (case z20k6 => first | exact rfl | assumption); (case z20a1 => first | (with_reducible assumption) | assumption | k_mem); (case z20a2 => first | (with_reducible assumption) | assumption | k_mem); (case z20k7 => first | exact room_ok hd rfl rfl | ktr_room); (case z20k8 => first | exact room_ok hu rfl rfl | ktr_units)); (try dsimp only); intro  h' tk' F' N';  (try k_sweep); (try k_fold))
  k_with "own call ref" => (k_here; (with_reducible show wpAny _ _ (call (Value.ref 151) _) _ _ _);  k_dflt (refine' con_use ?z21k1 ?z21k2 ?z21k3 ?z21k4 ?z21k5 ?z21k6 (c_opt3 _ _ _ _ _ _ _ _ _ _ _ _ ?z21a1) ?z21k7 ?z21k8 ?_; (case z21k1 => k_asm); (case z21k2 => k_asm); (case z21k3 => k_asm); (case z21k4 => k_asm); (case z21k5 => k_asm); (case z21k6 => first | exact rfl | assumption); (case z21a1 => first | (with_reducible assumption) | assumption | k_mem); (case z21k7 => first | exact room_ok hd rfl rfl | ktr_room); (case z21k8 => first | exact room_ok hu rfl rfl | ktr_units)); (try dsimp only); intro  h' tk' F' N';  (try k_sweep); (try k_fold))
  k_with "own call ref" => (k_here; (with_reducible show wpAny _ _ (call (Value.ref 144) _) _ _ _);  k_dflt (refine' con_use ?z22k1 ?z22k2 ?z22k3 ?z22k4 ?z22k5 ?z22k6 (c_whole _ _ _ _ _ _ _ _ ) ?z22k7 ?z22k8 ?_; (case z22k1 => k_asm); (case z22k2 => k_asm); (case z22k3 => k_asm); (case z22k4 => k_asm); (case z22k5 => k_asm); (case z22k6 => first | exact rfl | assumption);  (case z22k7 => first | exact room_ok hd rfl rfl | ktr_room); (case z22k8 => first | exact room_ok hu rfl rfl | ktr_units)); (try dsimp only); intro  h' tk' F' N';  (try k_sweep); (try k_fold))
  k_with "own call ref" => (k_here; (with_reducible show wpAny _ _ (call (Value.ref 219) _) _ _ _);  k_dflt (refine' con_use ?z23k1 ?z23k2 ?z23k3 ?z23k4 ?z23k5 ?z23k6 (c_place _ _ _ _ _ _ _ _ _ _ _ _ _ _ _ _ ?z23l1 ?z23i1 ?z23l2 ?z23i2 ?z23z1 ?z23z2 ?z23z3 ?z23z4 ?z23z5) ?z23k7 ?z23k8 ?_; (case z23k1 => k_asm); (case z23k2 => k_asm); (case z23k3 => k_asm); (case z23k4 => k_asm); (case z23k5 => k_asm); (case z23k6 => first | exact rfl | assumption); (case z23l1 => first | (with_reducible assumption) | assumption | k_mem); (case z23i1 => with_reducible assumption); (case z23l2 => first | (with_reducible assumption) | assumption | k_mem); (case z23i2 => with_reducible assumption); (case z23z1 => walk_at "omg"); (case z23z2 => walk_at "omg"); (case z23z3 => walk_at "omg"); (case z23z4 => walk_at "omg"); (case z23z5 => assumption); (case z23k7 => first | exact room_ok hd rfl rfl | ktr_room); (case z23k8 => first | exact room_ok hu rfl rfl | ktr_units)); (try dsimp only); intro t' ht' h' tk' F' N';  (try k_sweep); (try k_fold))
  k_steps
  · rename place _ < 0 => h9; rw [place_neg h9] at hret; exact fin (hret 1 (by decide)) rfl (by assumption) (by assumption) (fun p hp => by repeat' (first | exact hp | refine List.Mem.tail _ ?_))
  · rename ¬ place _ < 0 => h9; obtain ⟨i9, e9⟩ := place_pos h9
    rw [e9] at hret
    exact fin (hret _ ((by assumption : 0 ≤ place _ → _ ≠ 0) (by omega))) (by rw [e9]; rfl) (by assumption) (by assumption) (fun p hp => by repeat' (first | exact hp | refine List.Mem.tail _ ?_))

end
section
variable (w : World) (loose : List Str) (mean : ExcName → Option Value) (mg mb : Str → Option Value)

set_option maxHeartbeats 8000000 in
theorem c_first (news : Led) (l1 : Addr) (nl1 : Nat) (vs1 : List Value) (ns1 : List Int) (l2 : Addr) (nl2 : Nat) (vs2 : List Value) (ns2 : List Int) (st : Int) (tt : Tok) (hl1 : (l1, listOf vs1.toArray nl1) ∈ news) (hi1 : IntsAre vs1 ns1) (hl2 : (l2, listOf vs2.toArray nl2) ∈ news) (hi2 : IntsAre vs2 ns2) (hz1 : ns1.length ≤ 1000) (hz2 : ns2.length ≤ 1000) (h0 : 0 ≤ st) (h1 : st ≤ ns2.length) :
    Con w loose mean mg mb 297 4 200 [.ref l1, .ref l2, .int st tt] news (fun K => ∀ t, t ≠ 0 → K (sv (srch ns1 ns2 st.toNat (((ns2.length : Int) - ns1.length + 1 - st).toNat)) t) news) := by
  unfold Con
  k_fill
  intro dp un gd cn cs a ccd cl outer A₀ base h₀ L m s Q E B F X N T hk hd hu hret
  have N0 := N
  replace N := news_add N0 N hl1
  replace N := news_add N0 N hl2
  clear N0
  refine wpAny_call ?_
  k_dflt (refine' code_def ?k1 ?k2 ?k3 ?k4 ?k5 ?kA ?kF ?kK ?k6 ?k7 ?k8 ?k9 ?kB ?_ ?c2 ?c3 ?c4 ?c5; (case kA => exact rfl); (case kF => exact rfl); (case kK => assumption); (case k1 => k_asm); (case k2 => k_asm); (case k3 => k_asm); (case k4 => k_asm); (case k5 => k_asm); (case k6 => k_is); (case k7 => k_is); (case k8 => ktr_room); (case k9 => exact BindsTo.of_eq rfl); (case c5 => decide); (case kB => exact locs rfl); (case c2 => exact rfl); (case c3 => exact rfl); (case c4 => exact rfl); k_whole; intro g' L' h' FG' F' N' B' X' T'; (try dsimp only); refine pos_gen (by first | ((try dsimp only); omega) | (with_unfolding_all exact Nat.le_add_left 1 _) | (with_unfolding_all exact Nat.le_trans (Nat.le_succ 1) (Nat.le_add_left 2 _)) | (with_unfolding_all exact Nat.le_trans (show 1 ≤ 3 by decide) (Nat.le_add_left 3 _))) ?_; intro tk9 htk9; (try dsimp only); (try k_lift B'); (try k_fold))
  k_with_none
  w_top off
  k_with "own exec For Name Call cons nil" => (k_here; k_dflt (refine For_T (by first | ((try dsimp only); omega) | (with_unfolding_all exact Nat.le_add_left 1 _) | (with_unfolding_all exact Nat.le_trans (Nat.le_succ 1) (Nat.le_add_left 2 _)) | (with_unfolding_all exact Nat.le_trans (show 1 ≤ 3 by decide) (Nat.le_add_left 3 _))) ?_); k_whole)
  k_with "own RangeT" => k_extra "ForT"
  k_with "own TPostF" => (dsimp only [TPostF])
  k_with "ForT" => ((rename Fr _ _ _ _ => lF'); (rename News _ _ _ _ => lN'); (rename IsRange _ _ _ _ _ _ _ _ => rgX); with_unfolding_all refine' forRangeT (n := _) (fun i => srch ns1 ns2 st.toNat (((ns2.length : Int) - ns1.length + 1 - st).toNat) = srch ns1 ns2 (st.toNat + i) (((ns2.length : Int) - ns1.length + 1 - st).toNat - i)) (by rfl) (by rfl) (by rfl) rgX (small_one (by omega) (by omega) (by omega) (by omega)) (rangeSize_nat _ _) lF' lN' ?kpq4 ?turnq4 ?doneq4; (case kpq4 => exact rfl); clear lF' lN' rgX; (case' turnq4 => rintro I9 oI i k t h tk hlow hlt hk ht0 hp1 F9 N9; (try dsimp only at F9 N9 hp1)); (case' doneq4 => rintro u h tk hp1 F9 N9; (try dsimp only at F9 N9 hp1)))
  k_steps
  · rw [hp1, Nat.sub_self] at hret; exact fin (hret 1 (by decide)) rfl (by assumption) (by assumption) (fun p hp => by repeat' (first | exact hp | refine List.Mem.tail _ ?_))
  · have hf := first_hit (by assumption) (by omega) (by omega) (by assumption) hp1
    rw [hf] at hret
    exact fin (hret _ ht0) (by rw [show k = ((st.toNat + i : Nat) : Int) by omega]; rfl) (by assumption) (by assumption) (fun p hp => by repeat' (first | exact hp | refine List.Mem.tail _ ?_))
  · exact tEnd (by assumption) (by assumption) (by kst_in) (by kst_in) (by intro z h3; first | rfl | (simp [h3]; done)) (first_miss2 (by assumption) (by omega) (by omega) (by assumption) hp1)

end
section
variable (w : World) (loose : List Str) (mean : ExcName → Option Value) (mg mb : Str → Option Value)

set_option maxHeartbeats 8000000 in
theorem c_bool (news : Led) (b : Bool) :
    Con w loose mean mg mb 97 2 20 [.bool b] news (fun K => K (tn b) news) := by
  unfold Con
  k_fill
  intro dp un gd cn cs a ccd cl outer A₀ base h₀ L m s Q E B F X N T hk hd hu hret
  cases b
  all_goals
   refine wpAny_call ?_
   k_dflt cell_enter
   k_with_none
   w_top off

   k_steps
   exact fin hret (by first | rfl | simp [*]) (by assumption) (by assumption) (fun p hp => by repeat' (first | exact hp | refine List.Mem.tail _ ?_))

end
section
variable (w : World) (loose : List Str) (mean : ExcName → Option Value) (mg mb : Str → Option Value)

set_option maxHeartbeats 8000000 in
theorem c_down (news : Led) (c : Int) (t : Tok) (hc : c < 192) :
    Con w loose mean mg mb 109 2 20 [.int c t] news (fun K => ∀ t, K (.int (low c) t) news) := by
  unfold Con
  k_fill
  intro dp un gd cn cs a ccd cl outer A₀ base h₀ L m s Q E B F X N T hk hd hu hret
  refine wpAny_call ?_
  k_dflt cell_enter
  k_with_none
  w_top off

  k_steps
  all_goals exact fin (hret _) (by simp only [low]; first | (rw [if_pos (by omega)]; done) | (rw [if_neg (by omega)]; done)) (by assumption) (by assumption) (fun p hp => by repeat' (first | exact hp | refine List.Mem.tail _ ?_))
end
section
variable (w : World) (loose : List Str) (mean : ExcName → Option Value) (mg mb : Str → Option Value)

set_option maxHeartbeats 8000000 in
theorem c_fold (news : Led) (c : Int) (t : Tok) (hc : c < 192) :
    Con w loose mean mg mb 116 3 40 [.int c t] news (fun K => ∀ t, K (.int (low c) t) news) := by
  unfold Con
  k_fill
  intro dp un gd cn cs a ccd cl outer A₀ base h₀ L m s Q E B F X N T hk hd hu hret
  refine wpAny_call ?_
  k_dflt cell_enter
  k_with_none
  w_top off
  k_with "own call ref" => (k_here; (with_reducible show wpAny _ _ (call (Value.ref 109) _) _ _ _);  k_dflt (refine' con_use ?z27k1 ?z27k2 ?z27k3 ?z27k4 ?z27k5 ?z27k6 (c_down _ _ _ _ _ _ _ _ ?z27a1) ?z27k7 ?z27k8 ?_; (case z27k1 => k_asm); (case z27k2 => k_asm); (case z27k3 => k_asm); (case z27k4 => k_asm); (case z27k5 => k_asm); (case z27k6 => first | exact rfl | assumption); (case z27a1 => walk_at "omg"); (case z27k7 => first | exact room_ok hd rfl rfl | ktr_room); (case z27k8 => first | exact room_ok hu rfl rfl | ktr_units)); (try dsimp only); intro t' h' tk' F' N';  (try k_sweep); (try k_fold))
  k_steps
  all_goals exact fin (hret _) rfl (by assumption) (by assumption) (fun p hp => by repeat' (first | exact hp | refine List.Mem.tail _ ?_))

end
section
variable (w : World) (loose : List Str) (mean : ExcName → Option Value) (mg mb : Str → Option Value)

set_option maxHeartbeats 8000000 in
theorem c_foldedT (news : Led) (l : Addr) (vs : List Value) (ns : List Int) (n : Nat) (hl : (l, listOf vs.toArray n) ∈ news) (hi : IntsAre vs ns) (hc : ∀ x ∈ ns, x < 192) (hz : ns.length ≤ 1000) :
    Con w loose mean mg mb 184 4 80 [.ref l, .bool true] news (fun K => ∀ r vs' n', LCg.Off1 r news → IntsAre vs' (ns.map low) → K (.ref r) ((r, listOf vs'.toArray n') :: news)) := by
  unfold Con
  k_fill
  intro dp un gd cn cs a ccd cl outer A₀ base h₀ L m s Q E B F X N T hk hd hu hret
  have N0 := N
  replace N := news_add N0 N hl
  clear N0
  refine wpAny_call ?_
  k_dflt cell_enter
  k_with_none
  w_top off
  k_with "own eval ListComp" => (k_here; k_dflt (refine LCg.ListComp_U (F₀ := by k_asm) (by with_unfolding_all rfl) (by decide) (by rfl) (by decide) (by rfl) ?_))
  k_with "own CompSrc" => (k_here; k_dflt ((refine LCg.CompSrc.ledger (by rfl) (by k_asm) (by k_asm) (by k_mem) (by (have hLe := IntsAre.length (by assumption)); rw [PySem.sizeLine_eq, List.size_toArray]; omega) ?_; intro g'; (refine' kcf_list _ (by assumption) (fun k' t' I' oI' C' oC' D' m' ys' h' tk' E' hk' hC' hx' F' N' off' ne' hMark' => ?_) ?_); kcf_last)))
  k_with "own call ref" => (k_here; (with_reducible show wpAny _ _ (call (Value.ref 116) _) _ _ _);  k_dflt (refine' con_use ?z30k1 ?z30k2 ?z30k3 ?z30k4 ?z30k5 ?z30k6 (c_fold _ _ _ _ _ _ _ _ ?z30a1) ?z30k7 ?z30k8 ?_; (case z30k1 => k_asm); (case z30k2 => k_asm); (case z30k3 => k_asm); (case z30k4 => k_asm); (case z30k5 => k_asm); (case z30k6 => first | exact rfl | assumption); (case z30a1 => first | omega | exact (by assumption : ∀ x ∈ _, x < (192 : Int)) _ (by assumption)); (case z30k7 => first | exact room_ok hd rfl rfl | ktr_room); (case z30k8 => first | exact room_ok hu rfl rfl | ktr_units)); (try dsimp only); intro t' h' tk' F' N';  (try k_sweep); (try k_fold))
  k_steps
  exact fin (hret _ _ _ (by assumption : _ ∧ LCg.Off1 _ _).2 (by assumption)) rfl (by assumption) (by assumption) (sub_new (fun p hp => by repeat' (first | exact hp | refine List.Mem.tail _ ?_)))
end
section
variable (w : World) (loose : List Str) (mean : ExcName → Option Value) (mg mb : Str → Option Value)

set_option maxHeartbeats 8000000 in
theorem c_foldedF (news : Led) (l : Addr) :
    Con w loose mean mg mb 184 4 80 [.ref l, .bool false] news (fun K => K (.ref l) news) := by
  unfold Con
  k_fill
  intro dp un gd cn cs a ccd cl outer A₀ base h₀ L m s Q E B F X N T hk hd hu hret
  refine wpAny_call ?_
  k_dflt cell_enter
  k_with_none
  w_top off

  k_steps
  exact fin hret (by first | rfl | simp [*]) (by assumption) (by assumption) (fun p hp => by repeat' (first | exact hp | refine List.Mem.tail _ ?_))

end
section
variable (w : World) (loose : List Str) (mean : ExcName → Option Value) (mg mb : Str → Option Value)

set_option maxHeartbeats 8000000 in
theorem c_foldedB (news : Led) (l : Addr) (vs : List Value) (ns : List Int) (n : Nat) (b : Bool) (hl : (l, listOf vs.toArray n) ∈ news) (hi : IntsAre vs ns) (hc : ∀ x ∈ ns, x < 192) (hz : ns.length ≤ 1000) :
    Con w loose mean mg mb 184 4 80 [.ref l, .bool b] news (fun K => ∀ r vs' n', IntsAre vs' (fd b ns) → (fd b ns).length = ns.length → K (.ref r) ((r, listOf vs'.toArray n') :: news)) := by
  intro dp un gd cn cs a ccd cl outer A₀ base h₀ L m s Q E B F X N T hk hd hu hret
  cases b with
  | true => exact c_foldedT w loose mean mg mb news l vs ns n hl hi hc hz dp un gd cn cs a ccd cl outer A₀ base h₀ L m s Q E B F X N T hk hd hu fun r vs' n' _ hI => hret r vs' n' hI (fd_length _ _)
  | false => exact c_foldedF w loose mean mg mb news l dp un gd cn cs a ccd cl outer A₀ base h₀ L m s Q E B F X N T hk hd hu fun h' tk' F' N' => hret l vs n hi rfl h' tk' F' (news_add N' N' hl)
end
section
variable (w : World) (loose : List Str) (mean : ExcName → Option Value) (mg mb : Str → Option Value)

set_option maxHeartbeats 8000000 in
theorem c_opt2 (news : Led) (aa : Addr) (nn : Nat) (v0 v1 : Value) (t : Tok) (hh : (aa, listOf #[v0, v1] nn) ∈ news) :
    Con w loose mean mg mb 151 2 60 [.ref aa, .int 2 t] news (fun K => K (.ref 57) news) := by
  unfold Con
  k_fill
  intro dp un gd cn cs a ccd cl outer A₀ base h₀ L m s Q E B F X N T hk hd hu hret
  have N0 := N
  replace N := news_add N0 N hh
  clear N0
  refine wpAny_call ?_
  k_dflt cell_enter
  k_with_none
  w_top off

  k_steps
  exact fin hret (by first | rfl | simp [*]) (by assumption) (by assumption) (fun p hp => by repeat' (first | exact hp | refine List.Mem.tail _ ?_))

end
section
variable (w : World) (loose : List Str) (mean : ExcName → Option Value) (mg mb : Str → Option Value)

set_option maxHeartbeats 8000000 in
theorem c_optB (news : Led) (aa : Addr) (nn : Nat) (x y : Addr) (b : Bool) (t : Tok) (hh : (aa, listOf (flagged x y b) nn) ∈ news) :
    Con w loose mean mg mb 151 2 60 [.ref aa, .int 2 t] news (fun K => K (tn b) news) := by
  cases b with
  | true => exact c_opt3 w loose mean mg mb news aa nn (.ref x) (.ref y) (.ref 60) t hh
  | false => exact c_opt2 w loose mean mg mb news aa nn (.ref x) (.ref y) t hh
end
section
variable (w : World) (loose : List Str) (mean : ExcName → Option Value) (mg mb : Str → Option Value)

set_option maxHeartbeats 8000000 in
theorem c_pref (news : Led) (aa : Addr) (nn : Nat) (x1 d1 l1 : Addr) (ha1 hb1 : Int) (ta1 tb1 : Tok) (na1 nl1 : Nat) (vs1 : List Value) (ns1 : List Int)(x2 d2 l2 : Addr) (ha2 hb2 : Int) (ta2 tb2 : Tok) (na2 nl2 : Nat) (vs2 : List Value) (ns2 : List Int) (b : Bool)
    (hh : (aa, listOf (flagged x1 x2 b) nn) ∈ news) (hx1 : (x1, instObj 79 d1) ∈ news) (he1 : (d1, dictOf [⟨ha1, .str (Str.ofString "codes") ta1, .ref l1⟩, ⟨hb1, .str (Str.ofString "spans") tb1, .none⟩] na1) ∈ news) (hl1 : (l1, listOf vs1.toArray nl1) ∈ news) (hi1 : IntsAre vs1 ns1)(hx2 : (x2, instObj 79 d2) ∈ news) (he2 : (d2, dictOf [⟨ha2, .str (Str.ofString "codes") ta2, .ref l2⟩, ⟨hb2, .str (Str.ofString "spans") tb2, .none⟩] na2) ∈ news) (hl2 : (l2, listOf vs2.toArray nl2) ∈ news) (hi2 : IntsAre vs2 ns2) (hz1 : ns1.length ≤ 1000) (hz2 : ns2.length ≤ 1000) (hc1 : ∀ x ∈ ns1, x < 192) (hc2 : ∀ x ∈ ns2, x < 192) :
    Con w loose mean mg mb 205 5 200 [.none, .ref aa] news (fun K => K (tn (decide ((fd b ns2).take ns1.length = fd b ns1))) news) := by
  unfold Con
  k_fill
  intro dp un gd cn cs a ccd cl outer A₀ base h₀ L m s Q E B F X N T hk hd hu hret
  have N0 := N
  replace N := news_add N0 N hx1
  replace N := news_add N0 N he1
  replace N := news_add N0 N hl1
  replace N := news_add N0 N hx2
  replace N := news_add N0 N he2
  replace N := news_add N0 N hl2
  replace N := news_add N0 N hh
  clear N0
  refine wpAny_call ?_
  k_dflt cell_enter
  k_with_none
  w_top off
  k_with "own subscriptTail Name Constant ref int" => (k_here; (with_reducible show wpAny _ _ (subscriptTail _ _ (Value.ref _) (Value.int _ _)) _ _ _); k_dflt (refine' sub_w (its := flagged _ _ _) ?z33k1 ?z33k2 ?z33k3 ?z33k4 ?z33k5 ?_ ?z33k7; (case z33k1 => k_asm); (case z33k2 => k_mem); (case z33k3 => decide); (case z33k4 => decide); (case z33k5 => first | exact flagged0 _ _ _ | exact flagged1 _ _ _); (case z33k7 => with_unfolding_all rfl); k_whole))
  k_with "own call ref" => (k_here; (with_reducible show wpAny _ _ (call (Value.ref 130) _) _ _ _);  k_dflt (refine' con_use ?z34k1 ?z34k2 ?z34k3 ?z34k4 ?z34k5 ?z34k6 (c_text _ _ _ _ _ _ _ _ _ ?z34a1 ?z34a2) ?z34k7 ?z34k8 ?_; (case z34k1 => k_asm); (case z34k2 => k_asm); (case z34k3 => k_asm); (case z34k4 => k_asm); (case z34k5 => k_asm); (case z34k6 => first | exact rfl | assumption); (case z34a1 => first | (with_reducible assumption) | assumption | k_mem); (case z34a2 => first | (with_reducible assumption) | assumption | k_mem); (case z34k7 => first | exact room_ok hd rfl rfl | ktr_room); (case z34k8 => first | exact room_ok hu rfl rfl | ktr_units)); (try dsimp only); intro  h' tk' F' N';  (try k_sweep); (try k_fold))
  k_with "own call ref" => (k_here; (with_reducible show wpAny _ _ (call (Value.ref 97) _) _ _ _);  k_dflt (refine' con_use ?z35k1 ?z35k2 ?z35k3 ?z35k4 ?z35k5 ?z35k6 (c_bool _ _ _ _ _ _ _ ) ?z35k7 ?z35k8 ?_; (case z35k1 => k_asm); (case z35k2 => k_asm); (case z35k3 => k_asm); (case z35k4 => k_asm); (case z35k5 => k_asm); (case z35k6 => first | exact rfl | assumption);  (case z35k7 => first | exact room_ok hd rfl rfl | ktr_room); (case z35k8 => first | exact room_ok hu rfl rfl | ktr_units)); (try dsimp only); intro  h' tk' F' N';  (try k_sweep); (try k_fold))
  k_with "own call ref" => (k_here; (with_reducible show wpAny _ _ (call (Value.ref 184) _) _ _ _);  k_dflt (refine' con_use ?z36k1 ?z36k2 ?z36k3 ?z36k4 ?z36k5 ?z36k6 (c_foldedB _ _ _ _ _ _ _ _ _ _ _ ?z36a1 ?z36a2 ?z36a3 ?z36a4) ?z36k7 ?z36k8 ?_; (case z36k1 => k_asm); (case z36k2 => k_asm); (case z36k3 => k_asm); (case z36k4 => k_asm); (case z36k5 => k_asm); (case z36k6 => first | exact rfl | assumption); (case z36a1 => first | (with_reducible assumption) | assumption | k_mem); (case z36a2 => with_reducible assumption); (case z36a3 => first | assumption | exact (fun x hx => (by assumption : ∀ x ∈ _, x < (192 : Int)) x (List.mem_of_mem_drop (List.mem_of_mem_take hx)))); (case z36a4 => walk_at "omg"); (case z36k7 => first | exact room_ok hd rfl rfl | ktr_room); (case z36k8 => first | exact room_ok hu rfl rfl | ktr_units)); (try dsimp only); intro r' vs' n' hI' hL' h' tk' F' N';  (try k_sweep); (try k_fold))
  k_with "own call ref" => (k_here; (with_reducible show wpAny _ _ (call (Value.ref 151) _) _ _ _);  k_dflt (refine' con_use ?z37k1 ?z37k2 ?z37k3 ?z37k4 ?z37k5 ?z37k6 (c_optB _ _ _ _ _ _ _ _ _ _ _ _ ?z37a1) ?z37k7 ?z37k8 ?_; (case z37k1 => k_asm); (case z37k2 => k_asm); (case z37k3 => k_asm); (case z37k4 => k_asm); (case z37k5 => k_asm); (case z37k6 => first | exact rfl | assumption); (case z37a1 => first | (with_reducible assumption) | assumption | k_mem); (case z37k7 => first | exact room_ok hd rfl rfl | ktr_room); (case z37k8 => first | exact room_ok hu rfl rfl | ktr_units)); (try dsimp only); intro  h' tk' F' N';  (try k_sweep); (try k_fold))
  k_steps
  exact fin hret (pref_eq b ns1 ns2) (by assumption) (by assumption) (fun p hp => by repeat' (first | exact hp | refine List.Mem.tail _ ?_))
end
section
variable (w : World) (loose : List Str) (mean : ExcName → Option Value) (mg mb : Str → Option Value)

set_option maxHeartbeats 8000000 in
theorem c_suff (news : Led) (aa : Addr) (nn : Nat) (x1 d1 l1 : Addr) (ha1 hb1 : Int) (ta1 tb1 : Tok) (na1 nl1 : Nat) (vs1 : List Value) (ns1 : List Int)(x2 d2 l2 : Addr) (ha2 hb2 : Int) (ta2 tb2 : Tok) (na2 nl2 : Nat) (vs2 : List Value) (ns2 : List Int) (b : Bool)
    (hh : (aa, listOf (flagged x1 x2 b) nn) ∈ news) (hx1 : (x1, instObj 79 d1) ∈ news) (he1 : (d1, dictOf [⟨ha1, .str (Str.ofString "codes") ta1, .ref l1⟩, ⟨hb1, .str (Str.ofString "spans") tb1, .none⟩] na1) ∈ news) (hl1 : (l1, listOf vs1.toArray nl1) ∈ news) (hi1 : IntsAre vs1 ns1)(hx2 : (x2, instObj 79 d2) ∈ news) (he2 : (d2, dictOf [⟨ha2, .str (Str.ofString "codes") ta2, .ref l2⟩, ⟨hb2, .str (Str.ofString "spans") tb2, .none⟩] na2) ∈ news) (hl2 : (l2, listOf vs2.toArray nl2) ∈ news) (hi2 : IntsAre vs2 ns2) (hz1 : ns1.length ≤ 1000) (hz2 : ns2.length ≤ 1000) (hc1 : ∀ x ∈ ns1, x < 192) (hc2 : ∀ x ∈ ns2, x < 192) :
    Con w loose mean mg mb 212 5 200 [.none, .ref aa] news (fun K => K (tn (decide (ns1.length ≤ ns2.length ∧ (fd b ns2).drop (ns2.length - ns1.length) = fd b ns1))) news) := by
  unfold Con
  k_fill
  intro dp un gd cn cs a ccd cl outer A₀ base h₀ L m s Q E B F X N T hk hd hu hret
  have N0 := N
  replace N := news_add N0 N hx1
  replace N := news_add N0 N he1
  replace N := news_add N0 N hl1
  replace N := news_add N0 N hx2
  replace N := news_add N0 N he2
  replace N := news_add N0 N hl2
  replace N := news_add N0 N hh
  clear N0
  refine wpAny_call ?_
  k_dflt cell_enter
  k_with_none
  w_top off
  k_with "own subscriptTail Name Constant ref int" => (k_here; (with_reducible show wpAny _ _ (subscriptTail _ _ (Value.ref _) (Value.int _ _)) _ _ _); k_dflt (refine' sub_w (its := flagged _ _ _) ?z38k1 ?z38k2 ?z38k3 ?z38k4 ?z38k5 ?_ ?z38k7; (case z38k1 => k_asm); (case z38k2 => k_mem); (case z38k3 => decide); (case z38k4 => decide); (case z38k5 => first | exact flagged0 _ _ _ | exact flagged1 _ _ _); (case z38k7 => with_unfolding_all rfl); k_whole))
  k_with "own call ref" => (k_here; (with_reducible show wpAny _ _ (call (Value.ref 130) _) _ _ _);  k_dflt (refine' con_use ?z39k1 ?z39k2 ?z39k3 ?z39k4 ?z39k5 ?z39k6 (c_text _ _ _ _ _ _ _ _ _ ?z39a1 ?z39a2) ?z39k7 ?z39k8 ?_; (case z39k1 => k_asm); (case z39k2 => k_asm); (case z39k3 => k_asm); (case z39k4 => k_asm); (case z39k5 => k_asm); (case z39k6 => first | exact rfl | assumption); (case z39a1 => first | (with_reducible assumption) | assumption | k_mem); (case z39a2 => first | (with_reducible assumption) | assumption | k_mem); (case z39k7 => first | exact room_ok hd rfl rfl | ktr_room); (case z39k8 => first | exact room_ok hu rfl rfl | ktr_units)); (try dsimp only); intro  h' tk' F' N';  (try k_sweep); (try k_fold))
  k_with "own call ref" => (k_here; (with_reducible show wpAny _ _ (call (Value.ref 97) _) _ _ _);  k_dflt (refine' con_use ?z40k1 ?z40k2 ?z40k3 ?z40k4 ?z40k5 ?z40k6 (c_bool _ _ _ _ _ _ _ ) ?z40k7 ?z40k8 ?_; (case z40k1 => k_asm); (case z40k2 => k_asm); (case z40k3 => k_asm); (case z40k4 => k_asm); (case z40k5 => k_asm); (case z40k6 => first | exact rfl | assumption);  (case z40k7 => first | exact room_ok hd rfl rfl | ktr_room); (case z40k8 => first | exact room_ok hu rfl rfl | ktr_units)); (try dsimp only); intro  h' tk' F' N';  (try k_sweep); (try k_fold))
  k_with "own call ref" => (k_here; (with_reducible show wpAny _ _ (call (Value.ref 184) _) _ _ _);  k_dflt (refine' con_use ?z41k1 ?z41k2 ?z41k3 ?z41k4 ?z41k5 ?z41k6 (c_foldedB _ _ _ _ _ _ _ _ _ _ _ ?z41a1 ?z41a2 ?z41a3 ?z41a4) ?z41k7 ?z41k8 ?_; (case z41k1 => k_asm); (case z41k2 => k_asm); (case z41k3 => k_asm); (case z41k4 => k_asm); (case z41k5 => k_asm); (case z41k6 => first | exact rfl | assumption); (case z41a1 => first | (with_reducible assumption) | assumption | k_mem); (case z41a2 => with_reducible assumption); (case z41a3 => first | assumption | exact (fun x hx => (by assumption : ∀ x ∈ _, x < (192 : Int)) x (List.mem_of_mem_drop (List.mem_of_mem_take hx)))); (case z41a4 => walk_at "omg"); (case z41k7 => first | exact room_ok hd rfl rfl | ktr_room); (case z41k8 => first | exact room_ok hu rfl rfl | ktr_units)); (try dsimp only); intro r' vs' n' hI' hL' h' tk' F' N';  (try k_sweep); (try k_fold))
  k_with "own call ref" => (k_here; (with_reducible show wpAny _ _ (call (Value.ref 151) _) _ _ _);  k_dflt (refine' con_use ?z42k1 ?z42k2 ?z42k3 ?z42k4 ?z42k5 ?z42k6 (c_optB _ _ _ _ _ _ _ _ _ _ _ _ ?z42a1) ?z42k7 ?z42k8 ?_; (case z42k1 => k_asm); (case z42k2 => k_asm); (case z42k3 => k_asm); (case z42k4 => k_asm); (case z42k5 => k_asm); (case z42k6 => first | exact rfl | assumption); (case z42a1 => first | (with_reducible assumption) | assumption | k_mem); (case z42k7 => first | exact room_ok hd rfl rfl | ktr_room); (case z42k8 => first | exact room_ok hu rfl rfl | ktr_units)); (try dsimp only); intro  h' tk' F' N';  (try k_sweep); (try k_fold))
  k_steps
  · exact fin hret (suff_in (by assumption)) (by assumption) (by assumption) (fun p hp => by repeat' (first | exact hp | refine List.Mem.tail _ ?_))
  · exact fin hret (suff_out (by assumption)) (by assumption) (by assumption) (fun p hp => by repeat' (first | exact hp | refine List.Mem.tail _ ?_))
end
section
variable (w : World) (loose : List Str) (mean : ExcName → Option Value) (mg mb : Str → Option Value)

set_option maxHeartbeats 8000000 in
theorem c_named (news : Led) (x dx l : Addr) (h1 h2 : Int) (t1 t2 : Tok) (n : Nat) (hx : (x, instObj 79 dx) ∈ news) (he : (dx, dictOf [⟨h1, .str (Str.ofString "codes") t1, .ref l⟩, ⟨h2, .str (Str.ofString "spans") t2, .none⟩] n) ∈ news) :
    Con w loose mean mg mb 137 3 60 [.ref x] news (fun K => K (.ref l) news) := by
  unfold Con
  k_fill
  intro dp un gd cn cs a ccd cl outer A₀ base h₀ L m s Q E B F X N T hk hd hu hret
  have N0 := N
  replace N := news_add N0 N hx
  replace N := news_add N0 N he
  clear N0
  refine wpAny_call ?_
  k_dflt cell_enter
  k_with_none
  w_top off
  k_with "own call ref" => (k_here; (with_reducible show wpAny _ _ (call (Value.ref 130) _) _ _ _);  k_dflt (refine' con_use ?z43k1 ?z43k2 ?z43k3 ?z43k4 ?z43k5 ?z43k6 (c_text _ _ _ _ _ _ _ _ _ ?z43a1 ?z43a2) ?z43k7 ?z43k8 ?_; (case z43k1 => k_asm); (case z43k2 => k_asm); (case z43k3 => k_asm); (case z43k4 => k_asm); (case z43k5 => k_asm); (case z43k6 => first | exact rfl | assumption); (case z43a1 => first | (with_reducible assumption) | assumption | k_mem); (case z43a2 => first | (with_reducible assumption) | assumption | k_mem); (case z43k7 => first | exact room_ok hd rfl rfl | ktr_room); (case z43k8 => first | exact room_ok hu rfl rfl | ktr_units)); (try dsimp only); intro  h' tk' F' N';  (try k_sweep); (try k_fold))
  k_steps
  exact fin hret (by first | rfl | simp [*]) (by assumption) (by assumption) (fun p hp => by repeat' (first | exact hp | refine List.Mem.tail _ ?_))

end
section
variable (w : World) (loose : List Str) (mean : ExcName → Option Value) (mg mb : Str → Option Value)

set_option maxHeartbeats 8000000 in
theorem c_sequal (news : Led) (aa : Addr) (nn : Nat) (x1 d1 l1 : Addr) (ha1 hb1 : Int) (ta1 tb1 : Tok) (na1 nl1 : Nat) (vs1 : List Value) (ns1 : List Int)(x2 d2 l2 : Addr) (ha2 hb2 : Int) (ta2 tb2 : Tok) (na2 nl2 : Nat) (vs2 : List Value) (ns2 : List Int)
    (hh : (aa, listOf #[.ref x1, .ref x2] nn) ∈ news) (hx1 : (x1, instObj 79 d1) ∈ news) (he1 : (d1, dictOf [⟨ha1, .str (Str.ofString "codes") ta1, .ref l1⟩, ⟨hb1, .str (Str.ofString "spans") tb1, .none⟩] na1) ∈ news) (hl1 : (l1, listOf vs1.toArray nl1) ∈ news) (hi1 : IntsAre vs1 ns1)(hx2 : (x2, instObj 79 d2) ∈ news) (he2 : (d2, dictOf [⟨ha2, .str (Str.ofString "codes") ta2, .ref l2⟩, ⟨hb2, .str (Str.ofString "spans") tb2, .none⟩] na2) ∈ news) (hl2 : (l2, listOf vs2.toArray nl2) ∈ news) (hi2 : IntsAre vs2 ns2) :
    Con w loose mean mg mb 165 4 200 [.none, .ref aa] news (fun K => K (tn (decide (ns1 = ns2))) news) := by
  unfold Con
  k_fill
  intro dp un gd cn cs a ccd cl outer A₀ base h₀ L m s Q E B F X N T hk hd hu hret
  have N0 := N
  replace N := news_add N0 N hx1
  replace N := news_add N0 N he1
  replace N := news_add N0 N hl1
  replace N := news_add N0 N hx2
  replace N := news_add N0 N he2
  replace N := news_add N0 N hl2
  replace N := news_add N0 N hh
  clear N0
  refine wpAny_call ?_
  k_dflt cell_enter
  k_with_none
  w_top off
  k_with "own call ref" => (k_here; (with_reducible show wpAny _ _ (call (Value.ref 137) _) _ _ _);  k_dflt (refine' con_use ?z44k1 ?z44k2 ?z44k3 ?z44k4 ?z44k5 ?z44k6 (c_named _ _ _ _ _ _ _ _ _ _ _ _ _ _ ?z44a1 ?z44a2) ?z44k7 ?z44k8 ?_; (case z44k1 => k_asm); (case z44k2 => k_asm); (case z44k3 => k_asm); (case z44k4 => k_asm); (case z44k5 => k_asm); (case z44k6 => first | exact rfl | assumption); (case z44a1 => first | (with_reducible assumption) | assumption | k_mem); (case z44a2 => first | (with_reducible assumption) | assumption | k_mem); (case z44k7 => first | exact room_ok hd rfl rfl | ktr_room); (case z44k8 => first | exact room_ok hu rfl rfl | ktr_units)); (try dsimp only); intro  h' tk' F' N';  (try k_sweep); (try k_fold))
  k_with "own call ref" => (k_here; (with_reducible show wpAny _ _ (call (Value.ref 97) _) _ _ _);  k_dflt (refine' con_use ?z45k1 ?z45k2 ?z45k3 ?z45k4 ?z45k5 ?z45k6 (c_bool _ _ _ _ _ _ _ ) ?z45k7 ?z45k8 ?_; (case z45k1 => k_asm); (case z45k2 => k_asm); (case z45k3 => k_asm); (case z45k4 => k_asm); (case z45k5 => k_asm); (case z45k6 => first | exact rfl | assumption);  (case z45k7 => first | exact room_ok hd rfl rfl | ktr_room); (case z45k8 => first | exact room_ok hu rfl rfl | ktr_units)); (try dsimp only); intro  h' tk' F' N';  (try k_sweep); (try k_fold))
  k_steps
  exact fin hret (by first | rfl | simp [*]) (by assumption) (by assumption) (fun p hp => by repeat' (first | exact hp | refine List.Mem.tail _ ?_))

end
section
variable (w : World) (loose : List Str) (mean : ExcName → Option Value) (mg mb : Str → Option Value)

set_option maxHeartbeats 8000000 in
theorem c_sless (news : Led) (aa : Addr) (nn : Nat) (x1 d1 l1 : Addr) (ha1 hb1 : Int) (ta1 tb1 : Tok) (na1 nl1 : Nat) (vs1 : List Value) (ns1 : List Int)(x2 d2 l2 : Addr) (ha2 hb2 : Int) (ta2 tb2 : Tok) (na2 nl2 : Nat) (vs2 : List Value) (ns2 : List Int)
    (hh : (aa, listOf #[.ref x1, .ref x2] nn) ∈ news) (hx1 : (x1, instObj 79 d1) ∈ news) (he1 : (d1, dictOf [⟨ha1, .str (Str.ofString "codes") ta1, .ref l1⟩, ⟨hb1, .str (Str.ofString "spans") tb1, .none⟩] na1) ∈ news) (hl1 : (l1, listOf vs1.toArray nl1) ∈ news) (hi1 : IntsAre vs1 ns1)(hx2 : (x2, instObj 79 d2) ∈ news) (he2 : (d2, dictOf [⟨ha2, .str (Str.ofString "codes") ta2, .ref l2⟩, ⟨hb2, .str (Str.ofString "spans") tb2, .none⟩] na2) ∈ news) (hl2 : (l2, listOf vs2.toArray nl2) ∈ news) (hi2 : IntsAre vs2 ns2) :
    Con w loose mean mg mb 172 4 200 [.none, .ref aa] news (fun K => K (tn (ltL ns1 ns2)) news) := by
  unfold Con
  k_fill
  intro dp un gd cn cs a ccd cl outer A₀ base h₀ L m s Q E B F X N T hk hd hu hret
  have N0 := N
  replace N := news_add N0 N hx1
  replace N := news_add N0 N he1
  replace N := news_add N0 N hl1
  replace N := news_add N0 N hx2
  replace N := news_add N0 N he2
  replace N := news_add N0 N hl2
  replace N := news_add N0 N hh
  clear N0
  refine wpAny_call ?_
  k_dflt cell_enter
  k_with_none
  w_top off
  k_with "own call ref" => (k_here; (with_reducible show wpAny _ _ (call (Value.ref 137) _) _ _ _);  k_dflt (refine' con_use ?z46k1 ?z46k2 ?z46k3 ?z46k4 ?z46k5 ?z46k6 (c_named _ _ _ _ _ _ _ _ _ _ _ _ _ _ ?z46a1 ?z46a2) ?z46k7 ?z46k8 ?_; (case z46k1 => k_asm); (case z46k2 => k_asm); (case z46k3 => k_asm); (case z46k4 => k_asm); (case z46k5 => k_asm); (case z46k6 => first | exact rfl | assumption); (case z46a1 => first | (with_reducible assumption) | assumption | k_mem); (case z46a2 => first | (with_reducible assumption) | assumption | k_mem); (case z46k7 => first | exact room_ok hd rfl rfl | ktr_room); (case z46k8 => first | exact room_ok hu rfl rfl | ktr_units)); (try dsimp only); intro  h' tk' F' N';  (try k_sweep); (try k_fold))
  k_with "own call ref" => (k_here; (with_reducible show wpAny _ _ (call (Value.ref 97) _) _ _ _);  k_dflt (refine' con_use ?z47k1 ?z47k2 ?z47k3 ?z47k4 ?z47k5 ?z47k6 (c_bool _ _ _ _ _ _ _ ) ?z47k7 ?z47k8 ?_; (case z47k1 => k_asm); (case z47k2 => k_asm); (case z47k3 => k_asm); (case z47k4 => k_asm); (case z47k5 => k_asm); (case z47k6 => first | exact rfl | assumption);  (case z47k7 => first | exact room_ok hd rfl rfl | ktr_room); (case z47k8 => first | exact room_ok hu rfl rfl | ktr_units)); (try dsimp only); intro  h' tk' F' N';  (try k_sweep); (try k_fold))
  k_steps
  exact fin hret (by first | rfl | simp [*]) (by assumption) (by assumption) (fun p hp => by repeat' (first | exact hp | refine List.Mem.tail _ ?_))

end
section
variable (w : World) (loose : List Str) (mean : ExcName → Option Value) (mg mb : Str → Option Value)

set_option maxHeartbeats 8000000 in
theorem c_sgreater (news : Led) (aa : Addr) (nn : Nat) (x1 d1 l1 : Addr) (ha1 hb1 : Int) (ta1 tb1 : Tok) (na1 nl1 : Nat) (vs1 : List Value) (ns1 : List Int)(x2 d2 l2 : Addr) (ha2 hb2 : Int) (ta2 tb2 : Tok) (na2 nl2 : Nat) (vs2 : List Value) (ns2 : List Int)
    (hh : (aa, listOf #[.ref x1, .ref x2] nn) ∈ news) (hx1 : (x1, instObj 79 d1) ∈ news) (he1 : (d1, dictOf [⟨ha1, .str (Str.ofString "codes") ta1, .ref l1⟩, ⟨hb1, .str (Str.ofString "spans") tb1, .none⟩] na1) ∈ news) (hl1 : (l1, listOf vs1.toArray nl1) ∈ news) (hi1 : IntsAre vs1 ns1)(hx2 : (x2, instObj 79 d2) ∈ news) (he2 : (d2, dictOf [⟨ha2, .str (Str.ofString "codes") ta2, .ref l2⟩, ⟨hb2, .str (Str.ofString "spans") tb2, .none⟩] na2) ∈ news) (hl2 : (l2, listOf vs2.toArray nl2) ∈ news) (hi2 : IntsAre vs2 ns2) :
    Con w loose mean mg mb 179 4 200 [.none, .ref aa] news (fun K => K (tn (ltL ns2 ns1)) news) := by
  unfold Con
  k_fill
  intro dp un gd cn cs a ccd cl outer A₀ base h₀ L m s Q E B F X N T hk hd hu hret
  have N0 := N
  replace N := news_add N0 N hx1
  replace N := news_add N0 N he1
  replace N := news_add N0 N hl1
  replace N := news_add N0 N hx2
  replace N := news_add N0 N he2
  replace N := news_add N0 N hl2
  replace N := news_add N0 N hh
  clear N0
  refine wpAny_call ?_
  k_dflt cell_enter
  k_with_none
  w_top off
  k_with "own call ref" => (k_here; (with_reducible show wpAny _ _ (call (Value.ref 137) _) _ _ _);  k_dflt (refine' con_use ?z48k1 ?z48k2 ?z48k3 ?z48k4 ?z48k5 ?z48k6 (c_named _ _ _ _ _ _ _ _ _ _ _ _ _ _ ?z48a1 ?z48a2) ?z48k7 ?z48k8 ?_; (case z48k1 => k_asm); (case z48k2 => k_asm); (case z48k3 => k_asm); (case z48k4 => k_asm); (case z48k5 => k_asm); (case z48k6 => first | exact rfl | assumption); (case z48a1 => first | (with_reducible assumption) | assumption | k_mem); (case z48a2 => first | (with_reducible assumption) | assumption | k_mem); (case z48k7 => first | exact room_ok hd rfl rfl | ktr_room); (case z48k8 => first | exact room_ok hu rfl rfl | ktr_units)); (try dsimp only); intro  h' tk' F' N';  (try k_sweep); (try k_fold))
  k_with "own call ref" => (k_here; (with_reducible show wpAny _ _ (call (Value.ref 97) _) _ _ _);  k_dflt (refine' con_use ?z49k1 ?z49k2 ?z49k3 ?z49k4 ?z49k5 ?z49k6 (c_bool _ _ _ _ _ _ _ ) ?z49k7 ?z49k8 ?_; (case z49k1 => k_asm); (case z49k2 => k_asm); (case z49k3 => k_asm); (case z49k4 => k_asm); (case z49k5 => k_asm); (case z49k6 => first | exact rfl | assumption);  (case z49k7 => first | exact room_ok hd rfl rfl | ktr_room); (case z49k8 => first | exact room_ok hu rfl rfl | ktr_units)); (try dsimp only); intro  h' tk' F' N';  (try k_sweep); (try k_fold))
  k_steps
  exact fin hret (by first | rfl | simp [*]) (by assumption) (by assumption) (fun p hp => by repeat' (first | exact hp | refine List.Mem.tail _ ?_))

end
section
variable (w : World) (loose : List Str) (mean : ExcName → Option Value) (mg mb : Str → Option Value)

set_option maxHeartbeats 8000000 in
theorem c_edits (news : Led) (l1 : Addr) (nl1 : Nat) (vs1 : List Value) (ns1 : List Int) (l2 : Addr) (nl2 : Nat) (vs2 : List Value) (ns2 : List Int) (hl1 : (l1, listOf vs1.toArray nl1) ∈ news) (hi1 : IntsAre vs1 ns1) (hl2 : (l2, listOf vs2.toArray nl2) ∈ news) (hi2 : IntsAre vs2 ns2) (hz1 : ns1.length ≤ 100) (hz2 : ns2.length ≤ 100) :
    Con w loose mean mg mb 233 4 200 [.ref l1, .ref l2] news (fun K => ∀ t, K (.int (lev ns1 ns2 : Nat) t) news) := by
  have hmul : (ns1.length : Int) * (ns2.length : Int) ≤ 10000 := by have := Nat.mul_le_mul hz1 hz2; exact_mod_cast this
  unfold Con
  k_fill
  intro dp un gd cn cs a ccd cl outer A₀ base h₀ L m s Q E B F X N T hk hd hu hret
  have N0 := N
  replace N := news_add N0 N hl1
  replace N := news_add N0 N hl2
  clear N0
  refine wpAny_call ?_
  k_dflt cell_enter
  k_with_none
  w_top off
  k_with "own exec For Tuple Call cons nil" => (k_here; (rename Fr _ _ _ _ => lF'); (with_unfolding_all refine' For_turns lF' ?_; k_whole))
  k_with "own call type:enumerate" => (k_here; k_extra "Enum")
  k_with "own call type:zip" => (k_here; k_extra "Enum")
  k_with "own EPost" => (dsimp only [EPost])
  k_with "own call type:list" => (k_here; (rename IsRange _ _ _ _ _ _ _ _ => rgX); (with_unfolding_all refine' kll_range ?z54k0 ?z54k1 ?z54k2 ?z54k3 ?z54k4 ?z54k5 ?z54k6 ?_; (case z54k0 => rfl); (case z54k1 => k_asm); (case z54k2 => k_asm); (case z54k3 => exact rgX); (case z54k4 => exact small_one (by omega) (by omega) (by omega) (by omega)); (case z54k5 => exact rangeSize_nat _ _); (case z54k6 => walk_at "omg")); intro D' us' c' h' tk' F' N' l1 hI'; (try k_lt l1); (try k_sweep))
  k_with "own call builtin:min" => (k_here; (with_reducible show wpAny _ _ (call (Value.builtin _) [Value.int _ _, Value.int _ _, Value.int _ _]) _ _ _); k_dflt (refine' min3_N ?z55h ?z55F ?z55N ?_; (case z55h => rfl); (case z55F => k_asm); (case z55N => k_asm); k_whole); intro h' tk' t' F' N')
  k_with "own subscriptTail Name UnaryOp ref int" => (k_here; (with_reducible show wpAny _ _ (subscriptTail _ _ (Value.ref _) (Value.int _ _)) _ _ _); (with_unfolding_all refine' item_list_ints_neg ?z56k1 ?z56k2 ?z56k3 ?z56k4 ?z56k5 ?_; (case z56k1 => is_list); (case z56k2 => with_reducible assumption); (case z56k3 => walk_at "omg"); (case z56k4 => walk_at "omg"); (case z56k5 => walk_at "omg"); k_whole); intro _)
  k_with "own call builtin:list.append" => (k_here; (with_reducible show wpAny _ _ (call (Value.builtin _) [Value.ref _, Value.int _ _]) _ _ _); k_dflt (refine' append_i ?z57F ?z57N ?z57U ?z57i ?z57z ?_; (case z57F => k_asm); (case z57N => k_asm); (case z57U => k_upd); (case z57i => with_reducible assumption); (case z57z => walk_at "omg"); k_whole); intro h' F' N' hI'; (try k_sweep))
  k_with "Enum" => ((have g9 := hp1); (rename Fr _ _ _ _ => lF'); (rename News _ _ _ _ => lN'); with_unfolding_all refine' forEnumH (σ := List Value × Nat) (fun c => c.1) (fun c => c.2) (fun c => []) [Str.ofString "to", Str.ofString "right"] (fun j c => IntsAre c.1 (row ns1 ns2 (i + 1) (j + 1))) (_, _) (by rfl) ?hl10 ?hi10 lF' lN' (by rename _ ∧ _ ∧ _ ∧ _ ∧ _ ∧ AllLt _ _ => hlt9; exact allLt_off hlt9) (by rfl) (by rfl) ?kkq10 ?kpq10 ?turnq10 ?doneq10; (case hl10 => first | (with_reducible assumption) | assumption | k_mem); (case hi10 => with_reducible assumption); (case kkq10 => kst_all); (case kpq10 => exact edit_line hlt); clear lF' lN'; (case' turnq10 => rintro I9 ⟨lw, lm⟩ j T t tn u h tk oe oi hlow hE9 hbo hlt hq1 hT hoe hoi F9 N9; (try dsimp only at hq1); dsimp only at F9 N9; have hr1 := row_length ns1 ns2 i (ns2.length + 1); have hr2 := row_length ns1 ns2 (i + 1) (j + 1)); (case' doneq10 => rintro ⟨lw, lm⟩ u h tk hq1 F9 N9; (try dsimp only at hq1); dsimp only at F9 N9))
  k_with "Enum" => ((rename Fr _ _ _ _ => lF'); (rename News _ _ _ _ => lN'); with_unfolding_all refine' forEnumA (σ := Addr × List Value × Nat) (fun c => c.1) (fun c => c.2.1) (fun c => c.2.2) (fun c => [(Str.ofString "last", .ref c.1)]) [Str.ofString "last", Str.ofString "line", Str.ofString "at", Str.ofString "left", Str.ofString "to", Str.ofString "right"] (fun i c => IntsAre c.2.1 (row ns1 ns2 i (ns2.length + 1))) (_, _, _) (by rfl) ?hl11 ?hi11 lF' lN' (by rfl) (by rfl) (by rfl) ?kkq11 ?kpq11 ?turnq11 ?doneq11; (case hl11 => first | (with_reducible assumption) | assumption | k_mem); (case hi11 => with_reducible assumption); (case kkq11 => kst_all); (case kpq11 => (rw [row_zero ns1 ns2 rfl]; rename IntsAre _ (rangeKs _ _) => hr0; rw [show ((ns2.length : Int) + 1 - 0).toNat = ns2.length + 1 by omega] at hr0; exact hr0)); clear lF' lN'; (case' turnq11 => rintro I9 ⟨la, lv, ln⟩ i T t tn u h tk oe oi hlow hE9 hlt hp1 hT hoe hoi F9 N9; (try dsimp only at hp1); dsimp only at F9 N9); (case' doneq11 => rintro ⟨la, lv, ln⟩ u h tk hp1 F9 N9; (try dsimp only at hp1); dsimp only at F9 N9; have hr9 := row_length ns1 ns2 ns1.length (ns2.length + 1)))
  k_steps
  · exact fin (hret _) (congrArg (Value.int · _) edit_last) (by assumption) (by assumption) (fun p hp => by repeat' (first | exact hp | refine List.Mem.tail _ ?_))
  · exact eEnd (_, _, _) (by assumption) (by assumption) (by kst_in) (by kst_in) (apart2 (.inr (by first | omega | exact (by assumption : _ ∧ _).1)) hlow) (by kst_all) (by intro z h3; simp only [List.contains_cons, List.contains_nil, Bool.or_false, Bool.or_eq_false_iff, beq_eq_false_iff_ne, ne_eq] at h3; first | rfl | (simp [h3]; done) | (simp [h3, kstB]; done)) hq1
  · exact eEnd (_, _) (by assumption) (by assumption) (by kst_in) (by kst_in) (apart2 (.inl hE9) hlow) (by kst_all) (by intro z h3; simp only [List.contains_cons, List.contains_nil, Bool.or_false, Bool.or_eq_false_iff, beq_eq_false_iff_ne, ne_eq] at h3; first | rfl | (simp [h3]; done) | (simp [h3, kstB]; done)) (edit_step (by omega) (by omega) (by assumption) rfl)

end
section
variable (w : World) (loose : List Str) (mean : ExcName → Option Value) (mg mb : Str → Option Value)

set_option maxHeartbeats 8000000 in
theorem c_dist (news : Led) (aa : Addr) (nn : Nat) (x1 d1 l1 : Addr) (ha1 hb1 : Int) (ta1 tb1 : Tok) (na1 nl1 : Nat) (vs1 : List Value) (ns1 : List Int)(x2 d2 l2 : Addr) (ha2 hb2 : Int) (ta2 tb2 : Tok) (na2 nl2 : Nat) (vs2 : List Value) (ns2 : List Int)
    (hh : (aa, listOf #[.ref x1, .ref x2] nn) ∈ news) (hx1 : (x1, instObj 79 d1) ∈ news) (he1 : (d1, dictOf [⟨ha1, .str (Str.ofString "codes") ta1, .ref l1⟩, ⟨hb1, .str (Str.ofString "spans") tb1, .none⟩] na1) ∈ news) (hl1 : (l1, listOf vs1.toArray nl1) ∈ news) (hi1 : IntsAre vs1 ns1)(hx2 : (x2, instObj 79 d2) ∈ news) (he2 : (d2, dictOf [⟨ha2, .str (Str.ofString "codes") ta2, .ref l2⟩, ⟨hb2, .str (Str.ofString "spans") tb2, .none⟩] na2) ∈ news) (hl2 : (l2, listOf vs2.toArray nl2) ∈ news) (hi2 : IntsAre vs2 ns2) (hz1 : ns1.length ≤ 100) (hz2 : ns2.length ≤ 100) :
    Con w loose mean mg mb 240 6 300 [.none, .ref aa] news (fun K => ∀ t, K (.int (lev ns1 ns2 : Nat) t) news) := by
  unfold Con
  k_fill
  intro dp un gd cn cs a ccd cl outer A₀ base h₀ L m s Q E B F X N T hk hd hu hret
  have N0 := N
  replace N := news_add N0 N hx1
  replace N := news_add N0 N he1
  replace N := news_add N0 N hl1
  replace N := news_add N0 N hx2
  replace N := news_add N0 N he2
  replace N := news_add N0 N hl2
  replace N := news_add N0 N hh
  clear N0
  refine wpAny_call ?_
  k_dflt cell_enter
  k_with_none
  w_top off
  k_with "own call ref" => (k_here; (with_reducible show wpAny _ _ (call (Value.ref 130) _) _ _ _);  k_dflt (refine' con_use ?z58k1 ?z58k2 ?z58k3 ?z58k4 ?z58k5 ?z58k6 (c_text _ _ _ _ _ _ _ _ _ ?z58a1 ?z58a2) ?z58k7 ?z58k8 ?_; (case z58k1 => k_asm); (case z58k2 => k_asm); (case z58k3 => k_asm); (case z58k4 => k_asm); (case z58k5 => k_asm); (case z58k6 => first | exact rfl | assumption); (case z58a1 => first | (with_reducible assumption) | assumption | k_mem); (case z58a2 => first | (with_reducible assumption) | assumption | k_mem); (case z58k7 => first | exact room_ok hd rfl rfl | ktr_room); (case z58k8 => first | exact room_ok hu rfl rfl | ktr_units)); (try dsimp only); intro  h' tk' F' N';  (try k_sweep); (try k_fold))
  k_with "own call ref" => (k_here; (with_reducible show wpAny _ _ (call (Value.ref 233) _) _ _ _);  k_dflt (refine' con_use ?z59k1 ?z59k2 ?z59k3 ?z59k4 ?z59k5 ?z59k6 (c_edits _ _ _ _ _ _ _ _ _ _ _ _ _ _ ?z59l1 ?z59i1 ?z59l2 ?z59i2 ?z59z1 ?z59z2) ?z59k7 ?z59k8 ?_; (case z59k1 => k_asm); (case z59k2 => k_asm); (case z59k3 => k_asm); (case z59k4 => k_asm); (case z59k5 => k_asm); (case z59k6 => first | exact rfl | assumption); (case z59l1 => first | (with_reducible assumption) | assumption | k_mem); (case z59i1 => with_reducible assumption); (case z59l2 => first | (with_reducible assumption) | assumption | k_mem); (case z59i2 => with_reducible assumption); (case z59z1 => walk_at "omg"); (case z59z2 => walk_at "omg"); (case z59k7 => first | exact room_ok hd rfl rfl | ktr_room); (case z59k8 => first | exact room_ok hu rfl rfl | ktr_units)); (try dsimp only); intro t' h' tk' F' N';  (try k_sweep); (try k_fold))
  k_steps
  all_goals exact fin (hret _) rfl (by assumption) (by assumption) (fun p hp => by repeat' (first | exact hp | refine List.Mem.tail _ ?_))
end
section
variable (w : World) (loose : List Str) (mean : ExcName → Option Value) (mg mb : Str → Option Value)

set_option maxHeartbeats 8000000 in
theorem c_levr (N : Nat) : ∀ (news : Led) (l1 : Addr) (nl1 : Nat) (vs1 : List Value) (ns1 : List Int) (l2 : Addr) (nl2 : Nat) (vs2 : List Value) (ns2 : List Int) (hl1 : (l1, listOf vs1.toArray nl1) ∈ news) (hi1 : IntsAre vs1 ns1) (hl2 : (l2, listOf vs2.toArray nl2) ∈ news) (hi2 : IntsAre vs2 ns2) (hz : ns1.length + ns2.length < N) (hN : N ≤ 30),
    Con w loose mean mg mb 304 (N + 3) (200 * N + 200) [.ref l1, .ref l2] news (fun K => ∀ t, K (.int (lev ns1 ns2 : Nat) t) news) := by
  induction N with
  | zero => intro _ _ _ _ _ _ _ _ _ _ _ _ _ hz; exact absurd hz (Nat.not_lt_zero _)
  | succ N ih =>
   intro news l1 nl1 vs1 ns1 l2 nl2 vs2 ns2 hl1 hi1 hl2 hi2 hz hN
   unfold Con
   k_fill
   intro dp un gd cn cs a ccd cl outer A₀ base h₀ L m s Q E B F X N T hk hd hu hret
   have N0 := N
   replace N := news_add N0 N hl1
   replace N := news_add N0 N hl2
   clear N0
   refine wpAny_call ?_
   k_dflt cell_enter
   k_with_none
   w_top off
   k_with "own call ref" => k_extra "call ref"
   k_with "call ref" => (k_here; (with_reducible show wpAny _ _ (call (Value.ref 304) _) _ _ _); k_dflt (refine' con_use ?k1 ?k2 ?k3 ?k4 ?k5 ?k6 (ih _ _ _ _ _ _ _ _ _ ?l1 ?i1 ?l2 ?i2 ?z1 ?z2) ?k7 ?k8 ?_; (case k1 => k_asm); (case k2 => k_asm); (case k3 => k_asm); (case k4 => k_asm); (case k5 => k_asm); (case k6 => first | exact rfl | assumption); (case l1 => first | (with_reducible assumption) | assumption | k_mem); (case i1 => with_reducible assumption); (case l2 => first | (with_reducible assumption) | assumption | k_mem); (case i2 => with_reducible assumption); (case z1 => walk_at "omg"); (case z2 => walk_at "omg"); (case k7 => first | exact room_ok hd rfl rfl | ktr_room); (case k8 => first | exact room_ok hu rfl rfl | ktr_units)); (try dsimp only); intro t' h' tk' F' N'; (try k_sweep); (try k_fold))
   k_steps
   all_goals first
     | exact fin (hret _) (congrArg (Value.int · _) (lev_nil (by first | exact .inl (by assumption) | exact .inr (by assumption)))) (by assumption) (by assumption) (fun p hp => by repeat' (first | exact hp | refine List.Mem.tail _ ?_))
     | exact fin (hret _) (congrArg (fun n : Nat => Value.int n _) (lev_eq (by assumption) (by assumption) (by assumption))) (by assumption) (by assumption) (fun p hp => by repeat' (first | exact hp | refine List.Mem.tail _ ?_))
     | exact fin (hret _) (congrArg (Value.int · _) (lev_ne (by assumption) (by assumption) (by assumption) (by assumption) (by assumption))) (by assumption) (by assumption) (fun p hp => by repeat' (first | exact hp | refine List.Mem.tail _ ?_))

end
section
variable (w : World) (loose : List Str) (mean : ExcName → Option Value) (mg mb : Str → Option Value)

set_option maxHeartbeats 8000000 in
theorem c_lev (news : Led) (l1 : Addr) (nl1 : Nat) (vs1 : List Value) (ns1 : List Int) (l2 : Addr) (nl2 : Nat) (vs2 : List Value) (ns2 : List Int) (hl1 : (l1, listOf vs1.toArray nl1) ∈ news) (hi1 : IntsAre vs1 ns1) (hl2 : (l2, listOf vs2.toArray nl2) ∈ news) (hi2 : IntsAre vs2 ns2) (hz : ns1.length + ns2.length < 12) :
    Con w loose mean mg mb 304 15 2600 [.ref l1, .ref l2] news (fun K => ∀ t, K (.int (lev ns1 ns2 : Nat) t) news) := by
  exact c_levr w loose mean mg mb 12 news l1 nl1 vs1 ns1 l2 nl2 vs2 ns2 hl1 hi1 hl2 hi2 hz (by decide)
end
section
variable (w : World) (loose : List Str) (mean : ExcName → Option Value) (mg mb : Str → Option Value)

set_option maxHeartbeats 8000000 in
theorem c_opt7 (news : Led) (aa : Addr) (nn : Nat) (v0 v1 v2 v3 v4 v5 v6 : Value) (t : Tok) (hh : (aa, listOf #[v0, v1, v2, v3, v4, v5, v6] nn) ∈ news) :
    Con w loose mean mg mb 151 2 60 [.ref aa, .int 6 t] news (fun K => K v6 news) := by
  unfold Con
  k_fill
  intro dp un gd cn cs a ccd cl outer A₀ base h₀ L m s Q E B F X N T hk hd hu hret
  have N0 := N
  replace N := news_add N0 N hh
  clear N0
  refine wpAny_call ?_
  k_dflt cell_enter
  k_with_none
  w_top off

  k_steps
  exact fin hret (by first | rfl | simp [*]) (by assumption) (by assumption) (fun p hp => by repeat' (first | exact hp | refine List.Mem.tail _ ?_))

end
section
variable (w : World) (loose : List Str) (mean : ExcName → Option Value) (mg mb : Str → Option Value)

set_option maxHeartbeats 8000000 in
theorem c_clipN (news : Led) (x1 d1 l1 : Addr) (ha1 hb1 : Int) (ta1 tb1 : Tok) (na1 nl1 : Nat) (vs1 : List Value) (ns1 : List Int) (hx1 : (x1, instObj 79 d1) ∈ news) (he1 : (d1, dictOf [⟨ha1, .str (Str.ofString "codes") ta1, .ref l1⟩, ⟨hb1, .str (Str.ofString "spans") tb1, .none⟩] na1) ∈ news) (hl1 : (l1, listOf vs1.toArray nl1) ∈ news) (hi1 : IntsAre vs1 ns1) (hz : ns1.length ≤ 1000) :
    Con w loose mean mg mb 191 4 100 [.ref x1, .ref 57] news (fun K => ∀ t, K (.int ns1.length t) news) := by
  unfold Con
  k_fill
  intro dp un gd cn cs a ccd cl outer A₀ base h₀ L m s Q E B F X N T hk hd hu hret
  have N0 := N
  replace N := news_add N0 N hx1
  replace N := news_add N0 N he1
  replace N := news_add N0 N hl1
  clear N0
  refine wpAny_call ?_
  k_dflt cell_enter
  k_with_none
  w_top off

  k_steps
  exact fin (hret _) rfl (by assumption) (by assumption) (fun p hp => by repeat' (first | exact hp | refine List.Mem.tail _ ?_))

end
section
variable (w : World) (loose : List Str) (mean : ExcName → Option Value) (mg mb : Str → Option Value)

set_option maxHeartbeats 8000000 in
theorem c_clipI (news : Led) (x1 d1 l1 : Addr) (ha1 hb1 : Int) (ta1 tb1 : Tok) (na1 nl1 : Nat) (vs1 : List Value) (ns1 : List Int) (k : Int) (t : Tok) (hx1 : (x1, instObj 79 d1) ∈ news) (he1 : (d1, dictOf [⟨ha1, .str (Str.ofString "codes") ta1, .ref l1⟩, ⟨hb1, .str (Str.ofString "spans") tb1, .none⟩] na1) ∈ news) (hl1 : (l1, listOf vs1.toArray nl1) ∈ news) (hi1 : IntsAre vs1 ns1) (hz : ns1.length ≤ 1000) (hk1 : k ≤ ns1.length) :
    Con w loose mean mg mb 191 4 100 [.ref x1, .int k t] news (fun K => ∀ t, K (.int k t) news) := by
  unfold Con
  k_fill
  intro dp un gd cn cs a ccd cl outer A₀ base h₀ L m s Q E B F X N T hk hd hu hret
  have N0 := N
  replace N := news_add N0 N hx1
  replace N := news_add N0 N he1
  replace N := news_add N0 N hl1
  clear N0
  refine wpAny_call ?_
  k_dflt cell_enter
  k_with_none
  w_top off
  k_with "own call ref" => (k_here; (with_reducible show wpAny _ _ (call (Value.ref 144) _) _ _ _);  k_dflt (refine' con_use ?z61k1 ?z61k2 ?z61k3 ?z61k4 ?z61k5 ?z61k6 (c_whole _ _ _ _ _ _ _ _ ) ?z61k7 ?z61k8 ?_; (case z61k1 => k_asm); (case z61k2 => k_asm); (case z61k3 => k_asm); (case z61k4 => k_asm); (case z61k5 => k_asm); (case z61k6 => first | exact rfl | assumption);  (case z61k7 => first | exact room_ok hd rfl rfl | ktr_room); (case z61k8 => first | exact room_ok hu rfl rfl | ktr_units)); (try dsimp only); intro  h' tk' F' N';  (try k_sweep); (try k_fold))
  k_steps
  exact fin (hret _) (by congr 1; omega) (by assumption) (by assumption) (fun p hp => by repeat' (first | exact hp | refine List.Mem.tail _ ?_))
end
section
variable (w : World) (loose : List Str) (mean : ExcName → Option Value) (mg mb : Str → Option Value)

set_option maxHeartbeats 8000000 in
theorem c_boundsI (news : Led) (x1 d1 l1 : Addr) (ha1 hb1 : Int) (ta1 tb1 : Tok) (na1 nl1 : Nat) (vs1 : List Value) (ns1 : List Int) (a b : Int) (t u : Tok) (hx1 : (x1, instObj 79 d1) ∈ news) (he1 : (d1, dictOf [⟨ha1, .str (Str.ofString "codes") ta1, .ref l1⟩, ⟨hb1, .str (Str.ofString "spans") tb1, .none⟩] na1) ∈ news) (hl1 : (l1, listOf vs1.toArray nl1) ∈ news) (hi1 : IntsAre vs1 ns1) (hz : ns1.length ≤ 1000) (h1 : 0 ≤ a) (h2 : a ≤ b) (h3 : b ≤ ns1.length) :
    Con w loose mean mg mb 158 4 100 [.ref x1, .int a t, .int b u] news (fun K => ∀ r n t u, LCg.Off1 r news → K (.ref r) ((r, { cls := .type "tuple", data := .seq #[.int a t, .int b u] n }) :: news)) := by
  unfold Con
  k_fill
  intro dp un gd cn cs a ccd cl outer A₀ base h₀ L m s Q E B F X N T hk hd hu hret
  have N0 := N
  replace N := news_add N0 N hx1
  replace N := news_add N0 N he1
  replace N := news_add N0 N hl1
  clear N0
  refine wpAny_call ?_
  k_dflt cell_enter
  k_with_none
  w_top off
  k_with "own call ref" => (k_here; (with_reducible show wpAny _ _ (call (Value.ref 144) _) _ _ _);  k_dflt (refine' con_use ?z62k1 ?z62k2 ?z62k3 ?z62k4 ?z62k5 ?z62k6 (c_whole _ _ _ _ _ _ _ _ ) ?z62k7 ?z62k8 ?_; (case z62k1 => k_asm); (case z62k2 => k_asm); (case z62k3 => k_asm); (case z62k4 => k_asm); (case z62k5 => k_asm); (case z62k6 => first | exact rfl | assumption);  (case z62k7 => first | exact room_ok hd rfl rfl | ktr_room); (case z62k8 => first | exact room_ok hu rfl rfl | ktr_units)); (try dsimp only); intro  h' tk' F' N';  (try k_sweep); (try k_fold))
  k_steps
  exact fin (hret _ _ _ _ (by rename _ ∧ _ => hZ; first | exact off1_lt hZ.2 | exact off1_lt hZ.2.2 | exact off1_lt hZ.2.2.2 | exact off1_lt hZ.2.2.2.2 | exact off1_lt hZ.2.2.2.2.2 | exact off1_lt hZ.2.2.2.2.2.2 | exact off1_lt hZ.2.2.2.2.2.2.2 | exact off1_lt hZ.2.2.2.2.2.2.2.2 | exact off1_lt hZ.2.2.2.2.2.2.2.2.2 | exact off1_lt hZ.2.2.2.2.2.2.2.2.2.2 | exact off1_lt hZ.2.2.2.2.2.2.2.2.2.2.2 | exact off1_lt hZ.2.2.2.2.2.2.2.2.2.2.2.2 | exact off1_lt hZ.2.2.2.2.2.2.2.2.2.2.2.2.2 | exact off1_lt hZ.2.2.2.2.2.2.2.2.2.2.2.2.2.2 | exact off1_lt hZ.2.2.2.2.2.2.2.2.2.2.2.2.2.2.2)) rfl (by assumption) (by assumption) (sub_new (fun p hp => by repeat' (first | exact hp | refine List.Mem.tail _ ?_)))
end
section
variable (w : World) (loose : List Str) (mean : ExcName → Option Value) (mg mb : Str → Option Value)

set_option maxHeartbeats 8000000 in
theorem c_boundsN (news : Led) (x1 d1 l1 : Addr) (ha1 hb1 : Int) (ta1 tb1 : Tok) (na1 nl1 : Nat) (vs1 : List Value) (ns1 : List Int) (b : Int) (u : Tok) (hx1 : (x1, instObj 79 d1) ∈ news) (he1 : (d1, dictOf [⟨ha1, .str (Str.ofString "codes") ta1, .ref l1⟩, ⟨hb1, .str (Str.ofString "spans") tb1, .none⟩] na1) ∈ news) (hl1 : (l1, listOf vs1.toArray nl1) ∈ news) (hi1 : IntsAre vs1 ns1) (hz : ns1.length ≤ 1000) (h2 : 0 ≤ b) (h3 : b ≤ ns1.length) :
    Con w loose mean mg mb 158 4 100 [.ref x1, .ref 57, .int b u] news (fun K => ∀ r n t u, LCg.Off1 r news → K (.ref r) ((r, { cls := .type "tuple", data := .seq #[.int 0 t, .int b u] n }) :: news)) := by
  unfold Con
  k_fill
  intro dp un gd cn cs a ccd cl outer A₀ base h₀ L m s Q E B F X N T hk hd hu hret
  have N0 := N
  replace N := news_add N0 N hx1
  replace N := news_add N0 N he1
  replace N := news_add N0 N hl1
  clear N0
  refine wpAny_call ?_
  k_dflt cell_enter
  k_with_none
  w_top off
  k_with "own call ref" => (k_here; (with_reducible show wpAny _ _ (call (Value.ref 144) _) _ _ _);  k_dflt (refine' con_use ?z63k1 ?z63k2 ?z63k3 ?z63k4 ?z63k5 ?z63k6 (c_whole _ _ _ _ _ _ _ _ ) ?z63k7 ?z63k8 ?_; (case z63k1 => k_asm); (case z63k2 => k_asm); (case z63k3 => k_asm); (case z63k4 => k_asm); (case z63k5 => k_asm); (case z63k6 => first | exact rfl | assumption);  (case z63k7 => first | exact room_ok hd rfl rfl | ktr_room); (case z63k8 => first | exact room_ok hu rfl rfl | ktr_units)); (try dsimp only); intro  h' tk' F' N';  (try k_sweep); (try k_fold))
  k_steps
  exact fin (hret _ _ _ _ (by rename _ ∧ _ => hZ; first | exact off1_lt hZ.2 | exact off1_lt hZ.2.2 | exact off1_lt hZ.2.2.2 | exact off1_lt hZ.2.2.2.2 | exact off1_lt hZ.2.2.2.2.2 | exact off1_lt hZ.2.2.2.2.2.2 | exact off1_lt hZ.2.2.2.2.2.2.2 | exact off1_lt hZ.2.2.2.2.2.2.2.2 | exact off1_lt hZ.2.2.2.2.2.2.2.2.2 | exact off1_lt hZ.2.2.2.2.2.2.2.2.2.2 | exact off1_lt hZ.2.2.2.2.2.2.2.2.2.2.2 | exact off1_lt hZ.2.2.2.2.2.2.2.2.2.2.2.2 | exact off1_lt hZ.2.2.2.2.2.2.2.2.2.2.2.2.2 | exact off1_lt hZ.2.2.2.2.2.2.2.2.2.2.2.2.2.2 | exact off1_lt hZ.2.2.2.2.2.2.2.2.2.2.2.2.2.2.2)) rfl (by assumption) (by assumption) (sub_new (fun p hp => by repeat' (first | exact hp | refine List.Mem.tail _ ?_)))
end
section
variable (w : World) (loose : List Str) (mean : ExcName → Option Value) (mg mb : Str → Option Value)

set_option maxHeartbeats 8000000 in
theorem c_compare (news : Led) (aa : Addr) (nn : Nat) (x1 d1 l1 : Addr) (ha1 hb1 : Int) (ta1 tb1 : Tok) (na1 nl1 : Nat) (vs1 : List Value) (ns1 : List Int)(x2 d2 l2 : Addr) (ha2 hb2 : Int) (ta2 tb2 : Tok) (na2 nl2 : Nat) (vs2 : List Value) (ns2 : List Int) (b : Bool) (lw st : Int) (tl tt : Tok) (v6 : Value) (hv : v6 = tn b)
    (hh : (aa, listOf #[.ref x1, .int lw tl, .ref 57, .ref x2, .ref 57, .int st tt, v6] nn) ∈ news) (hx1 : (x1, instObj 79 d1) ∈ news) (he1 : (d1, dictOf [⟨ha1, .str (Str.ofString "codes") ta1, .ref l1⟩, ⟨hb1, .str (Str.ofString "spans") tb1, .none⟩] na1) ∈ news) (hl1 : (l1, listOf vs1.toArray nl1) ∈ news) (hi1 : IntsAre vs1 ns1)(hx2 : (x2, instObj 79 d2) ∈ news) (he2 : (d2, dictOf [⟨ha2, .str (Str.ofString "codes") ta2, .ref l2⟩, ⟨hb2, .str (Str.ofString "spans") tb2, .none⟩] na2) ∈ news) (hl2 : (l2, listOf vs2.toArray nl2) ∈ news) (hi2 : IntsAre vs2 ns2) (hz1 : ns1.length ≤ 1000) (hz2 : ns2.length ≤ 1000) (hc1 : ∀ x ∈ ns1, x < 192) (hc2 : ∀ x ∈ ns2, x < 192) (h1 : 0 ≤ lw) (h2 : lw ≤ ns1.length) (h3 : 0 ≤ st) (h4 : st ≤ ns2.length) :
    Con w loose mean mg mb 198 6 300 [.none, .ref aa] news (fun K => ∀ t, t ≠ 0 → K (cv ((fd b ns1).drop lw.toNat) ((fd b ns2).take st.toNat) t) news) := by
  subst hv
  rw [← fd_from b ns1 lw.toNat, ← fd_upto b ns2 st.toNat]
  generalize hLL : fd b ((ns1.drop lw.toNat).take ((ns1.length : Int).toNat - lw.toNat)) = LL
  generalize hRR : fd b ((ns2.drop (Int.toNat 0)).take (st.toNat - Int.toNat 0)) = RR
  have hLz : LL.length ≤ 1000 := by rw [← hLL, fd_length, List.length_take]; exact Nat.le_trans (Nat.min_le_right _ _) (by rw [List.length_drop]; exact Nat.le_trans (Nat.sub_le _ _) hz1)
  have hRz : RR.length ≤ 1000 := by rw [← hRR, fd_length, List.length_take]; exact Nat.le_trans (Nat.min_le_right _ _) (by rw [List.length_drop]; exact Nat.le_trans (Nat.sub_le _ _) hz2)
  unfold Con
  k_fill
  intro dp un gd cn cs a ccd cl outer A₀ base h₀ L m s Q E B F X N T hk hd hu hret
  have N0 := N
  replace N := news_add N0 N hx1
  replace N := news_add N0 N he1
  replace N := news_add N0 N hl1
  replace N := news_add N0 N hx2
  replace N := news_add N0 N he2
  replace N := news_add N0 N hl2
  replace N := news_add N0 N hh
  clear N0
  refine wpAny_call ?_
  k_dflt cell_enter
  k_with_none
  w_top off
  k_with "own exec While BoolOp cons nil" => k_extra "While"
  k_with "own exec While Compare cons nil" => k_extra "While"
  k_with "own call ref" => (k_here; (with_reducible show wpAny _ _ (call (Value.ref 130) _) _ _ _);  k_dflt (refine' con_use ?z66k1 ?z66k2 ?z66k3 ?z66k4 ?z66k5 ?z66k6 (c_text _ _ _ _ _ _ _ _ _ ?z66a1 ?z66a2) ?z66k7 ?z66k8 ?_; (case z66k1 => k_asm); (case z66k2 => k_asm); (case z66k3 => k_asm); (case z66k4 => k_asm); (case z66k5 => k_asm); (case z66k6 => first | exact rfl | assumption); (case z66a1 => first | (with_reducible assumption) | assumption | k_mem); (case z66a2 => first | (with_reducible assumption) | assumption | k_mem); (case z66k7 => first | exact room_ok hd rfl rfl | ktr_room); (case z66k8 => first | exact room_ok hu rfl rfl | ktr_units)); (try dsimp only); intro  h' tk' F' N';  (try k_sweep); (try k_fold))
  k_with "own call ref" => (k_here; (with_reducible show wpAny _ _ (call (Value.ref 97) _) _ _ _);  k_dflt (refine' con_use ?z67k1 ?z67k2 ?z67k3 ?z67k4 ?z67k5 ?z67k6 (c_bool _ _ _ _ _ _ _ ) ?z67k7 ?z67k8 ?_; (case z67k1 => k_asm); (case z67k2 => k_asm); (case z67k3 => k_asm); (case z67k4 => k_asm); (case z67k5 => k_asm); (case z67k6 => first | exact rfl | assumption);  (case z67k7 => first | exact room_ok hd rfl rfl | ktr_room); (case z67k8 => first | exact room_ok hu rfl rfl | ktr_units)); (try dsimp only); intro  h' tk' F' N';  (try k_sweep); (try k_fold))
  k_with "own call ref" => (k_here; (with_reducible show wpAny _ _ (call (Value.ref 184) _) _ _ _);  k_dflt (refine' con_use ?z68k1 ?z68k2 ?z68k3 ?z68k4 ?z68k5 ?z68k6 (c_foldedB _ _ _ _ _ _ _ _ _ _ _ ?z68a1 ?z68a2 ?z68a3 ?z68a4) ?z68k7 ?z68k8 ?_; (case z68k1 => k_asm); (case z68k2 => k_asm); (case z68k3 => k_asm); (case z68k4 => k_asm); (case z68k5 => k_asm); (case z68k6 => first | exact rfl | assumption); (case z68a1 => first | (with_reducible assumption) | assumption | k_mem); (case z68a2 => with_reducible assumption); (case z68a3 => first | assumption | exact (fun x hx => (by assumption : ∀ x ∈ _, x < (192 : Int)) x (List.mem_of_mem_drop (List.mem_of_mem_take hx)))); (case z68a4 => walk_at "omg"); (case z68k7 => first | exact room_ok hd rfl rfl | ktr_room); (case z68k8 => first | exact room_ok hu rfl rfl | ktr_units)); (try dsimp only); intro r' vs' n' hI' hL' h' tk' F' N';  (try k_sweep); (try k_fold))
  k_with "own call ref" => (k_here; (with_reducible show wpAny _ _ (call (Value.ref 151) _) _ _ _);  k_dflt (refine' con_use ?z69k1 ?z69k2 ?z69k3 ?z69k4 ?z69k5 ?z69k6 (c_opt7 _ _ _ _ _ _ _ _ _ _ _ _ _ _ _ _ ?z69a1) ?z69k7 ?z69k8 ?_; (case z69k1 => k_asm); (case z69k2 => k_asm); (case z69k3 => k_asm); (case z69k4 => k_asm); (case z69k5 => k_asm); (case z69k6 => first | exact rfl | assumption); (case z69a1 => first | (with_reducible assumption) | assumption | k_mem); (case z69k7 => first | exact room_ok hd rfl rfl | ktr_room); (case z69k8 => first | exact room_ok hu rfl rfl | ktr_units)); (try dsimp only); intro  h' tk' F' N';  (try k_sweep); (try k_fold))
  k_with "own call ref" => (k_here; (with_reducible show wpAny _ _ (call (Value.ref 191) _) _ _ _);  k_dflt (refine' con_use ?z70k1 ?z70k2 ?z70k3 ?z70k4 ?z70k5 ?z70k6 (c_clipN _ _ _ _ _ _ _ _ _ _ _ _ _ _ _ _ _ ?z70x1 ?z70d1 ?z70l1 ?z70i1 ?z70z1) ?z70k7 ?z70k8 ?_; (case z70k1 => k_asm); (case z70k2 => k_asm); (case z70k3 => k_asm); (case z70k4 => k_asm); (case z70k5 => k_asm); (case z70k6 => first | exact rfl | assumption); (case z70x1 => first | (with_reducible assumption) | assumption | k_mem); (case z70d1 => first | (with_reducible assumption) | assumption | k_mem); (case z70l1 => first | (with_reducible assumption) | assumption | k_mem); (case z70i1 => with_reducible assumption); (case z70z1 => walk_at "omg"); (case z70k7 => first | exact room_ok hd rfl rfl | ktr_room); (case z70k8 => first | exact room_ok hu rfl rfl | ktr_units)); (try dsimp only); intro t' h' tk' F' N';  (try k_sweep); (try k_fold))
  k_with "own call ref" => (k_here; (with_reducible show wpAny _ _ (call (Value.ref 191) _) _ _ _);  k_dflt (refine' con_use ?z71k1 ?z71k2 ?z71k3 ?z71k4 ?z71k5 ?z71k6 (c_clipI _ _ _ _ _ _ _ _ _ _ _ _ _ _ _ _ _ _ _ ?z71x1 ?z71d1 ?z71l1 ?z71i1 ?z71z1 ?z71z2) ?z71k7 ?z71k8 ?_; (case z71k1 => k_asm); (case z71k2 => k_asm); (case z71k3 => k_asm); (case z71k4 => k_asm); (case z71k5 => k_asm); (case z71k6 => first | exact rfl | assumption); (case z71x1 => first | (with_reducible assumption) | assumption | k_mem); (case z71d1 => first | (with_reducible assumption) | assumption | k_mem); (case z71l1 => first | (with_reducible assumption) | assumption | k_mem); (case z71i1 => with_reducible assumption); (case z71z1 => walk_at "omg"); (case z71z2 => walk_at "omg"); (case z71k7 => first | exact room_ok hd rfl rfl | ktr_room); (case z71k8 => first | exact room_ok hu rfl rfl | ktr_units)); (try dsimp only); intro t' h' tk' F' N';  (try k_sweep); (try k_fold))
  k_with "own call ref" => (k_here; (with_reducible show wpAny _ _ (call (Value.ref 158) _) _ _ _);  k_dflt (refine' con_use ?z72k1 ?z72k2 ?z72k3 ?z72k4 ?z72k5 ?z72k6 (c_boundsI _ _ _ _ _ _ _ _ _ _ _ _ _ _ _ _ _ _ _ _ _ ?z72x1 ?z72d1 ?z72l1 ?z72i1 ?z72z1 ?z72z2 ?z72z3 ?z72z4) ?z72k7 ?z72k8 ?_; (case z72k1 => k_asm); (case z72k2 => k_asm); (case z72k3 => k_asm); (case z72k4 => k_asm); (case z72k5 => k_asm); (case z72k6 => first | exact rfl | assumption); (case z72x1 => first | (with_reducible assumption) | assumption | k_mem); (case z72d1 => first | (with_reducible assumption) | assumption | k_mem); (case z72l1 => first | (with_reducible assumption) | assumption | k_mem); (case z72i1 => with_reducible assumption); (case z72z1 => walk_at "omg"); (case z72z2 => walk_at "omg"); (case z72z3 => walk_at "omg"); (case z72z4 => walk_at "omg"); (case z72k7 => first | exact room_ok hd rfl rfl | ktr_room); (case z72k8 => first | exact room_ok hu rfl rfl | ktr_units)); (try dsimp only); intro r' n' t' u' ho' h' tk' F' N';  (try k_sweep); (try k_fold))
  k_with "own call ref" => (k_here; (with_reducible show wpAny _ _ (call (Value.ref 158) _) _ _ _);  k_dflt (refine' con_use ?z73k1 ?z73k2 ?z73k3 ?z73k4 ?z73k5 ?z73k6 (c_boundsN _ _ _ _ _ _ _ _ _ _ _ _ _ _ _ _ _ _ _ ?z73x1 ?z73d1 ?z73l1 ?z73i1 ?z73z1 ?z73z2 ?z73z3) ?z73k7 ?z73k8 ?_; (case z73k1 => k_asm); (case z73k2 => k_asm); (case z73k3 => k_asm); (case z73k4 => k_asm); (case z73k5 => k_asm); (case z73k6 => first | exact rfl | assumption); (case z73x1 => first | (with_reducible assumption) | assumption | k_mem); (case z73d1 => first | (with_reducible assumption) | assumption | k_mem); (case z73l1 => first | (with_reducible assumption) | assumption | k_mem); (case z73i1 => with_reducible assumption); (case z73z1 => walk_at "omg"); (case z73z2 => walk_at "omg"); (case z73z3 => walk_at "omg"); (case z73k7 => first | exact room_ok hd rfl rfl | ktr_room); (case z73k8 => first | exact room_ok hu rfl rfl | ktr_units)); (try dsimp only); intro r' n' t' u' ho' h' tk' F' N';  (try k_sweep); (try k_fold))
  k_with "While" => ((rw [hLL] at *); (rw [hRR] at *); (try (rename List.length (List.take _ _) = _ => z9; clear z9)); (try (rename List.length (List.take _ _) = _ => z9; clear z9)); (try (rename List.length LL = _ => z9; clear z9)); (try (rename List.length RR = _ => z9; clear z9)); (rename Fr _ _ _ _ => lF'); (rename News _ _ _ _ => lN'); with_unfolding_all refine' whileK (σ := Int × Tok) (fun c => [(Str.ofString "same", .int c.1 c.2)]) [Str.ofString "same"] (fun c => 0 ≤ c.1 ∧ c.1 ≤ LL.length ∧ c.1 ≤ RR.length ∧ LL.take c.1.toNat = RR.take c.1.toNat) (fun c => LL.length - c.1.toNat) (0, _) lF' lN' ?k2q1 ?k3q1 ?_; (case k2q1 => kst_all); (case k3q1 => exact ⟨Int.le_refl _, by dsimp only; omega, by dsimp only; omega, rfl⟩); clear lF' lN'; rintro ⟨k, tk0⟩ u h tk ⟨hp1, hp2, hp3, hp4⟩ F9 N9; (try dsimp only at hp1 hp2 hp3 hp4); dsimp only at F9 N9)
  k_steps
  · have q1 := lt_ite_l (by assumption)
    have q2 := lt_ite_r (by assumption)
    exact wEnd (k + 1, _) (by assumption) (by assumption) (fun p hp => by repeat' (first | exact hp | refine List.Mem.tail _ ?_)) (by kst_all) (by intro z h3; simp only [List.contains_cons, List.contains_nil, Bool.or_false, Bool.or_eq_false_iff, beq_eq_false_iff_ne, ne_eq] at h3; first | rfl | (simp [h3]; done) | (simp [h3, kstB]; done)) ⟨Int.add_nonneg hp1 (by decide), Int.add_one_le_of_lt q1, Int.add_one_le_of_lt q2, take_next hp1 q1 q2 hp4 (by assumption)⟩ (by dsimp only; walk_at "mu")

  · exact fin (hret 1 (by decide)) (cv_same (by assumption)) (by assumption) (by assumption) (fun p hp => by repeat' (first | exact hp | refine List.Mem.tail _ ?_))
  · exact fin (hret _ (Nat.succ_ne_zero _)) (cv_diff (by assumption) (cmp_less hp1 hp2 hp3 hp4 (.inr (by assumption)) (by assumption))) (by assumption) (by assumption) (fun p hp => by repeat' (first | exact hp | refine List.Mem.tail _ ?_))
  · exact fin (hret _ (Nat.succ_ne_zero _)) (cv_diff (by assumption) (cmp_more hp1 hp2 hp3 hp4 (.inr (by assumption)) (by assumption))) (by assumption) (by assumption) (fun p hp => by repeat' (first | exact hp | refine List.Mem.tail _ ?_))
  · exact fin (hret 1 (by decide)) (cv_same (by assumption)) (by assumption) (by assumption) (fun p hp => by repeat' (first | exact hp | refine List.Mem.tail _ ?_))
  · exact fin (hret _ (Nat.succ_ne_zero _)) (cv_diff (by assumption) (cmp_less hp1 hp2 hp3 hp4 (.inl (not_lt_min (by assumption))) (by assumption))) (by assumption) (by assumption) (fun p hp => by repeat' (first | exact hp | refine List.Mem.tail _ ?_))
  · exact fin (hret _ (Nat.succ_ne_zero _)) (cv_diff (by assumption) (cmp_more hp1 hp2 hp3 hp4 (.inl (not_lt_min (by assumption))) (by assumption))) (by assumption) (by assumption) (fun p hp => by repeat' (first | exact hp | refine List.Mem.tail _ ?_))

end
section
variable (w : World) (loose : List Str) (mean : ExcName → Option Value) (mg mb : Str → Option Value)

set_option maxHeartbeats 8000000 in
theorem c_lcomp (news : Led) (l1 : Addr) (nl1 : Nat) (vs1 : List Value) (ns1 : List Int) (l2 : Addr) (nl2 : Nat) (vs2 : List Value) (ns2 : List Int) (hl1 : (l1, listOf vs1.toArray nl1) ∈ news) (hi1 : IntsAre vs1 ns1) (hl2 : (l2, listOf vs2.toArray nl2) ∈ news) (hi2 : IntsAre vs2 ns2) (hz1 : ns1.length ≤ 1000) (hz2 : ns2.length ≤ 1000) :
    Con w loose mean mg mb 311 4 200 [.ref l1, .ref l2] news (fun K => ∀ t, t ≠ 0 → K (cv ns1 ns2 t) news) := by
  unfold Con
  k_fill
  intro dp un gd cn cs a ccd cl outer A₀ base h₀ L m s Q E B F X N T hk hd hu hret
  have N0 := N
  replace N := news_add N0 N hl1
  replace N := news_add N0 N hl2
  clear N0
  refine wpAny_call ?_
  k_dflt cell_enter
  k_with_none
  w_top off
  k_with "own exec While BoolOp cons nil" => k_extra "While"
  k_with "own exec While Compare cons nil" => k_extra "While"
  k_with "While" => ((rename Fr _ _ _ _ => lF'); (rename News _ _ _ _ => lN'); with_unfolding_all refine' whileK (σ := Int × Tok) (fun c => [(Str.ofString "same", .int c.1 c.2)]) [Str.ofString "same"] (fun c => 0 ≤ c.1 ∧ c.1 ≤ ns1.length ∧ c.1 ≤ ns2.length ∧ ns1.take c.1.toNat = ns2.take c.1.toNat) (fun c => ns1.length - c.1.toNat) (0, _) lF' lN' ?k2q5 ?k3q5 ?_; (case k2q5 => kst_all); (case k3q5 => exact ⟨Int.le_refl _, by dsimp only; omega, by dsimp only; omega, rfl⟩); clear lF' lN'; rintro ⟨k, tk0⟩ u h tk ⟨hp1, hp2, hp3, hp4⟩ F9 N9; (try dsimp only at hp1 hp2 hp3 hp4); dsimp only at F9 N9)
  k_steps
  · exact wEnd (k + 1, _) (by assumption) (by assumption) (fun p hp => by repeat' (first | exact hp | refine List.Mem.tail _ ?_)) (by kst_all) (by intro z h3; simp only [List.contains_cons, List.contains_nil, Bool.or_false, Bool.or_eq_false_iff, beq_eq_false_iff_ne, ne_eq] at h3; first | rfl | (simp [h3]; done) | (simp [h3, kstB]; done)) ⟨by dsimp only; omega, by dsimp only; omega, by dsimp only; omega, take_next hp1 (by omega) (by omega) hp4 (by assumption)⟩ (by dsimp only; walk_at "mu")
  all_goals first
    | exact fin (hret 1 (by decide)) (cv_same (by assumption)) (by assumption) (by assumption) (fun p hp => by repeat' (first | exact hp | refine List.Mem.tail _ ?_))
    | exact fin (hret _ (Nat.succ_ne_zero _)) (cv_diff (by assumption) (lc_less hp1 hp2 hp3 hp4 (by first | exact .inr (by assumption) | exact .inl (by omega)) (by assumption))) (by assumption) (by assumption) (fun p hp => by repeat' (first | exact hp | refine List.Mem.tail _ ?_))
    | exact fin (hret _ (Nat.succ_ne_zero _)) (cv_diff (by assumption) (lc_more hp1 hp2 hp3 hp4 (by first | exact .inr (by assumption) | exact .inl (by omega)) (by assumption))) (by assumption) (by assumption) (fun p hp => by repeat' (first | exact hp | refine List.Mem.tail _ ?_))

end
section
variable (w : World) (loose : List Str) (mean : ExcName → Option Value) (mg mb : Str → Option Value)

set_option maxHeartbeats 8000000 in
theorem c_truth (news : Led) (b : Bool) :
    Con w loose mean mg mb 330 2 20 [tn b] news (fun K => K (.bool b) news) := by
  unfold Con
  k_fill
  intro dp un gd cn cs a ccd cl outer A₀ base h₀ L m s Q E B F X N T hk hd hu hret
  cases b
  all_goals
   refine wpAny_call ?_
   k_dflt cell_enter
   k_with_none
   w_top off

   k_steps
   exact fin hret (by first | rfl | simp [*]) (by assumption) (by assumption) (fun p hp => by repeat' (first | exact hp | refine List.Mem.tail _ ?_))

end
section
variable (w : World) (loose : List Str) (mean : ExcName → Option Value) (mg mb : Str → Option Value)

set_option maxHeartbeats 8000000 in
theorem c_ispair (rest : Led) (dk : Addr) (n : Nat) (vs : List Value) (ns : List Int) (l1 : Addr) (nl1 : Nat) (vs1 : List Value) (ns1 : List Int) (l2 : Addr) (nl2 : Nat) (vs2 : List Value) (ns2 : List Int) (hi : IntsAre vs ns) (hp : ∀ x ∈ ns, 0 ≤ x) (hz : ns.length ≤ 1000) (hl1 : (l1, listOf vs1.toArray nl1) ∈ rest) (hi1 : IntsAre vs1 ns1) (hl2 : (l2, listOf vs2.toArray nl2) ∈ rest) (hi2 : IntsAre vs2 ns2) (hz1 : ns1.length ≤ 4) (hz2 : ns2.length ≤ 6) (hc1 : ∀ x ∈ ns1, x < 192) (hc2 : ∀ x ∈ ns2, x < 192) (hoff : ∀ p ∈ rest, p.1 ≠ dk) :
    Con w loose mean mg mb 335 30 4000 [.ref dk, .ref l1, .ref l2] ((dk, listOf vs.toArray n) :: rest) (fun K => ∀ vs' ns' n', IntsAre vs' ns' → (∀ x ∈ ns', 0 ≤ x) → ns'.length ≤ ns.length → K (.bool true) ((dk, listOf vs'.toArray n') :: rest)) := by
  unfold Con
  k_fill
  intro dp un gd cn cs a ccd cl outer A₀ base h₀ L m s Q E B F X N T hk hd hu hret
  have N0 := N
  replace N := news_add N0 N (.tail _ hl1)
  replace N := news_add N0 N (.tail _ hl2)
  clear N0
  have hm1 : (ns1.map low).length = ns1.length := List.length_map ..
  have hm2 : (ns2.map low).length = ns2.length := List.length_map ..
  have hne1 : @Ne Nat l1 dk := hoff _ hl1
  have hne2 : @Ne Nat l2 dk := hoff _ hl2
  refine wpAny_call ?_
  k_dflt cell_enter
  k_with_none
  w_top off
  k_with "own eval ListComp" => (k_here; k_dflt (refine LCg.ListComp_U (F₀ := by k_asm) (by with_unfolding_all rfl) (by decide) (by rfl) (by decide) (by rfl) ?_))
  k_with "own CompSrc" => (k_here; k_extra "Comp")
  k_with "own compareOp IsNot" => (k_here; (with_reducible show wpAny _ _ (compareOp CmpOp.IsNot (sv _ _) (sv _ _)) _ _ _); k_dflt (refine' isNot_sv ?z78k1 ?z78k2 ?z78k3 ?_; (case z78k1 => walk_at "omg"); (case z78k2 => assumption); (case z78k3 => assumption); k_whole))
  k_with "own compareOp Is" => (k_here; (with_reducible show wpAny _ _ (compareOp CmpOp.Is (cv _ _ _) (cv _ _ _)) _ _ _); k_dflt (refine' is_cv ?z79k1 ?z79k2 ?z79k3 ?_; (case z79k1 => simp only [List.length_drop, List.length_map]; omega); (case z79k2 => assumption); (case z79k3 => assumption); k_whole))
  k_with "own eval IfExp" => (k_here; (fail_if_success (with_reducible rename JMark => jm8)); k_extra "If")
  k_with "own eval BoolOp" => (k_here; (fail_if_success (with_reducible rename JMark => jm8)); k_extra "Or")
  k_with "own binaryOp Add ref ref" => (k_here; (with_reducible show wpAny _ _ (binaryOp _ (Value.ref _) (Value.ref _)) _ _ _); k_dflt (refine' add_flags ?z82F ?z82N ?z82b ?z82a ?_; (case z82F => k_asm); (case z82N => k_asm); (case z82b => k_mem); (case z82a => k_mem); k_whole); intro D' h' F' N' l1; (try k_lt l1); (try k_sweep))
  k_with "own compareOp NotEq ref ref" => (k_here; k_extra "Bools")
  k_with "own eval Name" => (k_here; (with_reducible show wpAny _ _ (eval (PySem.Expr.Name _ _) (compEnvC _ _ _ _)) _ _ _); k_dflt (first
    | refine LCgL.ld_own (by k_asm) (by k_mem) (by assumption) (by assumption) ?_
    | refine LCgL.ld_global (by k_asm) (by k_asm) (by k_asm) (by k_is) ?_))
  k_with "own call ref" => (k_here; (with_reducible show wpAny _ _ (call (Value.ref 79) _) _ _ _);  k_dflt (refine' con_use ?z85k1 ?z85k2 ?z85k3 ?z85k4 ?z85k5 ?z85k6 (c_mktext _ _ _ _ _ _ _ ) ?z85k7 ?z85k8 ?_; (case z85k1 => k_asm); (case z85k2 => k_asm); (case z85k3 => k_asm); (case z85k4 => k_asm); (case z85k5 => k_asm); (case z85k6 => first | exact rfl | assumption);  (case z85k7 => first | exact room_ok hd rfl rfl | ktr_room); (case z85k8 => first | exact room_ok hu rfl rfl | ktr_units)); (try dsimp only); intro x' d' l1 l2 ha' hb' ta' tb' h' tk' F' N'; (try k_lt l1); (try k_lt2 l2); (try k_sweep); (try k_fold))
  k_with "own call ref" => (k_here; (with_reducible show wpAny _ _ (call (Value.ref 280) _) _ _ _);  k_dflt (refine' con_use ?z86k1 ?z86k2 ?z86k3 ?z86k4 ?z86k5 ?z86k6 (c_draw _ _ _ _ _ _ _ _ _ _ _ _ _ ?z86u1 ?z86i1 ?z86p1 ?z86z1 ?z86z2 ?z86z3) ?z86k7 ?z86k8 ?_; (case z86k1 => k_asm); (case z86k2 => k_asm); (case z86k3 => k_asm); (case z86k4 => k_asm); (case z86k5 => k_asm); (case z86k6 => first | exact rfl | assumption); (case z86u1 => k_updF); (case z86i1 => with_reducible assumption); (case z86p1 => assumption); (case z86z1 => walk_at "omg"); (case z86z2 => walk_at "omg"); (case z86z3 => walk_at "omg"); (case z86k7 => first | exact room_ok hd rfl rfl | ktr_room); (case z86k8 => first | exact room_ok hu rfl rfl | ktr_units)); (try dsimp only); intro k' t' vs' ns' n' ht' hI' hP' hL' hk0' hk1' h' tk' F' N';  (try k_sweep); (try k_fold))
  k_with "own call ref" => (k_here; (with_reducible show wpAny _ _ (call (Value.ref 290) _) _ _ _);  k_dflt (refine' con_use ?z87k1 ?z87k2 ?z87k3 ?z87k4 ?z87k5 ?z87k6 (c_small _ _ _ _ _ _ _ _ _ _ ?z87l1 ?z87i1 ?z87z1) ?z87k7 ?z87k8 ?_; (case z87k1 => k_asm); (case z87k2 => k_asm); (case z87k3 => k_asm); (case z87k4 => k_asm); (case z87k5 => k_asm); (case z87k6 => first | exact rfl | assumption); (case z87l1 => first | (with_reducible assumption) | assumption | k_mem); (case z87i1 => with_reducible assumption); (case z87z1 => walk_at "omg"); (case z87k7 => first | exact room_ok hd rfl rfl | ktr_room); (case z87k8 => first | exact room_ok hu rfl rfl | ktr_units)); (try dsimp only); intro r' vs' n' ho' hI' h' tk' F' N'; (try simp only [LCg.Off1, and_true] at ho'); (try k_sweep); (try k_fold))
  k_with "own call ref" => (k_here; (with_reducible show wpAny _ _ (call (Value.ref 226) _) _ _ _);  k_dflt (refine' con_use ?z88k1 ?z88k2 ?z88k3 ?z88k4 ?z88k5 ?z88k6 (c_search _ _ _ _ _ _ _ _ _ _ _ _ _ _ _ _ _ _ _ _ _ _ _ _ _ _ _ _ _ _ _ _ ?z88a1 ?z88x1 ?z88d1 ?z88l1 ?z88i1 ?z88x2 ?z88d2 ?z88l2 ?z88i2 ?z88z1 ?z88z2 ?z88z3 ?z88z4 ?z88z5) ?z88k7 ?z88k8 ?_; (case z88k1 => k_asm); (case z88k2 => k_asm); (case z88k3 => k_asm); (case z88k4 => k_asm); (case z88k5 => k_asm); (case z88k6 => first | exact rfl | assumption); (case z88a1 => first | (with_reducible assumption) | assumption | k_mem); (case z88x1 => first | (with_reducible assumption) | assumption | k_mem); (case z88d1 => first | (with_reducible assumption) | assumption | k_mem); (case z88l1 => first | (with_reducible assumption) | assumption | k_mem); (case z88i1 => with_reducible assumption); (case z88x2 => first | (with_reducible assumption) | assumption | k_mem); (case z88d2 => first | (with_reducible assumption) | assumption | k_mem); (case z88l2 => first | (with_reducible assumption) | assumption | k_mem); (case z88i2 => with_reducible assumption); (case z88z1 => walk_at "omg"); (case z88z2 => walk_at "omg"); (case z88z3 => walk_at "omg"); (case z88z4 => walk_at "omg"); (case z88z5 => assumption); (case z88k7 => first | exact room_ok hd rfl rfl | ktr_room); (case z88k8 => first | exact room_ok hu rfl rfl | ktr_units)); (try dsimp only); intro t' ht' h' tk' F' N'; (try (replace N' := news_tail N')); (try k_sweep); (try k_fold))
  k_with "own call ref" => (k_here; (with_reducible show wpAny _ _ (call (Value.ref 297) _) _ _ _);  k_dflt (refine' con_use ?z89k1 ?z89k2 ?z89k3 ?z89k4 ?z89k5 ?z89k6 (c_first _ _ _ _ _ _ _ _ _ _ _ _ _ _ _ _ ?z89l1 ?z89i1 ?z89l2 ?z89i2 ?z89z1 ?z89z2 ?z89z3 ?z89z4) ?z89k7 ?z89k8 ?_; (case z89k1 => k_asm); (case z89k2 => k_asm); (case z89k3 => k_asm); (case z89k4 => k_asm); (case z89k5 => k_asm); (case z89k6 => first | exact rfl | assumption); (case z89l1 => first | (with_reducible assumption) | assumption | k_mem); (case z89i1 => with_reducible assumption); (case z89l2 => first | (with_reducible assumption) | assumption | k_mem); (case z89i2 => with_reducible assumption); (case z89z1 => walk_at "omg"); (case z89z2 => walk_at "omg"); (case z89z3 => walk_at "omg"); (case z89z4 => walk_at "omg"); (case z89k7 => first | exact room_ok hd rfl rfl | ktr_room); (case z89k8 => first | exact room_ok hu rfl rfl | ktr_units)); (try dsimp only); intro t' ht' h' tk' F' N';  (try k_sweep); (try k_fold))
  k_with "own call ref" => (k_here; (with_reducible show wpAny _ _ (call (Value.ref 205) _) _ _ _);  k_dflt (refine' con_use ?z90k1 ?z90k2 ?z90k3 ?z90k4 ?z90k5 ?z90k6 (c_pref _ _ _ _ _ _ _ _ _ _ _ _ _ _ _ _ _ _ _ _ _ _ _ _ _ _ _ _ _ _ _ ?z90a1 ?z90x1 ?z90d1 ?z90l1 ?z90i1 ?z90x2 ?z90d2 ?z90l2 ?z90i2 ?z90z1 ?z90z2 ?z90z3 ?z90z4) ?z90k7 ?z90k8 ?_; (case z90k1 => k_asm); (case z90k2 => k_asm); (case z90k3 => k_asm); (case z90k4 => k_asm); (case z90k5 => k_asm); (case z90k6 => first | exact rfl | assumption); (case z90a1 => first | (with_reducible assumption) | assumption | k_mem); (case z90x1 => first | (with_reducible assumption) | assumption | k_mem); (case z90d1 => first | (with_reducible assumption) | assumption | k_mem); (case z90l1 => first | (with_reducible assumption) | assumption | k_mem); (case z90i1 => with_reducible assumption); (case z90x2 => first | (with_reducible assumption) | assumption | k_mem); (case z90d2 => first | (with_reducible assumption) | assumption | k_mem); (case z90l2 => first | (with_reducible assumption) | assumption | k_mem); (case z90i2 => with_reducible assumption); (case z90z1 => walk_at "omg"); (case z90z2 => walk_at "omg"); (case z90z3 => assumption); (case z90z4 => assumption); (case z90k7 => first | exact room_ok hd rfl rfl | ktr_room); (case z90k8 => first | exact room_ok hu rfl rfl | ktr_units)); (try dsimp only); intro  h' tk' F' N'; (try (replace N' := news_tail (news_tail N'))); (try k_sweep); (try k_fold))
  k_with "own call ref" => (k_here; (with_reducible show wpAny _ _ (call (Value.ref 212) _) _ _ _);  k_dflt (refine' con_use ?z91k1 ?z91k2 ?z91k3 ?z91k4 ?z91k5 ?z91k6 (c_suff _ _ _ _ _ _ _ _ _ _ _ _ _ _ _ _ _ _ _ _ _ _ _ _ _ _ _ _ _ _ _ ?z91a1 ?z91x1 ?z91d1 ?z91l1 ?z91i1 ?z91x2 ?z91d2 ?z91l2 ?z91i2 ?z91z1 ?z91z2 ?z91z3 ?z91z4) ?z91k7 ?z91k8 ?_; (case z91k1 => k_asm); (case z91k2 => k_asm); (case z91k3 => k_asm); (case z91k4 => k_asm); (case z91k5 => k_asm); (case z91k6 => first | exact rfl | assumption); (case z91a1 => first | (with_reducible assumption) | assumption | k_mem); (case z91x1 => first | (with_reducible assumption) | assumption | k_mem); (case z91d1 => first | (with_reducible assumption) | assumption | k_mem); (case z91l1 => first | (with_reducible assumption) | assumption | k_mem); (case z91i1 => with_reducible assumption); (case z91x2 => first | (with_reducible assumption) | assumption | k_mem); (case z91d2 => first | (with_reducible assumption) | assumption | k_mem); (case z91l2 => first | (with_reducible assumption) | assumption | k_mem); (case z91i2 => with_reducible assumption); (case z91z1 => walk_at "omg"); (case z91z2 => walk_at "omg"); (case z91z3 => assumption); (case z91z4 => assumption); (case z91k7 => first | exact room_ok hd rfl rfl | ktr_room); (case z91k8 => first | exact room_ok hu rfl rfl | ktr_units)); (try dsimp only); intro  h' tk' F' N'; (try (replace N' := news_tail (news_tail N'))); (try k_sweep); (try k_fold))
  k_with "own call ref" => (k_here; (with_reducible show wpAny _ _ (call (Value.ref 165) _) _ _ _);  k_dflt (refine' con_use ?z92k1 ?z92k2 ?z92k3 ?z92k4 ?z92k5 ?z92k6 (c_sequal _ _ _ _ _ _ _ _ _ _ _ _ _ _ _ _ _ _ _ _ _ _ _ _ _ _ _ _ _ _ ?z92a1 ?z92x1 ?z92d1 ?z92l1 ?z92i1 ?z92x2 ?z92d2 ?z92l2 ?z92i2) ?z92k7 ?z92k8 ?_; (case z92k1 => k_asm); (case z92k2 => k_asm); (case z92k3 => k_asm); (case z92k4 => k_asm); (case z92k5 => k_asm); (case z92k6 => first | exact rfl | assumption); (case z92a1 => first | (with_reducible assumption) | assumption | k_mem); (case z92x1 => first | (with_reducible assumption) | assumption | k_mem); (case z92d1 => first | (with_reducible assumption) | assumption | k_mem); (case z92l1 => first | (with_reducible assumption) | assumption | k_mem); (case z92i1 => with_reducible assumption); (case z92x2 => first | (with_reducible assumption) | assumption | k_mem); (case z92d2 => first | (with_reducible assumption) | assumption | k_mem); (case z92l2 => first | (with_reducible assumption) | assumption | k_mem); (case z92i2 => with_reducible assumption); (case z92k7 => first | exact room_ok hd rfl rfl | ktr_room); (case z92k8 => first | exact room_ok hu rfl rfl | ktr_units)); (try dsimp only); intro  h' tk' F' N'; (try (replace N' := news_tail N')); (try k_sweep); (try k_fold))
  k_with "own call ref" => (k_here; (with_reducible show wpAny _ _ (call (Value.ref 172) _) _ _ _);  k_dflt (refine' con_use ?z93k1 ?z93k2 ?z93k3 ?z93k4 ?z93k5 ?z93k6 (c_sless _ _ _ _ _ _ _ _ _ _ _ _ _ _ _ _ _ _ _ _ _ _ _ _ _ _ _ _ _ _ ?z93a1 ?z93x1 ?z93d1 ?z93l1 ?z93i1 ?z93x2 ?z93d2 ?z93l2 ?z93i2) ?z93k7 ?z93k8 ?_; (case z93k1 => k_asm); (case z93k2 => k_asm); (case z93k3 => k_asm); (case z93k4 => k_asm); (case z93k5 => k_asm); (case z93k6 => first | exact rfl | assumption); (case z93a1 => first | (with_reducible assumption) | assumption | k_mem); (case z93x1 => first | (with_reducible assumption) | assumption | k_mem); (case z93d1 => first | (with_reducible assumption) | assumption | k_mem); (case z93l1 => first | (with_reducible assumption) | assumption | k_mem); (case z93i1 => with_reducible assumption); (case z93x2 => first | (with_reducible assumption) | assumption | k_mem); (case z93d2 => first | (with_reducible assumption) | assumption | k_mem); (case z93l2 => first | (with_reducible assumption) | assumption | k_mem); (case z93i2 => with_reducible assumption); (case z93k7 => first | exact room_ok hd rfl rfl | ktr_room); (case z93k8 => first | exact room_ok hu rfl rfl | ktr_units)); (try dsimp only); intro  h' tk' F' N'; (try (replace N' := news_tail N')); (try k_sweep); (try k_fold))
  k_with "own call ref" => (k_here; (with_reducible show wpAny _ _ (call (Value.ref 179) _) _ _ _);  k_dflt (refine' con_use ?z94k1 ?z94k2 ?z94k3 ?z94k4 ?z94k5 ?z94k6 (c_sgreater _ _ _ _ _ _ _ _ _ _ _ _ _ _ _ _ _ _ _ _ _ _ _ _ _ _ _ _ _ _ ?z94a1 ?z94x1 ?z94d1 ?z94l1 ?z94i1 ?z94x2 ?z94d2 ?z94l2 ?z94i2) ?z94k7 ?z94k8 ?_; (case z94k1 => k_asm); (case z94k2 => k_asm); (case z94k3 => k_asm); (case z94k4 => k_asm); (case z94k5 => k_asm); (case z94k6 => first | exact rfl | assumption); (case z94a1 => first | (with_reducible assumption) | assumption | k_mem); (case z94x1 => first | (with_reducible assumption) | assumption | k_mem); (case z94d1 => first | (with_reducible assumption) | assumption | k_mem); (case z94l1 => first | (with_reducible assumption) | assumption | k_mem); (case z94i1 => with_reducible assumption); (case z94x2 => first | (with_reducible assumption) | assumption | k_mem); (case z94d2 => first | (with_reducible assumption) | assumption | k_mem); (case z94l2 => first | (with_reducible assumption) | assumption | k_mem); (case z94i2 => with_reducible assumption); (case z94k7 => first | exact room_ok hd rfl rfl | ktr_room); (case z94k8 => first | exact room_ok hu rfl rfl | ktr_units)); (try dsimp only); intro  h' tk' F' N'; (try (replace N' := news_tail N')); (try k_sweep); (try k_fold))
  k_with "own call ref" => (k_here; (with_reducible show wpAny _ _ (call (Value.ref 240) _) _ _ _);  k_dflt (refine' con_use ?z95k1 ?z95k2 ?z95k3 ?z95k4 ?z95k5 ?z95k6 (c_dist _ _ _ _ _ _ _ _ _ _ _ _ _ _ _ _ _ _ _ _ _ _ _ _ _ _ _ _ _ _ ?z95a1 ?z95x1 ?z95d1 ?z95l1 ?z95i1 ?z95x2 ?z95d2 ?z95l2 ?z95i2 ?z95z1 ?z95z2) ?z95k7 ?z95k8 ?_; (case z95k1 => k_asm); (case z95k2 => k_asm); (case z95k3 => k_asm); (case z95k4 => k_asm); (case z95k5 => k_asm); (case z95k6 => first | exact rfl | assumption); (case z95a1 => first | (with_reducible assumption) | assumption | k_mem); (case z95x1 => first | (with_reducible assumption) | assumption | k_mem); (case z95d1 => first | (with_reducible assumption) | assumption | k_mem); (case z95l1 => first | (with_reducible assumption) | assumption | k_mem); (case z95i1 => with_reducible assumption); (case z95x2 => first | (with_reducible assumption) | assumption | k_mem); (case z95d2 => first | (with_reducible assumption) | assumption | k_mem); (case z95l2 => first | (with_reducible assumption) | assumption | k_mem); (case z95i2 => with_reducible assumption); (case z95z1 => walk_at "omg"); (case z95z2 => walk_at "omg"); (case z95k7 => first | exact room_ok hd rfl rfl | ktr_room); (case z95k8 => first | exact room_ok hu rfl rfl | ktr_units)); (try dsimp only); intro t' h' tk' F' N'; (try (replace N' := news_tail N')); (try k_sweep); (try k_fold))
  k_with "own call ref" => (k_here; (with_reducible show wpAny _ _ (call (Value.ref 304) _) _ _ _);  k_dflt (refine' con_use ?z96k1 ?z96k2 ?z96k3 ?z96k4 ?z96k5 ?z96k6 (c_lev _ _ _ _ _ _ _ _ _ _ _ _ _ _ ?z96l1 ?z96i1 ?z96l2 ?z96i2 ?z96z1) ?z96k7 ?z96k8 ?_; (case z96k1 => k_asm); (case z96k2 => k_asm); (case z96k3 => k_asm); (case z96k4 => k_asm); (case z96k5 => k_asm); (case z96k6 => first | exact rfl | assumption); (case z96l1 => first | (with_reducible assumption) | assumption | k_mem); (case z96i1 => with_reducible assumption); (case z96l2 => first | (with_reducible assumption) | assumption | k_mem); (case z96i2 => with_reducible assumption); (case z96z1 => walk_at "omg"); (case z96k7 => first | exact room_ok hd rfl rfl | ktr_room); (case z96k8 => first | exact room_ok hu rfl rfl | ktr_units)); (try dsimp only); intro t' h' tk' F' N';  (try k_sweep); (try k_fold))
  k_with "own call ref" => (k_here; (with_reducible show wpAny _ _ (call (Value.ref 198) _) _ _ _);  k_dflt (refine' con_use ?z97k1 ?z97k2 ?z97k3 ?z97k4 ?z97k5 ?z97k6 (c_compare _ _ _ _ _ _ _ _ _ _ _ _ _ _ _ _ _ _ _ _ _ _ _ _ _ _ _ _ _ _ _ _ _ _ _ _ ?z97v ?z97a1 ?z97x1 ?z97d1 ?z97l1 ?z97i1 ?z97x2 ?z97d2 ?z97l2 ?z97i2 ?z97z1 ?z97z2 ?z97z3 ?z97z4 ?z97z5 ?z97z6 ?z97z7 ?z97z8) ?z97k7 ?z97k8 ?_; (case z97k1 => k_asm); (case z97k2 => k_asm); (case z97k3 => k_asm); (case z97k4 => k_asm); (case z97k5 => k_asm); (case z97k6 => first | exact rfl | assumption); (case z97v => exact rfl); (case z97a1 => first | (with_reducible assumption) | assumption | k_mem); (case z97x1 => first | (with_reducible assumption) | assumption | k_mem); (case z97d1 => first | (with_reducible assumption) | assumption | k_mem); (case z97l1 => first | (with_reducible assumption) | assumption | k_mem); (case z97i1 => with_reducible assumption); (case z97x2 => first | (with_reducible assumption) | assumption | k_mem); (case z97d2 => first | (with_reducible assumption) | assumption | k_mem); (case z97l2 => first | (with_reducible assumption) | assumption | k_mem); (case z97i2 => with_reducible assumption); (case z97z1 => walk_at "omg"); (case z97z2 => walk_at "omg"); (case z97z3 => assumption); (case z97z4 => assumption); (case z97z5 => walk_at "omg"); (case z97z6 => walk_at "omg"); (case z97z7 => walk_at "omg"); (case z97z8 => walk_at "omg"); (case z97k7 => first | exact room_ok hd rfl rfl | ktr_room); (case z97k8 => first | exact room_ok hu rfl rfl | ktr_units)); (try dsimp only); intro t' ht' h' tk' F' N'; (try (replace N' := news_tail N')); (try k_sweep); (try k_fold))
  k_with "own call ref" => (k_here; (with_reducible show wpAny _ _ (call (Value.ref 311) _) _ _ _);  k_dflt (refine' con_use ?z98k1 ?z98k2 ?z98k3 ?z98k4 ?z98k5 ?z98k6 (c_lcomp _ _ _ _ _ _ _ _ _ _ _ _ _ _ ?z98l1 ?z98i1 ?z98l2 ?z98i2 ?z98z1 ?z98z2) ?z98k7 ?z98k8 ?_; (case z98k1 => k_asm); (case z98k2 => k_asm); (case z98k3 => k_asm); (case z98k4 => k_asm); (case z98k5 => k_asm); (case z98k6 => first | exact rfl | assumption); (case z98l1 => first | (with_reducible assumption) | assumption | k_mem); (case z98i1 => with_reducible assumption); (case z98l2 => first | (with_reducible assumption) | assumption | k_mem); (case z98i2 => with_reducible assumption); (case z98z1 => walk_at "omg"); (case z98z2 => walk_at "omg"); (case z98k7 => first | exact room_ok hd rfl rfl | ktr_room); (case z98k8 => first | exact room_ok hu rfl rfl | ktr_units)); (try dsimp only); intro t' ht' h' tk' F' N';  (try k_sweep); (try k_fold))
  k_with "own call ref" => (k_here; (with_reducible show wpAny _ _ (call (Value.ref 330) _) _ _ _);  k_dflt (refine' con_use ?z99k1 ?z99k2 ?z99k3 ?z99k4 ?z99k5 ?z99k6 (c_truth _ _ _ _ _ _ _ ) ?z99k7 ?z99k8 ?_; (case z99k1 => k_asm); (case z99k2 => k_asm); (case z99k3 => k_asm); (case z99k4 => k_asm); (case z99k5 => k_asm); (case z99k6 => first | exact rfl | assumption);  (case z99k7 => first | exact room_ok hd rfl rfl | ktr_room); (case z99k8 => first | exact room_ok hu rfl rfl | ktr_units)); (try dsimp only); intro  h' tk' F' N';  (try k_sweep); (try k_fold))
  k_with "If" => ((with_reducible show wpAny _ _ (eval (PySem.Expr.IfExp _ (PySem.Expr.List _ _) _ _) _) _ _ _); (rename Fr _ _ _ _ => lF'); (rename News _ _ _ _ => lN'); refine' joinFlag (z := Str.ofString "is_folded") lF' lN' ?hz1 ?br1 ?go1; (case' br1 => have jm9 := JMark.mk); (case hz1 => k_dflt (exact rfl)); (case' go1 => (intro D' h' tk' n' F' N' l1; (try simp only [AllLt, and_true] at l1); (try k_sweep))))
  k_with "If" => ((with_reducible show wpAny _ _ (eval (PySem.Expr.IfExp _ (PySem.Expr.Tuple _ _ _) _ _) _) _ _ _); (rename Fr _ _ _ _ => lF'); (rename News _ _ _ _ => lN'); refine' joinPair (z := Str.ofString "is_folded") dk ns1 ns2 lF' lN' ?hz2 ?br2 ?go2; (case' br2 => have jm9 := JMark.mk); (case hz2 => k_dflt (exact rfl)); (case' go2 => (intro T' l' r' vs' us' nT' nl' nr' h' tk' F' N' i1' i2' hf1 hf2 o1 o2 o3; (try k_sweep))))
  k_with "If" => ((with_reducible show wpAny _ _ (eval (PySem.Expr.IfExp _ (PySem.Expr.Name _ _) _ _) _) _ _ _); (rename Fr _ _ _ _ => lF'); (rename News _ _ _ _ => lN'); refine' joinTn (z := Str.ofString "is_folded") lF' lN' ?hz3 ?br3 ?go3; (case' br3 => have jm9 := JMark.mk); (case hz3 => k_dflt (exact rfl)); (case' go3 => (intro h' tk' F' N'; (try k_sweep))))
  k_with "JFlag" => (k_dflt (exact jFlag (by assumption) (by assumption) (by k_mem) (fun p hp => by repeat' (first | exact hp | refine List.Mem.tail _ ?_)) (by first | exact flg_t (by assumption) | exact flg_f (by assumption)) (by rename _ ∧ _ => hZ; exact hZ)))
  k_with "JPair" => (first
    | k_dflt (exact jPair (by assumption) (by assumption) (by k_mem) (by k_mem) (by k_mem) (fun p hp => by repeat' (first | exact hp | refine List.Mem.tail _ ?_)) (ia_t (by assumption) (by assumption)) (ia_t (by assumption) (by assumption)) (by k_ne) (by k_ne) (by k_ne))
    | k_dflt (exact jPair (by assumption) (by assumption) (by k_mem) (by k_mem) (by k_mem) (fun p hp => by repeat' (first | exact hp | refine List.Mem.tail _ ?_)) (ia_f (by assumption) (by assumption)) (ia_f (by assumption) (by assumption)) (by k_ne) (by k_ne) (by k_ne)))
  k_with "JVal" => (k_dflt (exact jVal (by assumption) (by assumption) (fun p hp => by repeat' (first | exact hp | refine List.Mem.tail _ ?_)) (by first | exact tn_t (by assumption) | exact tn_f (by assumption) | exact congrArg Value.bool ((decide_eq_true (by assumption)).trans (suff_or1 (by assumption))) | exact congrArg Value.bool (suff_or1 (by assumption)) | exact congrArg Value.bool (suff_or2 (by assumption) rfl))))
  k_with "Or" => ((with_reducible show wpAny _ _ (eval (PySem.Expr.BoolOp _ (PySem.Expr.Compare (PySem.Expr.Name (Str.ofString "left") _) _ _ _ :: _) _) _) _ _ _); (rename Fr _ _ _ _ => lF'); (rename News _ _ _ _ => lN'); (have hf9 := hf1); (rename IntsAre _ (fd _ ns1) => i9); refine' joinOr (ns1 := ns1) (ns2 := ns2) i9 lF' lN' ?br4 ?go4; (case' br4 => have jm9 := JMark.mk); (case' go4 => (intro h' tk' F' N'; (try k_sweep))))
  k_with "Comp" => (k_dflt (refine LCg.CompSrc.ledger (by rfl) (by k_asm) (by k_asm) (by k_mem) (by exact Nat.le_of_ble_eq_true rfl) ?_); intro g9; k_dflt (refine' compB [_, _, _, _, _] _ ?e5 ?hl5 ?turn5 ?fin5); (case e5 => k_dflt (exact rfl)); (case hl5 => k_dflt k_mem); (case' turn5 => rintro i9 b9 I oI C oC D m₂ ys h tk E' hlt hC hx F9 N9 off9 ne9; (simp only [LCg.Off3] at off9)); (case' fin5 => (dsimp only)))
  k_with "CEnd" => (k_dflt (exact cEnd () (by assumption) (by assumption) (fun p hp => by repeat' (first | exact hp | refine List.Mem.tail _ ?_)) off9 rfl))
  k_with "Bools" => (k_dflt (refine' ne_bools_same [_, _, _, _, _] [_, _, _, _, _] ?N6 ?a6 ?b6 ?e6 ?f6 ?u6 ?h6 ?_); (case N6 => k_asm); (case a6 => k_dflt k_mem); (case b6 => k_dflt k_mem); (case e6 => k_dflt (exact rfl)); (case f6 => k_dflt (exact rfl)); (case u6 => units_room); (case h6 => exact five (by first | rfl | exact pref_len) rfl rfl rfl rfl))
  k_steps
  all_goals try (exfalso; have q9 : ((lev ns1 ns2 : Nat) : Int) ≠ ((lev ns1 ns2 : Nat) : Int) := (by with_reducible assumption); exact q9 rfl)
  refine' fin (hret _ _ _ ?a9 ?b9 ?c9) rfl ?F9 ?N9 ?S9
  case F9 => assumption
  case N9 => assumption
  case S9 => exact (fun p hp => by repeat' (first | exact hp | refine List.Mem.tail _ ?_))
  case a9 => assumption
  case b9 => assumption
  case c9 => omega

end
section
variable (w : World) (loose : List Str) (mean : ExcName → Option Value) (mg mb : Str → Option Value)

set_option maxHeartbeats 8000000 in
theorem c_pair (news : Led) (dk : Addr) (n : Nat) (vs : List Value) (ns : List Int) (l1 : Addr) (nl1 : Nat) (vs1 : List Value) (ns1 : List Int) (l2 : Addr) (nl2 : Nat) (vs2 : List Value) (ns2 : List Int) (hd : (dk, listOf vs.toArray n) ∈ news) (hi : IntsAre vs ns) (hp : ∀ x ∈ ns, 0 ≤ x) (hz : ns.length ≤ 1000) (hl1 : (l1, listOf vs1.toArray nl1) ∈ news) (hi1 : IntsAre vs1 ns1) (hl2 : (l2, listOf vs2.toArray nl2) ∈ news) (hi2 : IntsAre vs2 ns2) (hz1 : ns1.length ≤ 4) (hz2 : ns2.length ≤ 6) (hc1 : ∀ x ∈ ns1, x < 192) (hc2 : ∀ x ∈ ns2, x < 192) (hne1 : @Ne Nat l1 dk) (hne2 : @Ne Nat l2 dk) :
    Con w loose mean mg mb 335 30 4000 [.ref dk, .ref l1, .ref l2] news (fun K => ∀ vs' ns' n', IntsAre vs' ns' → (∀ x ∈ ns', 0 ≤ x) → ns'.length ≤ ns.length → K (.bool true) [(dk, listOf vs'.toArray n'), (l1, listOf vs1.toArray nl1), (l2, listOf vs2.toArray nl2)]) := by
  refine con_sub (news₀ := [(dk, listOf vs.toArray n), (l1, listOf vs1.toArray nl1), (l2, listOf vs2.toArray nl2)]) (fun p hq => ?_) (c_ispair w loose mean mg mb [(l1, listOf vs1.toArray nl1), (l2, listOf vs2.toArray nl2)] dk n vs ns l1 nl1 vs1 ns1 l2 nl2 vs2 ns2 hi hp hz (.head _) hi1 (.tail _ (.head _)) hi2 hz1 hz2 hc1 hc2 fun p hq => ?_)
  · rcases List.mem_cons.mp hq with rfl | hq
    · exact hd
    rcases List.mem_cons.mp hq with rfl | hq
    · exact hl1
    rcases List.mem_cons.mp hq with rfl | hq
    · exact hl2
    · cases hq
  · rcases List.mem_cons.mp hq with rfl | hq
    · exact hne1
    rcases List.mem_cons.mp hq with rfl | hq
    · exact hne2
    · cases hq

end
section
variable (w : World) (loose : List Str) (mean : ExcName → Option Value) (mg mb : Str → Option Value)

set_option maxHeartbeats 8000000 in
theorem c_isfig (news : Led) (c : Int) (t : Tok) :
    Con w loose mean mg mb 247 2 20 [.int c t] news (fun K => K (.bool (fig c)) news) := by
  unfold Con
  k_fill
  intro dp un gd cn cs a ccd cl outer A₀ base h₀ L m s Q E B F X N T hk hd hu hret
  refine wpAny_call ?_
  k_dflt cell_enter
  k_with_none
  w_top off

  k_steps
  all_goals exact fin hret (by first | (exact congrArg Value.bool (decide_eq_decide.mpr (by omega))) | (exact congrArg Value.bool (decide_eq_false (by omega)).symm) | (exact congrArg Value.bool (decide_eq_true (by omega)).symm)) (by assumption) (by assumption) (fun p hp => by repeat' (first | exact hp | refine List.Mem.tail _ ?_))
end
section
variable (w : World) (loose : List Str) (mean : ExcName → Option Value) (mg mb : Str → Option Value)

set_option maxHeartbeats 8000000 in
theorem c_numat (news : Led) (l1 : Addr) (nl1 : Nat) (vs1 : List Value) (ns1 : List Int) (k : Int) (tk : Tok) (hl1 : (l1, listOf vs1.toArray nl1) ∈ news) (hi1 : IntsAre vs1 ns1) (hz : ns1.length ≤ 6) (h0 : 0 ≤ k) (h1 : k ≤ ns1.length) :
    Con w loose mean mg mb 254 4 100 [.ref l1, .int k tk] news (fun K => ∀ r n t u, LCg.Off1 r news → K (.ref r) ((r, { cls := .type "tuple", data := .seq #[.int (num 0 (ns1.drop k.toNat)) t, .int (k + (run (ns1.drop k.toNat) : Nat)) u] n }) :: news)) := by
  unfold Con
  k_fill
  intro dp un gd cn cs a ccd cl outer A₀ base h₀ L m s Q E B F X N T hk hd hu hret
  have N0 := N
  replace N := news_add N0 N hl1
  clear N0
  refine wpAny_call ?_
  k_dflt cell_enter
  k_with_none
  w_top off
  k_with "own exec While BoolOp cons nil" => k_extra "While"
  k_with "own exec While Compare cons nil" => k_extra "While"
  k_with "own call ref" => (k_here; (with_reducible show wpAny _ _ (call (Value.ref 247) _) _ _ _);  k_dflt (refine' con_use ?z102k1 ?z102k2 ?z102k3 ?z102k4 ?z102k5 ?z102k6 (c_isfig _ _ _ _ _ _ _ _ ) ?z102k7 ?z102k8 ?_; (case z102k1 => k_asm); (case z102k2 => k_asm); (case z102k3 => k_asm); (case z102k4 => k_asm); (case z102k5 => k_asm); (case z102k6 => first | exact rfl | assumption);  (case z102k7 => first | exact room_ok hd rfl rfl | ktr_room); (case z102k8 => first | exact room_ok hu rfl rfl | ktr_units)); (try dsimp only); intro  h' tk' F' N';  (try k_sweep); (try k_fold))
  k_with "While" => ((rename Fr _ _ _ _ => lF'); (rename News _ _ _ _ => lN'); with_unfolding_all refine' whileK (σ := Int × Tok × Int × Tok) (fun c => [(Str.ofString "found", .int c.1 c.2.1), (Str.ofString "at", .int c.2.2.1 c.2.2.2)]) [Str.ofString "found", Str.ofString "at"] (fun c => 0 ≤ c.1 ∧ c.1 < 1000000 ∧ c.1 < 10 ^ c.2.2.1.toNat ∧ k ≤ c.2.2.1 ∧ c.2.2.1 ≤ ns1.length ∧ num c.1 (ns1.drop c.2.2.1.toNat) = num 0 (ns1.drop k.toNat) ∧ c.2.2.1 + (run (ns1.drop c.2.2.1.toNat) : Nat) = k + (run (ns1.drop k.toNat) : Nat)) (fun c => ns1.length - c.2.2.1.toNat) (0, _, k, _) lF' lN' ?k2q2 ?k3q2 ?_; (case k2q2 => kst_all); (case k3q2 => exact ⟨Int.le_refl _, by dsimp only; omega, by dsimp only; exact Int.pow_pos (by decide), Int.le_refl _, by dsimp only; omega, rfl, rfl⟩); clear lF' lN'; rintro ⟨f, tf, a, ta⟩ u h tk ⟨hp1, hp2, hp3, hp4, hp5, hp6, hp7⟩ F9 N9; (try dsimp only at hp1 hp2 hp3 hp4 hp5 hp6 hp7); dsimp only at F9 N9)
  k_steps
  · exact wEnd (10 * f + ns1.getD a.toNat 0 - 48, _, a + 1, _) (by assumption) (by assumption) (fun p hp => by repeat' (first | exact hp | refine List.Mem.tail _ ?_)) (by kst_all) (by intro z h3; simp only [List.contains_cons, List.contains_nil, Bool.or_false, Bool.or_eq_false_iff, beq_eq_false_iff_ne, ne_eq] at h3; first | rfl | (simp [h3]; done) | (simp [h3, kstB]; done)) (by have hz1 := ten_step (show 0 ≤ a by omega) (by assumption) hz hp3 (by assumption); have hz2 := fig_ge (by assumption); exact ⟨by dsimp only; omega, hz1.2, hz1.1, by dsimp only; omega, by dsimp only; omega, (num_step (by omega) (by assumption) (by assumption)).symm.trans hp6, by have := run_step (show 0 ≤ a by omega) (by assumption) (by assumption); dsimp only; omega⟩) (by dsimp only; walk_at "mu")
  all_goals rw [num_stop (by omega) (by first | exact .inl (by assumption) | exact .inr (by assumption))] at hp6
  all_goals rw [run_stop (by omega) (by first | exact .inl (by assumption) | exact .inr (by assumption))] at hp7
  all_goals subst hp6
  all_goals obtain rfl : a = k + (run (ns1.drop k.toNat) : Nat) := by omega
  all_goals exact fin (hret _ _ _ _ (by rename _ ∧ _ => hZ; first | exact off1_lt hZ.2 | exact off1_lt hZ.2.2 | exact off1_lt hZ.2.2.2 | exact off1_lt hZ.2.2.2.2 | exact off1_lt hZ.2.2.2.2.2 | exact off1_lt hZ.2.2.2.2.2.2 | exact off1_lt hZ.2.2.2.2.2.2.2 | exact off1_lt hZ.2.2.2.2.2.2.2.2 | exact off1_lt hZ.2.2.2.2.2.2.2.2.2 | exact off1_lt hZ.2.2.2.2.2.2.2.2.2.2 | exact off1_lt hZ.2.2.2.2.2.2.2.2.2.2.2 | exact off1_lt hZ.2.2.2.2.2.2.2.2.2.2.2.2 | exact off1_lt hZ.2.2.2.2.2.2.2.2.2.2.2.2.2 | exact off1_lt hZ.2.2.2.2.2.2.2.2.2.2.2.2.2.2 | exact off1_lt hZ.2.2.2.2.2.2.2.2.2.2.2.2.2.2.2)) rfl (by assumption) (by assumption) (sub_new (fun p hp => by repeat' (first | exact hp | refine List.Mem.tail _ ?_)))
end
section
variable (w : World) (loose : List Str) (mean : ExcName → Option Value) (mg mb : Str → Option Value)

set_option maxHeartbeats 8000000 in
theorem c_vless (news : Led) (l1 : Addr) (nl1 : Nat) (vs1 : List Value) (ns1 : List Int) (l2 : Addr) (nl2 : Nat) (vs2 : List Value) (ns2 : List Int) (hl1 : (l1, listOf vs1.toArray nl1) ∈ news) (hi1 : IntsAre vs1 ns1) (hl2 : (l2, listOf vs2.toArray nl2) ∈ news) (hi2 : IntsAre vs2 ns2) (hz1 : ns1.length ≤ 6) (hz2 : ns2.length ≤ 6) :
    Con w loose mean mg mb 261 6 300 [.ref l1, .ref l2] news (fun K => K (.bool (vl ns1 ns2)) news) := by
  unfold Con
  k_fill
  intro dp un gd cn cs a ccd cl outer A₀ base h₀ L m s Q E B F X N T hk hd hu hret
  have N0 := N
  replace N := news_add N0 N hl1
  replace N := news_add N0 N hl2
  clear N0
  refine wpAny_call ?_
  k_dflt cell_enter
  k_with_none
  w_top off
  k_with "own exec While BoolOp cons nil" => k_extra "While"
  k_with "own exec While Compare cons nil" => k_extra "While"
  k_with "own call ref" => (k_here; (with_reducible show wpAny _ _ (call (Value.ref 247) _) _ _ _);  k_dflt (refine' con_use ?z105k1 ?z105k2 ?z105k3 ?z105k4 ?z105k5 ?z105k6 (c_isfig _ _ _ _ _ _ _ _ ) ?z105k7 ?z105k8 ?_; (case z105k1 => k_asm); (case z105k2 => k_asm); (case z105k3 => k_asm); (case z105k4 => k_asm); (case z105k5 => k_asm); (case z105k6 => first | exact rfl | assumption);  (case z105k7 => first | exact room_ok hd rfl rfl | ktr_room); (case z105k8 => first | exact room_ok hu rfl rfl | ktr_units)); (try dsimp only); intro  h' tk' F' N';  (try k_sweep); (try k_fold))
  k_with "own call ref" => (k_here; (with_reducible show wpAny _ _ (call (Value.ref 254) _) _ _ _);  k_dflt (refine' con_use ?z106k1 ?z106k2 ?z106k3 ?z106k4 ?z106k5 ?z106k6 (c_numat _ _ _ _ _ _ _ _ _ _ _ _ ?z106l1 ?z106i1 ?z106z1 ?z106z2 ?z106z3) ?z106k7 ?z106k8 ?_; (case z106k1 => k_asm); (case z106k2 => k_asm); (case z106k3 => k_asm); (case z106k4 => k_asm); (case z106k5 => k_asm); (case z106k6 => first | exact rfl | assumption); (case z106l1 => first | (with_reducible assumption) | assumption | k_mem); (case z106i1 => with_reducible assumption); (case z106z1 => walk_at "omg"); (case z106z2 => walk_at "omg"); (case z106z3 => walk_at "omg"); (case z106k7 => first | exact room_ok hd rfl rfl | ktr_room); (case z106k8 => first | exact room_ok hu rfl rfl | ktr_units)); (try dsimp only); intro r' n' t' u' ho' h' tk' F' N';  (try k_sweep); (try k_fold))
  k_with "While" => ((rename Fr _ _ _ _ => lF'); (rename News _ _ _ _ => lN'); with_unfolding_all refine' whileK (σ := Int × Tok × Int × Tok) (fun c => [(Str.ofString "at", .int c.1 c.2.1), (Str.ofString "to", .int c.2.2.1 c.2.2.2)]) [Str.ofString "at", Str.ofString "to", Str.ofString "left", Str.ofString "right"] (fun c => 0 ≤ c.1 ∧ c.1 ≤ ns1.length ∧ 0 ≤ c.2.2.1 ∧ c.2.2.1 ≤ ns2.length ∧ vl (ns1.drop c.1.toNat) (ns2.drop c.2.2.1.toNat) = vl ns1 ns2) (fun c => ns1.length - c.1.toNat) (0, _, 0, _) lF' lN' ?k2q12 ?k3q12 ?_; (case k2q12 => kst_all); (case k3q12 => exact ⟨Int.le_refl _, by dsimp only; omega, Int.le_refl _, by dsimp only; omega, rfl⟩); clear lF' lN'; rintro ⟨a, ta, b, tb⟩ u h tk ⟨hp1, hp2, hp3, hp4, hp5⟩ F9 N9; (try dsimp only at hp1 hp2 hp3 hp4 hp5); dsimp only at F9 N9)
  k_steps
  all_goals first
    | ((with_reducible show WEnd _ _ _ _ _ _ _ _ _ _ _); first
       | (have hn := vl_num hp1 hp3 (by assumption) (by assumption) (by assumption) (by assumption)
          rw [if_pos (by assumption)] at hn
          have hr1 := run_at hp1 hp2; have hr2 := run_at hp3 hp4
          have hr3 := run_gt hp1 (by assumption) (by assumption)
          exact wEnd (_, _, _, _) (by assumption) (by assumption) (fun p hp => by repeat' (first | exact hp | refine List.Mem.tail _ ?_)) (by kst_all) (by intro z h3; simp only [List.contains_cons, List.contains_nil, Bool.or_false, Bool.or_eq_false_iff, beq_eq_false_iff_ne, ne_eq] at h3; first | rfl | (simp [h3]; done) | (simp [h3, kstB]; done)) ⟨by dsimp only; omega, by dsimp only; omega, by dsimp only; omega, by dsimp only; omega, hn.symm.trans hp5⟩ (by dsimp only; walk_at "mu"))
       | (have hn := vl_sign hp1 hp3 (by assumption) (by assumption) (by intro hq; first | exact Bool.false_ne_true ((by assumption : fig _ = false).symm.trans hq.2) | exact Bool.false_ne_true ((by assumption : fig _ = false).symm.trans hq.1))
          rw [if_pos (by assumption)] at hn
          exact wEnd (_, _, _, _) (by assumption) (by assumption) (fun p hp => by repeat' (first | exact hp | refine List.Mem.tail _ ?_)) (by kst_all) (by intro z h3; simp only [List.contains_cons, List.contains_nil, Bool.or_false, Bool.or_eq_false_iff, beq_eq_false_iff_ne, ne_eq] at h3; first | rfl | (simp [h3]; done) | (simp [h3, kstB]; done)) ⟨by dsimp only; omega, by dsimp only; omega, by dsimp only; omega, by dsimp only; omega, hn.symm.trans hp5⟩ (by dsimp only; walk_at "mu")))
    | (have hn := vl_num hp1 hp3 (by assumption) (by assumption) (by assumption) (by assumption)
       rw [if_neg (by assumption)] at hn
       exact fin hret (congrArg Value.bool (hn.symm.trans hp5)) (by assumption) (by assumption) (fun p hp => by repeat' (first | exact hp | refine List.Mem.tail _ ?_)))
    | (have hn := vl_sign hp1 hp3 (by assumption) (by assumption) (by intro hq; first | exact Bool.false_ne_true ((by assumption : fig _ = false).symm.trans hq.2) | exact Bool.false_ne_true ((by assumption : fig _ = false).symm.trans hq.1))
       rw [if_neg (by assumption)] at hn
       exact fin hret (congrArg Value.bool (hn.symm.trans hp5)) (by assumption) (by assumption) (fun p hp => by repeat' (first | exact hp | refine List.Mem.tail _ ?_)))
    | exact fin hret (congrArg Value.bool ((vl_end hp1 hp3 (by first | exact .inl (by assumption) | exact .inr (by assumption))).trans hp5)) (by assumption) (by assumption) (fun p hp => by repeat' (first | exact hp | refine List.Mem.tail _ ?_))

end
section
variable (w : World) (loose : List Str) (mean : ExcName → Option Value) (mg mb : Str → Option Value)

set_option maxHeartbeats 8000000 in
theorem c_svless (news : Led) (aa : Addr) (nn : Nat) (x1 d1 l1 : Addr) (ha1 hb1 : Int) (ta1 tb1 : Tok) (na1 nl1 : Nat) (vs1 : List Value) (ns1 : List Int)(x2 d2 l2 : Addr) (ha2 hb2 : Int) (ta2 tb2 : Tok) (na2 nl2 : Nat) (vs2 : List Value) (ns2 : List Int)
    (hh : (aa, listOf #[.ref x1, .ref x2] nn) ∈ news) (hx1 : (x1, instObj 79 d1) ∈ news) (he1 : (d1, dictOf [⟨ha1, .str (Str.ofString "codes") ta1, .ref l1⟩, ⟨hb1, .str (Str.ofString "spans") tb1, .none⟩] na1) ∈ news) (hl1 : (l1, listOf vs1.toArray nl1) ∈ news) (hi1 : IntsAre vs1 ns1)(hx2 : (x2, instObj 79 d2) ∈ news) (he2 : (d2, dictOf [⟨ha2, .str (Str.ofString "codes") ta2, .ref l2⟩, ⟨hb2, .str (Str.ofString "spans") tb2, .none⟩] na2) ∈ news) (hl2 : (l2, listOf vs2.toArray nl2) ∈ news) (hi2 : IntsAre vs2 ns2) (hz1 : ns1.length ≤ 6) (hz2 : ns2.length ≤ 6) :
    Con w loose mean mg mb 268 8 400 [.none, .ref aa] news (fun K => K (tn (vl ns1 ns2)) news) := by
  unfold Con
  k_fill
  intro dp un gd cn cs a ccd cl outer A₀ base h₀ L m s Q E B F X N T hk hd hu hret
  have N0 := N
  replace N := news_add N0 N hx1
  replace N := news_add N0 N he1
  replace N := news_add N0 N hl1
  replace N := news_add N0 N hx2
  replace N := news_add N0 N he2
  replace N := news_add N0 N hl2
  replace N := news_add N0 N hh
  clear N0
  refine wpAny_call ?_
  k_dflt cell_enter
  k_with_none
  w_top off
  k_with "own call ref" => (k_here; (with_reducible show wpAny _ _ (call (Value.ref 130) _) _ _ _);  k_dflt (refine' con_use ?z107k1 ?z107k2 ?z107k3 ?z107k4 ?z107k5 ?z107k6 (c_text _ _ _ _ _ _ _ _ _ ?z107a1 ?z107a2) ?z107k7 ?z107k8 ?_; (case z107k1 => k_asm); (case z107k2 => k_asm); (case z107k3 => k_asm); (case z107k4 => k_asm); (case z107k5 => k_asm); (case z107k6 => first | exact rfl | assumption); (case z107a1 => first | (with_reducible assumption) | assumption | k_mem); (case z107a2 => first | (with_reducible assumption) | assumption | k_mem); (case z107k7 => first | exact room_ok hd rfl rfl | ktr_room); (case z107k8 => first | exact room_ok hu rfl rfl | ktr_units)); (try dsimp only); intro  h' tk' F' N';  (try k_sweep); (try k_fold))
  k_with "own call ref" => (k_here; (with_reducible show wpAny _ _ (call (Value.ref 261) _) _ _ _);  k_dflt (refine' con_use ?z108k1 ?z108k2 ?z108k3 ?z108k4 ?z108k5 ?z108k6 (c_vless _ _ _ _ _ _ _ _ _ _ _ _ _ _ ?z108l1 ?z108i1 ?z108l2 ?z108i2 ?z108z1 ?z108z2) ?z108k7 ?z108k8 ?_; (case z108k1 => k_asm); (case z108k2 => k_asm); (case z108k3 => k_asm); (case z108k4 => k_asm); (case z108k5 => k_asm); (case z108k6 => first | exact rfl | assumption); (case z108l1 => first | (with_reducible assumption) | assumption | k_mem); (case z108i1 => with_reducible assumption); (case z108l2 => first | (with_reducible assumption) | assumption | k_mem); (case z108i2 => with_reducible assumption); (case z108z1 => walk_at "omg"); (case z108z2 => walk_at "omg"); (case z108k7 => first | exact room_ok hd rfl rfl | ktr_room); (case z108k8 => first | exact room_ok hu rfl rfl | ktr_units)); (try dsimp only); intro  h' tk' F' N';  (try k_sweep); (try k_fold))
  k_with "own call ref" => (k_here; (with_reducible show wpAny _ _ (call (Value.ref 97) _) _ _ _);  k_dflt (refine' con_use ?z109k1 ?z109k2 ?z109k3 ?z109k4 ?z109k5 ?z109k6 (c_bool _ _ _ _ _ _ _ ) ?z109k7 ?z109k8 ?_; (case z109k1 => k_asm); (case z109k2 => k_asm); (case z109k3 => k_asm); (case z109k4 => k_asm); (case z109k5 => k_asm); (case z109k6 => first | exact rfl | assumption);  (case z109k7 => first | exact room_ok hd rfl rfl | ktr_room); (case z109k8 => first | exact room_ok hu rfl rfl | ktr_units)); (try dsimp only); intro  h' tk' F' N';  (try k_sweep); (try k_fold))
  k_steps
  exact fin hret (by first | rfl | simp [*]) (by assumption) (by assumption) (fun p hp => by repeat' (first | exact hp | refine List.Mem.tail _ ?_))

end
section
variable (w : World) (loose : List Str) (mean : ExcName → Option Value) (mg mb : Str → Option Value)

set_option maxHeartbeats 8000000 in
theorem c_parts (news : Led) (l1 : Addr) (nl1 : Nat) (vs1 : List Value) (ns1 : List Int) (hl1 : (l1, listOf vs1.toArray nl1) ∈ news) (hi1 : IntsAre vs1 ns1) (hz : ns1.length ≤ 6) :
    Con w loose mean mg mb 316 6 300 [.ref l1] news (fun K => ∀ r vs' n' tups, PartsIn tups vs' (parts ns1) → (∀ p ∈ news ++ tups, p.1 ≠ r) → K (.ref r) ((r, listOf vs'.toArray n') :: (news ++ tups))) := by
  unfold Con
  k_fill
  intro dp un gd cn cs a ccd cl outer A₀ base h₀ L m s Q E B F X N T hk hd hu hret
  have N0 := N
  replace N := news_add N0 N hl1
  clear N0
  refine wpAny_call ?_
  k_dflt cell_enter
  k_with_none
  w_top off
  k_with "own exec While BoolOp cons nil" => k_extra "While"
  k_with "own exec While Compare cons nil" => k_extra "While"
  k_with "own call builtin:list.append" => (k_here; (with_reducible show wpAny _ _ (call (Value.builtin _) [Value.ref _, Value.ref _]) _ _ _); k_dflt (refine' append_r ?z112F ?z112N ?z112U ?z112z ?_; (case z112F => k_asm); (case z112N => k_asm); (case z112U => k_upd); (case z112z => walk_at "omg"); k_whole); intro h' F' N'; (try k_sweep))
  k_with "own eval ListComp" => (k_here; k_dflt (refine LCg.ListComp_U (F₀ := by k_asm) (by with_unfolding_all rfl) (by decide) (by rfl) (by decide) (by rfl) ?_))
  k_with "own CompSrc" => (k_here; k_extra "Comp")
  k_with "own call builtin:chr" => k_extra "Chr"
  k_with "own call builtin:str.join" => k_extra "Join"
  k_with "own call type:int" => k_extra "Int"
  k_with "While" => ((rename Fr _ _ _ _ => lF'); (rename News _ _ _ _ => lN'); (replace lN' := news_tail lN'); with_unfolding_all refine' whileA (σ := List Value × List Part × Nat × Led × Int × Tok) (fun c => c.1) (fun c => c.2.2.1) (fun c => c.2.2.2.1) (fun c => [(Str.ofString "at", .int c.2.2.2.2.1 c.2.2.2.2.2)]) [Str.ofString "at", Str.ofString "end"] (fun c => PartsIn c.2.2.2.1 c.1 c.2.1 ∧ 0 ≤ c.2.2.2.2.1 ∧ c.2.2.2.2.1 ≤ ns1.length ∧ c.2.1.length ≤ c.2.2.2.2.1 ∧ c.2.1 ++ parts (ns1.drop c.2.2.2.2.1.toNat) = parts ns1) (fun c => ns1.length - c.2.2.2.2.1.toNat) ([], [], _, [], 0, _) lF' lN' (by rename _ ∧ AllLt _ _ => hlt9; exact allLt_off hlt9) (by rfl) (by rfl) (by rfl) ?k2q13 ?k3q13 ?_; (case k2q13 => kst_all); (case k3q13 => exact ⟨PartsIn.nil, Int.le_refl _, by dsimp only; omega, Int.le_refl _, rfl⟩); clear lF' lN'; rintro ⟨pv, ps, pn, pt, at9, tat⟩ u h tk ⟨hp1, hp2, hp3, hp4, hp5⟩ hbo F9 N9; (try dsimp only at hp1 hp2 hp3 hp4 hp5 hbo); dsimp only at F9 N9; (simp only [List.cons_append] at N9 hbo); have hp6 := hp1.1)
  k_with "While" => ((have g9 := hp5); (rename Fr _ _ _ _ => lF'); (rename News _ _ _ _ => lN'); with_unfolding_all refine' whileE (σ := Int × Tok) (fun c => [(Str.ofString "end", .int c.1 c.2)]) [Str.ofString "end"] (fun c => at9 ≤ c.1 ∧ c.1 ≤ ns1.length ∧ c.1 + (run (ns1.drop c.1.toNat) : Nat) = at9 + (run (ns1.drop at9.toNat) : Nat)) (fun c => run (ns1.drop c.1.toNat) = 0) (fun c => ns1.length - c.1.toNat) (at9, _) lF' lN' ?k2q14 ?k3q14 ?turnq14 ?doneq14; (case k2q14 => kst_all); (case k3q14 => exact ⟨Int.le_refl _, by dsimp only; omega, rfl⟩); clear lF' lN'; (case' turnq14 => rintro ⟨e9, te9⟩ u h tk ⟨hq1, hq2, hq3⟩ F9 N9; (try dsimp only at hq1 hq2 hq3); dsimp only at F9 N9); (case' doneq14 => rintro ⟨e9, te9⟩ u h tk ⟨hq1, hq2, hq3⟩ hX F9 N9; (try dsimp only at hq1 hq2 hq3 hX); dsimp only at F9 N9))
  k_with "Comp" => ((rename Fr _ _ _ _ => lF'); (rename News _ _ _ _ => lN'); have hre : e9.toNat - at9.toNat = run (ns1.drop at9.toNat) := (by omega); have hrp : 0 < run (ns1.drop at9.toNat) := (by omega); have hti := (text_num hrp (by rw [List.length_drop]; omega)); (rename IntsAre _ (List.take _ _) => hi9); rw [hre] at hi9; have hfg := (run_split (ns1.drop at9.toNat)).1; k_dflt (refine LCg.CompSrc.ledger (by rfl) lF' lN' (by k_mem) (by rw [PySem.sizeLine_eq, List.size_toArray, hi9.length, List.length_take]; omega) ?_); intro g9; k_dflt (refine' compL (σ := Unit) (fun _ => _) (fun i ys c => StrsAre ys (((ns1.drop at9.toNat).take (run (ns1.drop at9.toNat))).take i |>.map ch1)) () hi9 ?hl ?hp ?turn ?fin); (case hl => (intro _; k_mem)); (case hp => exact .nil); (case' turn => rintro ⟨⟩ i k t I oI C oC D m₂ ys h tk E' hlt hki hmem hz3 hC hx F9 N9 off9 ne9; (try dsimp only at N9 off9); have hk9 := hfg k hmem); (case' fin => rintro ⟨⟩ ys hz3; (try dsimp only at hz3); rw [List.take_length] at hz3; (try dsimp only)))
  k_with "Chr" => (k_dflt (refine chr_of_range (by omega) (by omega) ?_))
  k_with "Join" => (k_dflt (refine join_list (News.isList (by assumption) (List.Mem.head _)) (by assumption) ?z9 (fun t9 k9 => ?_)); (case z9 => (rw [sum_ch1, List.length_map, List.length_take, show (Str.ofString "").length = 0 by decide +kernel]; omega)))
  k_with "Int" => (k_dflt (refine KIN.call_text hti.1 hti.2 ?_))
  k_steps
  · exact partsEnd (base := (l1, listOf vs1.toArray nl1) :: news) (by assumption) (by assumption) (by k_mem) (by k_mem) (fun p hp => by repeat' (first | exact hp | exact List.mem_append_left _ hp | refine List.Mem.tail _ ?_)) (by k_ne) hbo (by rfl) (by intro z h3; simp only [List.contains_cons, List.contains_nil, Bool.or_false, Bool.or_eq_false_iff, beq_eq_false_iff_ne, ne_eq] at h3; first | rfl | (simp [h3]; done) | (simp [h3, kstB]; done)) hp1 (e := at9 + (run (ns1.drop at9.toNat) : Nat)) (by omega) (by omega) hp2 (by omega) hp4 hp5 (parts_at_fig hp2 (by assumption) (by omega) rfl)
  · exact cEnd () (by assumption) (by assumption) (fun p hp => by repeat' (first | exact hp | exact List.mem_append_left _ hp | refine List.Mem.tail _ ?_)) off9 (strs_snoc hz3 hlt hki)
  · exact partsEnd (base := (l1, listOf vs1.toArray nl1) :: news) (by assumption) (by assumption) (by k_mem) (by k_mem) (fun p hp => by repeat' (first | exact hp | exact List.mem_append_left _ hp | refine List.Mem.tail _ ?_)) (by k_ne) hbo (by rfl) (by intro z h3; simp only [List.contains_cons, List.contains_nil, Bool.or_false, Bool.or_eq_false_iff, beq_eq_false_iff_ne, ne_eq] at h3; first | rfl | (simp [h3]; done) | (simp [h3, kstB]; done)) hp1 (e := at9 + 1) (by omega) (by omega) hp2 (by omega) hp4 hp5 (parts_at_not hp2 (by assumption) (by omega))
  · exact wEnd (e9 + 1, _) (by assumption) (by assumption) (fun p hp => by repeat' (first | exact hp | exact List.mem_append_left _ hp | refine List.Mem.tail _ ?_)) (by kst_all) (by intro z h3; simp only [List.contains_cons, List.contains_nil, Bool.or_false, Bool.or_eq_false_iff, beq_eq_false_iff_ne, ne_eq] at h3; first | rfl | (simp [h3]; done) | (simp [h3, kstB]; done)) ⟨by dsimp only; omega, by dsimp only; omega, by have := run_step (show 0 ≤ e9 by omega) (by assumption) (decide_eq_true ⟨by assumption, by assumption⟩); dsimp only; omega⟩ (by dsimp only; walk_at "mu")
  · exact wOut (by assumption) (by assumption) (fun p hp => by repeat' (first | exact hp | exact List.mem_append_left _ hp | refine List.Mem.tail _ ?_)) (by kst_all) (by intro z h3; simp only [List.contains_cons, List.contains_nil, Bool.or_false, Bool.or_eq_false_iff, beq_eq_false_iff_ne, ne_eq] at h3; first | rfl | (simp [h3]; done) | (simp [h3, kstB]; done)) (run_stop (by omega) (.inr (fig_hi (by assumption))))
  · exact wOut (by assumption) (by assumption) (fun p hp => by repeat' (first | exact hp | exact List.mem_append_left _ hp | refine List.Mem.tail _ ?_)) (by kst_all) (by intro z h3; simp only [List.contains_cons, List.contains_nil, Bool.or_false, Bool.or_eq_false_iff, beq_eq_false_iff_ne, ne_eq] at h3; first | rfl | (simp [h3]; done) | (simp [h3, kstB]; done)) (run_stop (by omega) (.inr (fig_lo (by assumption))))
  · exact wOut (by assumption) (by assumption) (fun p hp => by repeat' (first | exact hp | exact List.mem_append_left _ hp | refine List.Mem.tail _ ?_)) (by kst_all) (by intro z h3; simp only [List.contains_cons, List.contains_nil, Bool.or_false, Bool.or_eq_false_iff, beq_eq_false_iff_ne, ne_eq] at h3; first | rfl | (simp [h3]; done) | (simp [h3, kstB]; done)) (run_stop (by omega) (.inl (by assumption)))
  · rw [List.drop_of_length_le (show ns1.length ≤ at9.toNat by omega), parts_nil, List.append_nil] at hp5
    rw [hp5] at hp1
    exact fin (hret _ _ _ _ hp1 (fun p hp => hbo p ((List.mem_append.mp hp).elim (fun h => .tail _ (List.mem_append_left _ h)) fun h => .tail _ (List.mem_append_right _ h)))) rfl (by assumption) (by assumption) (sub_new (fun p hp => .tail _ hp))

end
section
variable (w : World) (loose : List Str) (mean : ExcName → Option Value) (mg mb : Str → Option Value)

set_option maxHeartbeats 8000000 in
theorem c_parts2 (news : Led) (l1 : Addr) (nl1 : Nat) (vs1 : List Value) (ns1 : List Int) (hl1 : (l1, listOf vs1.toArray nl1) ∈ news) (hi1 : IntsAre vs1 ns1) (hz : ns1.length ≤ 6) :
    Con w loose mean mg mb 316 6 300 [.ref l1] news (fun K => ∀ r vs' n' tups, PartsIn tups vs' (parts ns1) → (∀ p ∈ news ++ tups, p.1 ≠ r) → (parts ns1).length ≤ ns1.length → K (.ref r) ((r, listOf vs'.toArray n') :: (news ++ tups))) := by
  exact con_mono (fun K _ h r vs' n' tups hP ho => h r vs' n' tups hP ho (parts_le _ _ (Nat.le_refl _))) (c_parts w loose mean mg mb news l1 nl1 vs1 ns1 hl1 hi1 hz)
end
section
variable (w : World) (loose : List Str) (mean : ExcName → Option Value) (mg mb : Str → Option Value)

set_option maxHeartbeats 8000000 in
theorem c_ahead (news : Led) (l1 : Addr) (nl1 : Nat) (vs1 : List Value) (p1 : List Part) (l2 : Addr) (nl2 : Nat) (vs2 : List Value) (p2 : List Part) (hl1 : (l1, listOf vs1.toArray nl1) ∈ news) (hP1 : PartsIn news vs1 p1) (hl2 : (l2, listOf vs2.toArray nl2) ∈ news) (hP2 : PartsIn news vs2 p2) (hz1 : p1.length ≤ 100) (hz2 : p2.length ≤ 100) :
    Con w loose mean mg mb 323 4 200 [.ref l1, .ref l2] news (fun K => K (.bool (ahead p1 p2)) news) := by
  have hlen1 := hP1.1
  have hlen2 := hP2.1
  unfold Con
  k_fill
  intro dp un gd cn cs a ccd cl outer A₀ base h₀ L m s Q E B F X N T hk hd hu hret
  have N0 := N
  replace N := news_add N0 N hl1
  replace N := news_add N0 N hl2
  clear N0
  refine wpAny_call ?_
  k_dflt cell_enter
  k_with_none
  w_top off
  k_with "own exec For Tuple Call cons nil" => (k_here; (rename Fr _ _ _ _ => lF'); (with_unfolding_all refine' For_turns lF' ?_; k_whole))
  k_with "own call type:enumerate" => (k_here; k_extra "Enum")
  k_with "own call type:zip" => (k_here; k_extra "Enum")
  k_with "own EPost" => (dsimp only [EPost])
  k_with "own call type:list" => (k_here; (rename IsRange _ _ _ _ _ _ _ _ => rgX); (with_unfolding_all refine' kll_range ?z123k0 ?z123k1 ?z123k2 ?z123k3 ?z123k4 ?z123k5 ?z123k6 ?_; (case z123k0 => rfl); (case z123k1 => k_asm); (case z123k2 => k_asm); (case z123k3 => exact rgX); (case z123k4 => exact small_one (by omega) (by omega) (by omega) (by omega)); (case z123k5 => exact rangeSize_nat _ _); (case z123k6 => walk_at "omg")); intro D' us' c' h' tk' F' N' l1 hI'; (try k_lt l1); (try k_sweep))
  k_with "own call builtin:min" => (k_here; (with_reducible show wpAny _ _ (call (Value.builtin _) [Value.int _ _, Value.int _ _, Value.int _ _]) _ _ _); k_dflt (refine' min3_N ?z124h ?z124F ?z124N ?_; (case z124h => rfl); (case z124F => k_asm); (case z124N => k_asm); k_whole); intro h' tk' t' F' N')
  k_with "own subscriptTail Name UnaryOp ref int" => (k_here; (with_reducible show wpAny _ _ (subscriptTail _ _ (Value.ref _) (Value.int _ _)) _ _ _); (with_unfolding_all refine' item_list_ints_neg ?z125k1 ?z125k2 ?z125k3 ?z125k4 ?z125k5 ?_; (case z125k1 => is_list); (case z125k2 => with_reducible assumption); (case z125k3 => walk_at "omg"); (case z125k4 => walk_at "omg"); (case z125k5 => walk_at "omg"); k_whole); intro _)
  k_with "own call builtin:len" => (k_here; (with_reducible show wpAny _ _ (call (Value.builtin "len") [Value.ref _]) _ _ _); k_dflt (refine' len_v ?z126k1 ?z126k2 ?z126k4 ?_; (case z126k1 => k_asm); (case z126k2 => k_mem); (case z126k4 => walk_at "omg"); k_whole))
  k_with "Enum" => ((rename Fr _ _ _ _ => lF'); (rename News _ _ _ _ => lN'); with_unfolding_all refine' forZip (σ := Unit) (xs := vs1) (ys := vs2) (n1 := nl1) (n2 := nl2) (fun _ => _) (fun _ => []) [Str.ofString "left", Str.ofString "right"] (fun i _ => ahead (p1.drop i) (p2.drop i) = ahead p1 p2) () (by rfl) (by intro _; k_mem) (by intro _; k_mem) lF' lN' (fun _ h => h) ?kkq15 ?kpq15 ?turnq15 ?doneq15; (case kkq15 => kst_all); (case kpq15 => exact rfl); clear lF' lN'; (case' turnq15 => rintro I9 ⟨⟩ i T x y u h tk o1 o2 o3 o4 o5 hlow hx hy hq hT F9 N9; (try dsimp only at hlow hq F9 N9); obtain ⟨q1, a1, m1, t1, u1, hq1, e1, w1⟩ := hP1.at hx; obtain ⟨q2, a2, m2, t2, u2, hq2, e2, w2⟩ := hP2.at hy; subst e1 e2; have hst := ahead_at hq1 hq2; have N8 := N9; replace N9 := news_add N8 N9 (p := (a1, _)) (by first | exact .tail _ (.tail _ (.tail _ (.tail _ (.tail _ (.tail _ (.tail _ w1))))))); replace N9 := news_add N8 N9 (p := (a2, _)) (by first | exact .tail _ (.tail _ (.tail _ (.tail _ (.tail _ (.tail _ (.tail _ w2))))))); clear N8); (case' doneq15 => rintro ⟨⟩ u h tk hq F9 N9; (try dsimp only at hq F9 N9)))
  k_steps
  · exact fin hret (congrArg Value.bool (by rw [← hq, ahead_end (by rw [hlen1, hlen2]), hlen1, hlen2])) (by assumption) (by assumption) (fun p hp => by repeat' (first | exact hp | refine List.Mem.tail _ ?_))
  all_goals
    first
      | rw [if_pos (And.intro (by assumption) (by assumption))] at hst
      | rw [if_neg (fun q => Bool.false_ne_true ((by assumption : Prod.fst q1 = false).symm.trans q.1))] at hst
      | rw [if_neg (fun q => Bool.false_ne_true ((by assumption : Prod.fst q2 = false).symm.trans q.2))] at hst
    first
      | rw [if_pos (by assumption)] at hst
      | rw [if_neg (by assumption)] at hst
    first
      | exact fin hret (congrArg Value.bool (hst.symm.trans hq)) (by assumption) (by assumption) (fun p hp => by repeat' (first | exact hp | refine List.Mem.tail _ ?_))
      | exact eEnd () (by assumption) (by assumption) (by kst_in) (by kst_in) (apart5 hlow) (by kst_all) (by intro z h3; simp only [List.contains_cons, List.contains_nil, Bool.or_false, Bool.or_eq_false_iff, beq_eq_false_iff_ne, ne_eq] at h3; first | rfl | (simp [h3]; done) | (simp [h3, kstB]; done)) (hst.symm.trans hq)

end
section
variable (w : World) (loose : List Str) (mean : ExcName → Option Value) (mg mb : Str → Option Value)

set_option maxHeartbeats 8000000 in
theorem c_raise (news : Led) (aa : Addr) (nn : Nat) (x1 d1 l1 : Addr) (ha1 hb1 : Int) (ta1 tb1 : Tok) (na1 nl1 : Nat) (vs1 : List Value) (ns1 : List Int)(x2 d2 l2 : Addr) (ha2 hb2 : Int) (ta2 tb2 : Tok) (na2 nl2 : Nat) (vs2 : List Value) (ns2 : List Int) (k : Int) (t : Tok)
    (hh : (aa, listOf #[.ref x1, .ref x2, .int k t] nn) ∈ news) (hx1 : (x1, instObj 79 d1) ∈ news) (he1 : (d1, dictOf [⟨ha1, .str (Str.ofString "codes") ta1, .ref l1⟩, ⟨hb1, .str (Str.ofString "spans") tb1, .none⟩] na1) ∈ news) (hl1 : (l1, listOf vs1.toArray nl1) ∈ news) (hi1 : IntsAre vs1 ns1)(hx2 : (x2, instObj 79 d2) ∈ news) (he2 : (d2, dictOf [⟨ha2, .str (Str.ofString "codes") ta2, .ref l2⟩, ⟨hb2, .str (Str.ofString "spans") tb2, .none⟩] na2) ∈ news) (hl2 : (l2, listOf vs2.toArray nl2) ∈ news) (hi2 : IntsAre vs2 ns2) (hz : ns2.length ≤ 1000) (h0 : 0 ≤ k) (h1 : (ns2.length : Int) < k) :
    ConR w loose mean mg mb 226 8 600 [.none, .ref aa] news := by
  unfold ConR
  k_fill
  intro dp un gd cn cs a ccd cl outer A₀ base h₀ L m s Q E B F X N T hk hd hu hret
  have N0 := N
  replace N := news_add N0 N hx1
  replace N := news_add N0 N he1
  replace N := news_add N0 N hl1
  replace N := news_add N0 N hx2
  replace N := news_add N0 N he2
  replace N := news_add N0 N hl2
  replace N := news_add N0 N hh
  clear N0
  refine wpAny_call ?_
  k_dflt cell_enter
  k_with_none
  w_top off
  k_with "own exec Raise some none" => (k_here; k_dflt (refine' Raise_sig ?z127h ?z127p ?_; (case z127h => first | rfl | assumption); (case z127p => rfl)))
  k_with "own call ref" => (k_here; (with_reducible show wpAny _ _ (call (Value.ref 31) _) _ _ _); k_dflt (refine' sig_make ?z128F ?z128X ?z128N ?z128z ?_; (case z128F => k_asm); (case z128X => k_asm); (case z128N => k_asm); (case z128z => exact Nat.le_of_ble_eq_true rfl); k_whole); intro e' t' h' F' N' o1'; (have ho9 := Off1.mem o1'); clear o1'; (try k_sweep))
  k_with "own call ref" => (k_here; (with_reducible show wpAny _ _ (call (Value.ref 28) _) _ _ _); refine wpAny_call ?_; k_dflt (refine' code_def ?z129k1 ?z129k2 ?z129k3 ?z129k4 ?z129k5 ?z129kA ?z129kF ?z129kK ?z129k6 ?z129k7 ?z129k8 ?z129k9 ?z129kB ?_ ?z129c2 ?z129c3 ?z129c4 ?z129c5; (case z129kA => exact rfl); (case z129kF => exact rfl); (case z129kK => first | exact rfl | assumption); (case z129k1 => k_asm); (case z129k2 => k_asm); (case z129k3 => k_asm); (case z129k4 => k_asm); (case z129k5 => k_asm); (case z129k6 => k_is); (case z129k7 => k_is); (case z129k8 => ktr_room); (case z129k9 => exact BindsTo.of_eq rfl); (case z129c5 => decide); (case z129kB => exact locs rfl); (case z129c2 => exact rfl); (case z129c3 => exact rfl); (case z129c4 => exact rfl); k_whole; intro g' L' h' FG' F' N' B' X' T'; (try dsimp only); (try k_lift B'); (try k_fold)))
  k_with "own SigDone" => (k_dflt (refine' sigDone ?z130F ?z130X ?z130N ?z130m ?_; (case z130F => k_asm); (case z130X => k_asm); (case z130N => k_asm); (case z130m => k_mem)))
  k_with "own setAttr ref" => (k_here; k_dflt (refine' set1h ?z131F ?z131X ?z131N ?z131o ?z131a ?z131b ?_; (case z131F => k_asm); (case z131X => k_asm); (case z131N => k_asm); (case z131o => assumption); (case z131a => exact k30sym _); (case z131b => exact lk_sym)); intro D' oD' h' tk' hD9 hu9 F' N'; (try k_sweep))
  k_with "own setAttr ref" => (k_here; k_dflt (refine' set2h ?z132F ?z132X ?z132N ?z132o ?z132u ?z132a ?z132b ?_; (case z132F => k_asm); (case z132X => k_asm); (case z132N => k_asm); (case z132o => assumption); (case z132u => assumption); (case z132a => exact k30dat _); (case z132b => exact lk_dat)); intro oD' h' tk' hu8 F' N'; (try k_sweep))
  k_with "own leaving ref" => (k_here; k_dflt (refine' leave_sig ?z133k1 ?z133k2 ?z133k3 ?z133k4 ?z133k5 ?z133k6 ?_; (case z133k1 => assumption); (case z133k2 => k_asm); (case z133k3 => k_asm); (case z133k4 => assumption); (case z133k5 => assumption); (case z133k6 => exact (fun p hp => by repeat' (first | exact hp | refine List.Mem.tail _ ?_)))); intro h' R' U'; (try dsimp only at R' U' ⊢))
  k_with "own evalArgs ref" => (k_here; k_dflt (refine evalArgs_sp (by rfl) ?_))
  k_with "own SigCall" => (k_dflt (refine' sigCall ?z135F ?z135X ?_; (case z135F => k_asm); (case z135X => k_asm)))
  k_with "own call ref" => (k_here; (with_reducible show wpAny _ _ (call (Value.ref 130) _) _ _ _);  k_dflt (refine' con_use ?z136k1 ?z136k2 ?z136k3 ?z136k4 ?z136k5 ?z136k6 (c_text _ _ _ _ _ _ _ _ _ ?z136a1 ?z136a2) ?z136k7 ?z136k8 ?_; (case z136k1 => k_asm); (case z136k2 => k_asm); (case z136k3 => k_asm); (case z136k4 => k_asm); (case z136k5 => k_asm); (case z136k6 => first | exact rfl | assumption); (case z136a1 => first | (with_reducible assumption) | assumption | k_mem); (case z136a2 => first | (with_reducible assumption) | assumption | k_mem); (case z136k7 => first | exact room_ok hd rfl rfl | ktr_room); (case z136k8 => first | exact room_ok hu rfl rfl | ktr_units)); (try dsimp only); intro  h' tk' F' N';  (try k_sweep); (try k_fold))
  k_with "own call ref" => (k_here; (with_reducible show wpAny _ _ (call (Value.ref 151) _) _ _ _);  k_dflt (refine' con_use ?z137k1 ?z137k2 ?z137k3 ?z137k4 ?z137k5 ?z137k6 (c_opt3 _ _ _ _ _ _ _ _ _ _ _ _ ?z137a1) ?z137k7 ?z137k8 ?_; (case z137k1 => k_asm); (case z137k2 => k_asm); (case z137k3 => k_asm); (case z137k4 => k_asm); (case z137k5 => k_asm); (case z137k6 => first | exact rfl | assumption); (case z137a1 => first | (with_reducible assumption) | assumption | k_mem); (case z137k7 => first | exact room_ok hd rfl rfl | ktr_room); (case z137k8 => first | exact room_ok hu rfl rfl | ktr_units)); (try dsimp only); intro  h' tk' F' N';  (try k_sweep); (try k_fold))
  k_with "own call ref" => (k_here; (with_reducible show wpAny _ _ (call (Value.ref 144) _) _ _ _);  k_dflt (refine' con_use ?z138k1 ?z138k2 ?z138k3 ?z138k4 ?z138k5 ?z138k6 (c_whole _ _ _ _ _ _ _ _ ) ?z138k7 ?z138k8 ?_; (case z138k1 => k_asm); (case z138k2 => k_asm); (case z138k3 => k_asm); (case z138k4 => k_asm); (case z138k5 => k_asm); (case z138k6 => first | exact rfl | assumption);  (case z138k7 => first | exact room_ok hd rfl rfl | ktr_room); (case z138k8 => first | exact room_ok hu rfl rfl | ktr_units)); (try dsimp only); intro  h' tk' F' N';  (try k_sweep); (try k_fold))
  k_steps
  exact hret _ _ _ _ _ _ _ _ _ (by assumption) (by assumption) (raisedD_sub (by assumption) (sub_new (fun p hp => by repeat' (first | exact hp | refine List.Mem.tail _ ?_)))) (by assumption) (by rfl)
end
section
set_option maxHeartbeats 8000000 in
theorem walk_law : PySem.Challenge.rw_np0039_01.Holds := by
  w_on
  refine holds_law hd.said fun said => ?_
  refine holds_open (q := hd.view_39) (loose := [Str.ofString "NIL", Str.ofString "T", Str.ofString "MOST_CELLS"]) (Xt := fun s => xlAt hd.view_39 [(Str.ofString "MOST_CELLS", WData.int 4194304)] s && recOk (RowW.records PySem.Challenge.rw_np0039_01.row.toRowW) s) (XP := XL hd.view_39 [(Str.ofString "MOST_CELLS", WData.int 4194304)]) (Yf := Hook.obs (kHook hd.heap_39 hd.hookAs hd.hookAs_eq)) (Ya := Hook.val (kHook hd.heap_39 hd.hookAs hd.hookAs_eq)) (YP := Hook.says (kHook hd.heap_39 hd.hookAs hd.hookAs_eq)) (N := 4514) hd.left (Hook.of (kHook hd.heap_39 hd.hookAs hd.hookAs_eq)) (Hook.keeps (kHook hd.heap_39 hd.hookAs hd.hookAs_eq)) (fun s e => xl_of s (Bool.and_eq_true_iff.mp e).1) XL.keeps (by rfl) (by rfl) (by rfl) (fun s e => recFacts_of (Bool.and_eq_true_iff.mp e).2) (by rfl) (by first | assumption | decide +kernel) (by decide +kernel) ⟨rfl, rfl, rfl, rfl, rfl, by decide +kernel⟩ ?hw ?hc
  case hw => w_witness2
  clear said
  k_go0
  all_goals (try k_fold)
  k_with_none
  k_with "own eval ListComp" => (k_here; k_dflt (refine LCg.ListComp_U (F₀ := by k_asm) (by with_unfolding_all rfl) (by decide) (by rfl) (by decide) (by rfl) ?_))
  k_with "own CompSrc" => (k_here; k_extra "Comp")
  k_with "own eval IfExp" => (k_here; (fail_if_success (with_reducible rename JMark => jm8)); k_extra "If")
  k_with "own eval BoolOp" => (k_here; (fail_if_success (with_reducible rename JMark => jm8)); k_extra "Or")
  k_with "own binaryOp Add ref ref" => (k_here; (with_reducible show wpAny _ _ (binaryOp _ (Value.ref _) (Value.ref _)) _ _ _); k_dflt (refine' add_flags ?z143F ?z143N ?z143b ?z143a ?_; (case z143F => k_asm); (case z143N => k_asm); (case z143b => k_mem); (case z143a => k_mem); k_whole); intro D' h' F' N' l1; (try k_lt l1); (try k_sweep))
  k_with "own compareOp NotEq ref ref" => (k_here; k_extra "Bools")
  k_with "own eval Name" => (k_here; (with_reducible show wpAny _ _ (eval (PySem.Expr.Name _ _) (compEnvC _ _ _ _)) _ _ _); k_dflt (first
    | refine LCgL.ld_own (by k_asm) (by k_mem) (by assumption) (by assumption) ?_
    | refine LCgL.ld_global (by k_asm) (by k_asm) (by k_asm) (by k_is) ?_))
  k_with "own call ref" => (k_here; (with_reducible show wpAny _ _ (call (Value.ref 280) _) _ _ _);  k_dflt (refine' con_use ?z146k1 ?z146k2 ?z146k3 ?z146k4 ?z146k5 ?z146k6 (c_draw _ _ _ _ _ _ _ _ _ _ _ _ _ ?z146u1 ?z146i1 ?z146p1 ?z146z1 ?z146z2 ?z146z3) ?z146k7 ?z146k8 ?_; (case z146k1 => k_asm); (case z146k2 => k_asm); (case z146k3 => k_asm); (case z146k4 => k_asm); (case z146k5 => k_asm); (case z146k6 => first | exact rfl | assumption); (case z146u1 => k_updF); (case z146i1 => with_reducible assumption); (case z146p1 => assumption); (case z146z1 => walk_at "omg"); (case z146z2 => walk_at "omg"); (case z146z3 => walk_at "omg"); (case z146k7 => first | exact room_ok hd rfl rfl | ktr_room); (case z146k8 => first | exact room_ok hu rfl rfl | ktr_units)); (try dsimp only); intro k' t' vs' ns' n' ht' hI' hP' hL' hk0' hk1' h' tk' F' N';  (try k_sweep); (try k_fold))
  k_with "own call ref" => (k_here; (with_reducible show wpAny _ _ (call (Value.ref 285) _) _ _ _);  k_dflt (refine' con_use ?z147k1 ?z147k2 ?z147k3 ?z147k4 ?z147k5 ?z147k6 (c_signs _ _ _ _ _ _ _ _ _ _ _ _ _ _ _ _ _ ?z147u1 ?z147i1 ?z147p1 ?z147z1 ?z147l1 ?z147n1 ?z147i2 ?z147z2 ?z147z3 ?z147z4 ?z147z5) ?z147k7 ?z147k8 ?_; (case z147k1 => k_asm); (case z147k2 => k_asm); (case z147k3 => k_asm); (case z147k4 => k_asm); (case z147k5 => k_asm); (case z147k6 => first | exact rfl | assumption); (case z147u1 => k_updF); (case z147i1 => with_reducible assumption); (case z147p1 => assumption); (case z147z1 => walk_at "omg"); (case z147l1 => first | (with_reducible assumption) | assumption | k_mem); (case z147n1 => k_ne); (case z147i2 => first | with_reducible assumption | exact .cons _ _ (.cons _ _ (.cons _ _ .nil)) | exact .cons _ _ (.cons _ _ (.cons _ _ (.cons _ _ (.cons _ _ .nil))))); (case z147z2 => (simp only [List.length_cons, List.length_nil]; omega)); (case z147z3 => (simp only [List.length_cons, List.length_nil]; omega)); (case z147z4 => walk_at "omg"); (case z147z5 => walk_at "omg"); (case z147k7 => first | exact room_ok hd rfl rfl | ktr_room); (case z147k8 => first | exact room_ok hu rfl rfl | ktr_units)); (try dsimp only); intro r' us' ks' nu' vs' ns' n' ho' hI' hM' hL' hJ' hP' hQ' h' tk' F' N'; (try simp only [LCg.Off1, and_true] at ho'); (try k_sweep); (try k_fold))
  k_with "own call ref" => (k_here; (with_reducible show wpAny _ _ (call (Value.ref 335) _) _ _ _);  k_dflt (refine' con_use ?z148k1 ?z148k2 ?z148k3 ?z148k4 ?z148k5 ?z148k6 (c_pair _ _ _ _ _ _ _ _ _ _ _ _ _ _ _ _ _ _ ?z148d1 ?z148j1 ?z148p1 ?z148z1 ?z148l1 ?z148i1 ?z148l2 ?z148i2 ?z148z2 ?z148z3 ?z148z4 ?z148z5 ?z148n1 ?z148n2) ?z148k7 ?z148k8 ?_; (case z148k1 => k_asm); (case z148k2 => k_asm); (case z148k3 => k_asm); (case z148k4 => k_asm); (case z148k5 => k_asm); (case z148k6 => first | exact rfl | assumption); (case z148d1 => first | (with_reducible assumption) | assumption | k_mem); (case z148j1 => with_reducible assumption); (case z148p1 => assumption); (case z148z1 => walk_at "omg"); (case z148l1 => first | (with_reducible assumption) | assumption | k_mem); (case z148i1 => with_reducible assumption); (case z148l2 => first | (with_reducible assumption) | assumption | k_mem); (case z148i2 => with_reducible assumption); (case z148z2 => walk_at "omg"); (case z148z3 => walk_at "omg"); (case z148z4 => first | exact lt_t (by assumption) | exact lt_i (by assumption)); (case z148z5 => first | exact lt_t (by assumption) | exact lt_i (by assumption)); (case z148n1 => k_ne); (case z148n2 => k_ne); (case z148k7 => first | exact room_ok hd rfl rfl | ktr_room); (case z148k8 => first | exact room_ok hu rfl rfl | ktr_units)); (try dsimp only); intro vs' ns' n' hI' hP' hL' h' tk' F' N';  (try k_sweep); (try k_fold))
  k_with "own call ref" => (k_here; (with_reducible show wpAny _ _ (call (Value.ref 79) _) _ _ _);  k_dflt (refine' con_use ?z149k1 ?z149k2 ?z149k3 ?z149k4 ?z149k5 ?z149k6 (c_mktext _ _ _ _ _ _ _ ) ?z149k7 ?z149k8 ?_; (case z149k1 => k_asm); (case z149k2 => k_asm); (case z149k3 => k_asm); (case z149k4 => k_asm); (case z149k5 => k_asm); (case z149k6 => first | exact rfl | assumption);  (case z149k7 => first | exact room_ok hd rfl rfl | ktr_room); (case z149k8 => first | exact room_ok hu rfl rfl | ktr_units)); (try dsimp only); intro x' d' l1 l2 ha' hb' ta' tb' h' tk' F' N'; (try k_lt l1); (try k_lt2 l2); (try k_sweep); (try k_fold))
  k_with "own call ref" => (k_here; (with_reducible show wpAny _ _ (call (Value.ref 268) _) _ _ _);  k_dflt (refine' con_use ?z150k1 ?z150k2 ?z150k3 ?z150k4 ?z150k5 ?z150k6 (c_svless _ _ _ _ _ _ _ _ _ _ _ _ _ _ _ _ _ _ _ _ _ _ _ _ _ _ _ _ _ _ ?z150a1 ?z150x1 ?z150d1 ?z150l1 ?z150i1 ?z150x2 ?z150d2 ?z150l2 ?z150i2 ?z150z1 ?z150z2) ?z150k7 ?z150k8 ?_; (case z150k1 => k_asm); (case z150k2 => k_asm); (case z150k3 => k_asm); (case z150k4 => k_asm); (case z150k5 => k_asm); (case z150k6 => first | exact rfl | assumption); (case z150a1 => first | (with_reducible assumption) | assumption | k_mem); (case z150x1 => first | (with_reducible assumption) | assumption | k_mem); (case z150d1 => first | (with_reducible assumption) | assumption | k_mem); (case z150l1 => first | (with_reducible assumption) | assumption | k_mem); (case z150i1 => with_reducible assumption); (case z150x2 => first | (with_reducible assumption) | assumption | k_mem); (case z150d2 => first | (with_reducible assumption) | assumption | k_mem); (case z150l2 => first | (with_reducible assumption) | assumption | k_mem); (case z150i2 => with_reducible assumption); (case z150z1 => walk_at "omg"); (case z150z2 => walk_at "omg"); (case z150k7 => first | exact room_ok hd rfl rfl | ktr_room); (case z150k8 => first | exact room_ok hu rfl rfl | ktr_units)); (try dsimp only); intro  h' tk' F' N'; (try (replace N' := news_tail N')); (try k_sweep); (try k_fold))
  k_with "own call ref" => (k_here; (with_reducible show wpAny _ _ (call (Value.ref 316) _) _ _ _);  k_dflt (refine' con_use ?z151k1 ?z151k2 ?z151k3 ?z151k4 ?z151k5 ?z151k6 (c_parts2 _ _ _ _ _ _ _ _ _ _ ?z151l1 ?z151i1 ?z151z1) ?z151k7 ?z151k8 ?_; (case z151k1 => k_asm); (case z151k2 => k_asm); (case z151k3 => k_asm); (case z151k4 => k_asm); (case z151k5 => k_asm); (case z151k6 => first | exact rfl | assumption); (case z151l1 => first | (with_reducible assumption) | assumption | k_mem); (case z151i1 => with_reducible assumption); (case z151z1 => walk_at "omg"); (case z151k7 => first | exact room_ok hd rfl rfl | ktr_room); (case z151k8 => first | exact room_ok hu rfl rfl | ktr_units)); (try dsimp only); intro r' vs' n' tups' hP' ho' hl' h' tk' F' N'; (try simp only [List.cons_append, List.nil_append] at N'); (try k_sweep); (try k_fold))
  k_with "own call ref" => (k_here; (with_reducible show wpAny _ _ (call (Value.ref 323) _) _ _ _);  k_dflt (refine' con_use ?z152k1 ?z152k2 ?z152k3 ?z152k4 ?z152k5 ?z152k6 (c_ahead _ _ _ _ _ _ _ _ _ _ _ _ _ _ ?z152l1 ?z152q1 ?z152l2 ?z152q2 ?z152z1 ?z152z2) ?z152k7 ?z152k8 ?_; (case z152k1 => k_asm); (case z152k2 => k_asm); (case z152k3 => k_asm); (case z152k4 => k_asm); (case z152k5 => k_asm); (case z152k6 => first | exact rfl | assumption); (case z152l1 => first | (with_reducible assumption) | assumption | k_mem); (case z152q1 => exact PartsIn.mono (by assumption) (fun p hp => by simp only [List.mem_cons, List.mem_append, hp, or_true, true_or])); (case z152l2 => first | (with_reducible assumption) | assumption | k_mem); (case z152q2 => exact PartsIn.mono (by assumption) (fun p hp => by simp only [List.mem_cons, List.mem_append, hp, or_true, true_or])); (case z152z1 => walk_at "omg"); (case z152z2 => walk_at "omg"); (case z152k7 => first | exact room_ok hd rfl rfl | ktr_room); (case z152k8 => first | exact room_ok hu rfl rfl | ktr_units)); (try dsimp only); intro  h' tk' F' N';  (try k_sweep); (try k_fold))
  k_with "own call ref" => (k_here; (with_reducible show wpAny _ _ (call (Value.ref 330) _) _ _ _);  k_dflt (refine' con_use ?z153k1 ?z153k2 ?z153k3 ?z153k4 ?z153k5 ?z153k6 (c_truth _ _ _ _ _ _ _ ) ?z153k7 ?z153k8 ?_; (case z153k1 => k_asm); (case z153k2 => k_asm); (case z153k3 => k_asm); (case z153k4 => k_asm); (case z153k5 => k_asm); (case z153k6 => first | exact rfl | assumption);  (case z153k7 => first | exact room_ok hd rfl rfl | ktr_room); (case z153k8 => first | exact room_ok hu rfl rfl | ktr_units)); (try dsimp only); intro  h' tk' F' N';  (try k_sweep); (try k_fold))
  k_with "own call ref" => (k_here; (with_reducible show wpAny _ _ (call (Value.ref 226) _) _ _ _); k_dflt (refine' conr_use ?z154k1 ?z154k2 ?z154k3 ?z154k4 ?z154k5 ?z154k6 (c_raise _ _ _ _ _ _ _ _ _ _ _ _ _ _ _ _ _ _ _ _ _ _ _ _ _ _ _ _ _ _ _ _ ?z154a1 ?z154x1 ?z154d1 ?z154l1 ?z154i1 ?z154x2 ?z154d2 ?z154l2 ?z154i2 ?z154z1 ?z154z2 ?z154z3) ?z154k7 ?z154k8 ?_; (case z154k1 => k_asm); (case z154k2 => k_asm); (case z154k3 => k_asm); (case z154k4 => k_asm); (case z154k5 => k_asm); (case z154k6 => first | exact rfl | assumption); (case z154a1 => first | (with_reducible assumption) | assumption | k_mem); (case z154x1 => first | (with_reducible assumption) | assumption | k_mem); (case z154d1 => first | (with_reducible assumption) | assumption | k_mem); (case z154l1 => first | (with_reducible assumption) | assumption | k_mem); (case z154i1 => first | with_reducible assumption | exact .nil); (case z154x2 => first | (with_reducible assumption) | assumption | k_mem); (case z154d2 => first | (with_reducible assumption) | assumption | k_mem); (case z154l2 => first | (with_reducible assumption) | assumption | k_mem); (case z154i2 => with_reducible assumption); (case z154z1 => walk_at "omg"); (case z154z2 => walk_at "omg"); (case z154z3 => walk_at "omg"); (case z154k7 => ktr_room); (case z154k8 => ktr_units)); (try dsimp only); intro g' e' D' t' oD' mA' tok' h' tk' FG' U' R' hu' hs'; (try k_fold))
  k_with "own noteFrame ref" => (k_here; k_dflt (refine' caught_DB ?z155K ?z155F ?z155U ?z155R ?z155X ?z155T ?z155ex ?_; (case z155U => assumption); (case z155K => assumption); (case z155F => assumption); (case z155R => assumption); (case z155X => k_asm); (case z155T => k_asm); (case z155ex => k_is); k_whole); intro h' ws' tk' F' N'; (try k_sweep))
  k_with "own getAttr ref" => (k_here; k_dflt (refine' sig_get ?z156F ?z156X ?z156N ?z156m ?z156d ?z156u ?z156a ?z156b ?z156v ?z156h ?_; (case z156F => k_asm); (case z156X => k_asm); (case z156N => k_asm); (case z156m => k_mem); (case z156d => k_mem); (case z156u => assumption); (case z156a => exact k30sym _); (case z156b => exact lk_sym); (case z156v => assumption); (case z156h => rfl); k_whole))
  k_with "own compareOp Eq ref ref" => (k_here; k_extra "Eq")
  k_with "If" => ((with_reducible show wpAny _ _ (eval (PySem.Expr.IfExp _ (PySem.Expr.Subscript _ _ _) (PySem.Expr.Call _ _ _ _) _) _) _ _ _); (rename Fr _ _ _ _ => lF'); (rename News _ _ _ _ => lN'); k_dflt (refine' joinList [] lF' lN' ?hz1 ?hz2 ?hm1 ?br1 ?go1); (case hz1 => k_dflt (exact rfl)); (case hz2 => k_dflt (exact rfl)); (case hm1 => k_dflt k_mem); (case' br1 => have jm9 := JMark.mk); (case' go1 => (intro D' vs' ns' n' vd' nd' kd' h' tk' F' N' hI' hB' hM' hJ' hP' hQ' hO'; (try k_sweep))))
  k_with "If" => ((with_reducible show wpAny _ _ (eval (PySem.Expr.IfExp _ (PySem.Expr.Subscript _ _ _) (PySem.Expr.Name _ _) _) _) _ _ _); (rename Fr _ _ _ _ => lF'); (rename News _ _ _ _ => lN'); k_dflt (refine' joinList2 lF' lN' ?hz81 ?hz82 ?hm81 ?hz83 ?hm82 ?br81 ?go81); (case hz81 => k_dflt (exact rfl)); (case hz82 => k_dflt (exact rfl)); (case hm81 => k_dflt k_mem); (case hz83 => k_dflt (exact rfl)); (case hm82 => k_dflt k_mem); (case' br81 => have jm9 := JMark.mk); (case' go81 => (intro D' vs' ns' n' vd' nd' kd' h' tk' F' N' hI' hB' hM' hJ' hP' hQ' hO'; (try k_sweep))))
  k_with "JList" => (k_dflt (refine' jList ?F ?N ?m1 ?m2 ?m3 ?m4 ?j1 ?j2 ?j3 ?j4 ?j5 ?j6 ?j7; (case F => assumption); (case N => assumption); (case m1 => k_mem); (case m2 => k_mem); (case m3 => k_mem); (case m4 => first | exact List.forall_mem_nil _ | exact List.forall_mem_cons.mpr ⟨by k_mem, List.forall_mem_nil _⟩); (case j1 => assumption); (case j2 => omega); (case j3 => first | assumption | exact (fun x hx => (by assumption : ∀ x ∈ _, x ∈ [(97 : Int), 98, 65]) x (List.mem_of_mem_drop hx)) | exact (fun x hx => (by assumption : ∀ x ∈ _, x ∈ [(97 : Int), 98, 65]) x (List.mem_of_mem_take hx))); (case j4 => assumption); (case j5 => assumption); (case j6 => omega); (case j7 => k_ne)))
  k_with "Comp" => (k_dflt (refine LCg.CompSrc.ledger (by rfl) (by k_asm) (by k_asm) (by k_mem) (by exact Nat.le_of_ble_eq_true rfl) ?_); intro g9; k_dflt (refine' compB [_, _] _ ?e5 ?hl5 ?turn5 ?fin5); (case e5 => k_dflt (exact rfl)); (case hl5 => k_dflt k_mem); (case' turn5 => rintro i9 b9 I oI C oC D m₂ ys h tk E' hlt hC hx F9 N9 off9 ne9; (simp only [LCg.Off3] at off9)); (case' fin5 => (dsimp only)))
  k_with "Comp" => ((rename Fr _ _ _ _ => lF'); (rename News _ _ _ _ => lN'); (rename IntsAre _ (List.take _ _) => i9); k_dflt (refine LCg.CompSrc.ledger (by rfl) lF' lN' (by k_mem) (by rw [PySem.sizeLine_eq, List.size_toArray, i9.length, List.length_take]; omega) ?_); intro g9; k_dflt (refine' compL (σ := Unit) (fun _ => _) (fun i ys c => ∃ ks, IntsAre ys ks ∧ (∀ x ∈ ks, 0 ≤ x) ∧ ks.length = i) () i9 ?hl ?hp ?turn ?fin); (case hl => (intro _; k_dflt k_mem)); (case hp => exact ⟨[], .nil, (fun _ h => absurd h List.not_mem_nil), rfl⟩); (case' turn => rintro ⟨⟩ i k t I oI C oC D m₂ ys h tk E' hlt hki hmem ⟨zs, hz3, hz4, hz5⟩ hC hx F9 N9 off9 ne9; (try dsimp only at N9 off9)); (case' fin => rintro ⟨⟩ ys ⟨zs, hz3, hz4, hz5⟩; (try dsimp only); rw [List.length_take] at hz5))
  k_with "CEnd" => (first | k_dflt (exact cEnd () (by assumption) (by assumption) (fun p hp => by repeat' (first | exact hp | refine List.Mem.tail _ ?_)) off9 rfl) | k_dflt (exact cEnd () (by assumption) (by assumption) (fun p hp => by repeat' (first | exact hp | refine List.Mem.tail _ ?_)) off9 ⟨zs ++ [_], IntsAre.append hz3 (.cons _ _ .nil), mem_snocP hz4 (deck_mod _), by rw [List.length_append, hz5]; rfl⟩))
  k_with "Bools" => (k_dflt (refine' ne_bools_same [_, _] [_, _] ?N6 ?a6 ?b6 ?e6 ?f6 ?u6 ?h6 ?_); (case N6 => k_asm); (case a6 => k_dflt k_mem); (case b6 => k_dflt k_mem); (case e6 => k_dflt (exact rfl)); (case f6 => k_dflt (exact rfl)); (case u6 => units_room); (case h6 => exact two (vl_parts _ _ _ (Nat.le_refl _)) (vl_parts _ _ _ (Nat.le_refl _))))
  k_with "Eq" => (k_dflt (refine' eq_bools_no [_, _] [_, _] ?N7 ?a7 ?b7 ?e7 ?f7 ?u7 ?h7 ?_); (case N7 => k_asm); (case a7 => k_dflt k_mem); (case b7 => k_dflt k_mem); (case e7 => k_dflt (exact rfl)); (case f7 => k_dflt (exact rfl)); (case u7 => units_room); (case h7 => exact two_no))
  k_steps
end
end Mine
theorem PySem.Challenge.cw_np0039_01_holds : PySem.Challenge.rw_np0039_01.Holds :=
  Mine.walk_law
