import PyProof.Rows.All
import Wide.All
import OpenK.AllK
import Wide.FinOn
import Lean
import PySem.Challenge.RW_og0204_01
open PySem PySem.W PyProof.Rows PySem.Calls PySem.Spec
open Sem (wp)
set_option Elab.async false
set_option maxRecDepth 100000
set_option maxHeartbeats 8000000
namespace Mine
set_option compiler.extract_closed false
inductive AtP (n : Nat) (x : Stmt) : Prop where
  | mk (h : PySem.Challenge.pw_og0204_01.main.body[n]? = some x)
inductive ScP (x : Scope) : Prop where
  | mk (b : List Stmt) (f : Bool) (l : Str) (m : List (Str × Const)) (h : PySem.Challenge.pw_og0204_01.main = ⟨b, x, f, l, m⟩)
def atS (n : Nat) (x : Stmt) (_ : AtP n x) : Stmt := x
def atSc (x : Scope) (_ : ScP x) : Scope := x
def stAt (n : Nat) : Stmt := PySem.Challenge.pw_og0204_01.main.body.getD n default
def s0 : Stmt := stAt 0
def s1 : Stmt := stAt 1
def s2 : Stmt := stAt 2
def s3 : Stmt := stAt 3
def s4 : Stmt := stAt 4
def s5 : Stmt := stAt 5
def s6 : Stmt := stAt 6
def s7 : Stmt := stAt 7
def s8 : Stmt := stAt 8
def s9 : Stmt := stAt 9
def s10 : Stmt := stAt 10
def s11 : Stmt := stAt 11
def s12 : Stmt := stAt 12
def s13 : Stmt := stAt 13
def s14 : Stmt := stAt 14
def s15 : Stmt := stAt 15
def s16 : Stmt := stAt 16
def s17 : Stmt := stAt 17
def s18 : Stmt := stAt 18
def s19 : Stmt := stAt 19
def s20 : Stmt := stAt 20
def s21 : Stmt := stAt 21
def s22 : Stmt := stAt 22
def s23 : Stmt := stAt 23
def s24 : Stmt := stAt 24
def s25 : Stmt := stAt 25
def s26 : Stmt := stAt 26
def s27 : Stmt := stAt 27
def s28 : Stmt := stAt 28
def s29 : Stmt := stAt 29
def s30 : Stmt := stAt 30
def s31 : Stmt := stAt 31
def s32 : Stmt := stAt 32
def s33 : Stmt := stAt 33
def s34 : Stmt := stAt 34
def s35 : Stmt := stAt 35
def s36 : Stmt := stAt 36
def s37 : Stmt := stAt 37
def s38 : Stmt := stAt 38
def s39 : Stmt := stAt 39
def sc : Scope := by apply atSc; exact ⟨_, _, _, _, rfl⟩
def p : Program := { main := { body := s0 :: s1 :: s2 :: s3 :: s4 :: s5 :: s6 :: s7 :: s8 :: s9 :: s10 :: s11 :: s12 :: s13 :: s14 :: s15 :: s16 :: s17 :: s18 :: s19 :: s20 :: s21 :: s22 :: s23 :: s24 :: s25 :: s26 :: s27 :: s28 :: s29 :: s30 :: s31 :: s32 :: s33 :: s34 :: s35 :: s36 :: s37 :: s38 :: s39 :: [], scope := sc, futureAnnotations := false, file := "/claim/cut.py", more := [] }, modules := [], parses := [], absent := [], harvested := [], given := { argv := [], stdin := [], environ := (some [([76, 67, 95, 65, 76, 76], [67, 46, 85, 84, 70, 45, 56])]) } }
theorem p_eq : PySem.Challenge.pw_og0204_01 = p := rfl
def r : PySem.W.OpenLaw := { prog := p, name := (PySem.Str.ofString "law"), about := [(PySem.Str.ofString "parted")], foot := 18, most := some 63, bound := none, writes := false }
theorem r_eq : PySem.Challenge.rw_og0204_01 = r := rfl
inductive FnP (s : Stmt) (name : Str) (params : Arguments) (body : List Stmt) (scope : Scope) : Prop where
  | mk (ds : List Expr) (ret : Option Expr) (tps : List TypeParam) (ts : Option Scope) (bind : Str) (pos : Pos) (h : s = .FunctionDef name params body ds ret tps scope ts bind pos)
inductive MeP (s : Stmt) (name : Str) (params : Arguments) (body : List Stmt) (scope : Scope) : Prop where
  | mk (cn : Str) (bs : List Expr) (ks : List Keyword) (ds' : List Expr) (tps' : List TypeParam) (sc : Scope) (ts' : Option Scope) (cb : Str) (ca : List Str) (cp : Pos) (rest : List Stmt) (ds : List Expr) (ret : Option Expr) (tps : List TypeParam) (ts : Option Scope) (bind : Str) (pos : Pos)
    (h : s = .ClassDef cn bs ks (.FunctionDef name params body ds ret tps scope ts bind pos :: rest) ds' tps' sc ts' cb ca cp)
def mkFn (s : Stmt) (cd : Addr) (pm : Value) (name : Str) (params : Arguments) (body : List Stmt) (scope : Scope) (_ : FnP s name params body scope) : Obj :=
  ⟨.type "function", none, .func (fnOf name name params body scope .none .none .none pm none (.ref cd) .none), #[]⟩
def mkMe (s : Stmt) (cd : Addr) (pm : Value) (qual : Str) (name : Str) (params : Arguments) (body : List Stmt) (scope : Scope) (_ : MeP s name params body scope) : Obj :=
  ⟨.type "function", none, .func (fnOf name qual params body scope .none .none .none pm none (.ref cd) .none), #[]⟩
noncomputable def k2 (P : Params) : Obj := { cls := Value.none, data := Data.dict #[{ hash := PyData.keyHash P (Str.ofString "type.__subclasses__.Exception.0"), key := Value.str (Str.ofString "type.__subclasses__.Exception.0") 214, val := Value.int 31 0 }, { hash := PyData.keyHash P (Str.ofString "type.__subclasses__.Exception.n"), key := Value.str (Str.ofString "type.__subclasses__.Exception.n") 215, val := Value.int 1 0 }] 2 }
noncomputable def k3 (P : Params) : Obj := { cls := Value.type "dict", data := Data.dict #[{ hash := PyData.keyHash P (Str.ofString "__name__"), key := Value.str (Str.ofString "__name__") 165, val := Value.str (Str.ofString "law_og0204_01") 395 }, { hash := PyData.keyHash P (Str.ofString "__doc__"), key := Value.str (Str.ofString "__doc__") 166, val := Value.none }, { hash := PyData.keyHash P (Str.ofString "__package__"), key := Value.str (Str.ofString "__package__") 167, val := Value.none }, { hash := PyData.keyHash P (Str.ofString "__loader__"), key := Value.str (Str.ofString "__loader__") 168, val := Value.builtin "__main__.__loader__#opaque" }, { hash := PyData.keyHash P (Str.ofString "__spec__"), key := Value.str (Str.ofString "__spec__") 169, val := Value.none }, { hash := PyData.keyHash P (Str.ofString "__annotations__"), key := Value.str (Str.ofString "__annotations__") 170, val := Value.ref 6 }, { hash := PyData.keyHash P (Str.ofString "__builtins__"), key := Value.str (Str.ofString "__builtins__") 171, val := Value.ref 4 }, { hash := PyData.keyHash P (Str.ofString "__file__"), key := Value.str (Str.ofString "__file__") 173, val := Value.str (Str.ofString "/claim/cut.py") 172 }, { hash := PyData.keyHash P (Str.ofString "__cached__"), key := Value.str (Str.ofString "__cached__") 174, val := Value.none }, { hash := PyData.keyHash P (Str.ofString "DebugFault"), key := Value.str (Str.ofString "DebugFault") 217, val := Value.ref 31 }, { hash := PyData.keyHash P (Str.ofString "CommandFault"), key := Value.str (Str.ofString "CommandFault") 233, val := Value.ref 44 }, { hash := PyData.keyHash P (Str.ofString "LETTERS"), key := Value.str (Str.ofString "LETTERS") 237, val := Value.str (Str.ofString "xduotacsi") 236 }, { hash := PyData.keyHash P (Str.ofString "SIZES"), key := Value.str (Str.ofString "SIZES") 247, val := Value.ref 47 }, { hash := PyData.keyHash P (Str.ofString "DIGITS"), key := Value.str (Str.ofString "DIGITS") 249, val := Value.str (Str.ofString "0123456789") 248 }, { hash := PyData.keyHash P (Str.ofString "Form"), key := Value.str (Str.ofString "Form") 282, val := Value.ref 64 }, { hash := PyData.keyHash P (Str.ofString "commands"), key := Value.str (Str.ofString "commands") 288, val := Value.ref 75 }, { hash := PyData.keyHash P (Str.ofString "short_forms"), key := Value.str (Str.ofString "short_forms") 294, val := Value.ref 82 }, { hash := PyData.keyHash P (Str.ofString "command_of"), key := Value.str (Str.ofString "command_of") 300, val := Value.ref 87 }, { hash := PyData.keyHash P (Str.ofString "first_word"), key := Value.str (Str.ofString "first_word") 308, val := Value.ref 94 }, { hash := PyData.keyHash P (Str.ofString "word_end"), key := Value.str (Str.ofString "word_end") 316, val := Value.ref 101 }, { hash := PyData.keyHash P (Str.ofString "parted"), key := Value.str (Str.ofString "parted") 326, val := Value.ref 108 }, { hash := PyData.keyHash P (Str.ofString "form_of"), key := Value.str (Str.ofString "form_of") 338, val := Value.ref 115 }, { hash := PyData.keyHash P (Str.ofString "is_name_sign"), key := Value.str (Str.ofString "is_name_sign") 345, val := Value.ref 122 }, { hash := PyData.keyHash P (Str.ofString "place_and_condition"), key := Value.str (Str.ofString "place_and_condition") 355, val := Value.ref 129 }, { hash := PyData.keyHash P (Str.ofString "whole_of"), key := Value.str (Str.ofString "whole_of") 361, val := Value.ref 134 }, { hash := PyData.keyHash P (Str.ofString "numbers_of"), key := Value.str (Str.ofString "numbers_of") 375, val := Value.ref 141 }, { hash := PyData.keyHash P (Str.ofString "number_and_rest"), key := Value.str (Str.ofString "number_and_rest") 386, val := Value.ref 148 }, { hash := PyData.keyHash P (Str.ofString "count_of"), key := Value.str (Str.ofString "count_of") 394, val := Value.ref 155 }, { hash := PyData.keyHash P (Str.ofString "_law_names"), key := Value.str (Str.ofString "_law_names") 402, val := Value.ref 162 }, { hash := PyData.keyHash P (Str.ofString "_law_shorts"), key := Value.str (Str.ofString "_law_shorts") 408, val := Value.ref 169 }, { hash := PyData.keyHash P (Str.ofString "_law_rests"), key := Value.str (Str.ofString "_law_rests") 418, val := Value.ref 170 }, { hash := PyData.keyHash P (Str.ofString "_law_places"), key := Value.str (Str.ofString "_law_places") 429, val := Value.ref 171 }, { hash := PyData.keyHash P (Str.ofString "_law_conditions"), key := Value.str (Str.ofString "_law_conditions") 436, val := Value.ref 172 }, { hash := PyData.keyHash P (Str.ofString "_law_draw"), key := Value.str (Str.ofString "_law_draw") 447, val := Value.ref 179 }, { hash := PyData.keyHash P (Str.ofString "_law_pick"), key := Value.str (Str.ofString "_law_pick") 455, val := Value.ref 186 }, { hash := PyData.keyHash P (Str.ofString "_law_blanks"), key := Value.str (Str.ofString "_law_blanks") 462, val := Value.ref 193 }, { hash := PyData.keyHash P (Str.ofString "_law_heard"), key := Value.str (Str.ofString "_law_heard") 470, val := Value.ref 200 }, { hash := PyData.keyHash P (Str.ofString "_law_begins"), key := Value.str (Str.ofString "_law_begins") 476, val := Value.ref 205 }, { hash := PyData.keyHash P (Str.ofString "_law_meant"), key := Value.str (Str.ofString "_law_meant") 482, val := Value.ref 210 }, { hash := PyData.keyHash P (Str.ofString "_law_stem"), key := Value.str (Str.ofString "_law_stem") 491, val := Value.ref 217 }, { hash := PyData.keyHash P (Str.ofString "_law_form"), key := Value.str (Str.ofString "_law_form") 504, val := Value.ref 224 }, { hash := PyData.keyHash P (Str.ofString "_law_form_right"), key := Value.str (Str.ofString "_law_form_right") 510, val := Value.ref 229 }, { hash := PyData.keyHash P (Str.ofString "_law_line_right"), key := Value.str (Str.ofString "_law_line_right") 524, val := Value.ref 236 }, { hash := PyData.keyHash P (Str.ofString "_law_place_right"), key := Value.str (Str.ofString "_law_place_right") 536, val := Value.ref 243 }, { hash := PyData.keyHash P (Str.ofString "_law_numbers_right"), key := Value.str (Str.ofString "_law_numbers_right") 542, val := Value.ref 248 }, { hash := PyData.keyHash P (Str.ofString "law"), key := Value.str (Str.ofString "law") 548, val := Value.ref 253 }] 46 }
noncomputable def k15 (P : Params) : Obj := { cls := Value.type "tuple", data := Data.seq #[Value.type "Exception"] }
noncomputable def k27 (P : Params) : Obj := { cls := Value.type "code", data := Data.fields #[Value.str (Str.ofString "__init__") 201, Value.str (Str.ofString "DebugFault.__init__") 202, Value.str (Str.ofString "/claim/cut.py") 203, Value.int 4 0, Value.int 2 0, Value.int 0 0, Value.int 0 0, Value.int 3 0, Value.ref 22, Value.bool true, Value.int 181 0, Value.ref 23, Value.none, Value.ref 24, Value.ref 25, Value.ref 26, Value.int 206 0, Value.int 4 0, Value.str (Str.ofString "/claim/cut.py") 207] }
noncomputable def k28 (P : Params) : Obj := by apply mkMe s1 27 (Value.str (Str.ofString "stopmill.errors") 187) "DebugFault.__init__"; exact ⟨_, _, _, _, _, _, _, _, _, _, _, _, _, _, _, _, _, rfl⟩
noncomputable def k29 (P : Params) : Obj := { cls := Value.type "tuple", data := Data.seq #[Value.str (Str.ofString "word") 209] }
noncomputable def k30 (P : Params) : Obj := { cls := Value.type "dict", data := Data.dict #[{ hash := PyData.keyHash P (Str.ofString "__module__"), key := Value.str (Str.ofString "__module__") 196, val := Value.str (Str.ofString "stopmill.errors") 187 }, { hash := PyData.keyHash P (Str.ofString "__firstlineno__"), key := Value.str (Str.ofString "__firstlineno__") 200, val := Value.int 2 199 }, { hash := PyData.keyHash P (Str.ofString "__init__"), key := Value.str (Str.ofString "__init__") 208, val := Value.ref 28 }, { hash := PyData.keyHash P (Str.ofString "__static_attributes__"), key := Value.str (Str.ofString "__static_attributes__") 210, val := Value.ref 29 }, { hash := PyData.keyHash P (Str.ofString "__weakref__"), key := Value.str (Str.ofString "__weakref__") 212, val := Value.ref 32 }, { hash := PyData.keyHash P (Str.ofString "__doc__"), key := Value.str (Str.ofString "__doc__") 213, val := Value.none }] 3 }
noncomputable def k31 (P : Params) : Obj := { cls := Value.type "type", data := Data.cls { name := Str.ofString "DebugFault", bases := [Value.type "Exception"], mro := [Value.ref 31, Value.type "Exception", Value.type "BaseException", Value.type "object"], ns := 30, qualname := Str.ofString "DebugFault", subclasses := [Value.ref 44] }, slots := #[some (Value.ref 15), none, some (Value.str (Str.ofString "DebugFault") 189), some (Value.str (Str.ofString "DebugFault") 197), some (Value.builtin "Exception.__new__"), some (Value.bool true)] }
noncomputable def k32 (P : Params) : Obj := { cls := Value.type "getset_descriptor", data := Data.fields #[Value.str (Str.ofString "__weakref__") 211, Value.ref 31, Value.builtin "ExceptionGroup.__weakref__", Value.none] }
noncomputable def k35 (P : Params) : Obj := { cls := Value.type "tuple", data := Data.seq #[Value.ref 31] }
noncomputable def k43 (P : Params) : Obj := { cls := Value.type "dict", data := Data.dict #[{ hash := PyData.keyHash P (Str.ofString "__module__"), key := Value.str (Str.ofString "__module__") 225, val := Value.str (Str.ofString "stopmill.errors") 187 }, { hash := PyData.keyHash P (Str.ofString "__firstlineno__"), key := Value.str (Str.ofString "__firstlineno__") 229, val := Value.int 7 228 }, { hash := PyData.keyHash P (Str.ofString "__static_attributes__"), key := Value.str (Str.ofString "__static_attributes__") 230, val := Value.ref 42 }, { hash := PyData.keyHash P (Str.ofString "__doc__"), key := Value.str (Str.ofString "__doc__") 231, val := Value.none }] 2 }
noncomputable def k44 (P : Params) : Obj := { cls := Value.type "type", data := Data.cls { name := Str.ofString "CommandFault", bases := [Value.ref 31], mro := [Value.ref 44, Value.ref 31, Value.type "Exception", Value.type "BaseException", Value.type "object"], ns := 43, qualname := Str.ofString "CommandFault" }, slots := #[some (Value.ref 35), none, some (Value.str (Str.ofString "CommandFault") 218), some (Value.str (Str.ofString "CommandFault") 226), some (Value.builtin "Exception.__new__"), some (Value.bool true)] }
noncomputable def k47 (P : Params) : Obj := { cls := Value.type "dict", data := Data.dict #[{ hash := PyData.keyHash P (Str.ofString "b"), key := Value.str (Str.ofString "b") 238, val := Value.int 1 239 }, { hash := PyData.keyHash P (Str.ofString "h"), key := Value.str (Str.ofString "h") 240, val := Value.int 2 241 }, { hash := PyData.keyHash P (Str.ofString "w"), key := Value.str (Str.ofString "w") 242, val := Value.int 4 243 }] 3 }
noncomputable def k60 (P : Params) : Obj := { cls := Value.type "code", data := Data.fields #[Value.str (Str.ofString "__init__") 262, Value.str (Str.ofString "Form.__init__") 263, Value.str (Str.ofString "/claim/cut.py") 264, Value.int 15 0, Value.int 4 0, Value.int 0 0, Value.int 0 0, Value.int 3 0, Value.ref 55, Value.bool true, Value.int 181 0, Value.ref 56, Value.none, Value.ref 57, Value.ref 58, Value.ref 59, Value.int 269 0, Value.int 15 0, Value.str (Str.ofString "/claim/cut.py") 270] }
noncomputable def k61 (P : Params) : Obj := by apply mkMe s7 60 (Value.str (Str.ofString "stopmill.words") 234) "Form.__init__"; exact ⟨_, _, _, _, _, _, _, _, _, _, _, _, _, _, _, _, _, rfl⟩
noncomputable def k62 (P : Params) : Obj := { cls := Value.type "tuple", data := Data.seq #[Value.str (Str.ofString "count") 272, Value.str (Str.ofString "letter") 273, Value.str (Str.ofString "size") 274] }
noncomputable def k63 (P : Params) : Obj := { cls := Value.type "dict", data := Data.dict #[{ hash := PyData.keyHash P (Str.ofString "__module__"), key := Value.str (Str.ofString "__module__") 257, val := Value.str (Str.ofString "stopmill.words") 234 }, { hash := PyData.keyHash P (Str.ofString "__firstlineno__"), key := Value.str (Str.ofString "__firstlineno__") 261, val := Value.int 13 260 }, { hash := PyData.keyHash P (Str.ofString "__init__"), key := Value.str (Str.ofString "__init__") 271, val := Value.ref 61 }, { hash := PyData.keyHash P (Str.ofString "__static_attributes__"), key := Value.str (Str.ofString "__static_attributes__") 275, val := Value.ref 62 }, { hash := PyData.keyHash P (Str.ofString "__dict__"), key := Value.str (Str.ofString "__dict__") 277, val := Value.ref 65 }, { hash := PyData.keyHash P (Str.ofString "__weakref__"), key := Value.str (Str.ofString "__weakref__") 279, val := Value.ref 66 }, { hash := PyData.keyHash P (Str.ofString "__doc__"), key := Value.str (Str.ofString "__doc__") 280, val := Value.none }] 4 }
noncomputable def k64 (P : Params) : Obj := { cls := Value.type "type", data := Data.cls { name := Str.ofString "Form", bases := [Value.type "object"], mro := [Value.ref 64, Value.type "object"], ns := 63, qualname := Str.ofString "Form" }, slots := #[none, none, some (Value.str (Str.ofString "Form") 250), some (Value.str (Str.ofString "Form") 258), some (Value.builtin "object.__new__"), some (Value.bool true)] }
noncomputable def k65 (P : Params) : Obj := { cls := Value.type "getset_descriptor", data := Data.fields #[Value.str (Str.ofString "__dict__") 276, Value.ref 64, Value.builtin "function.__dict__", Value.builtin "function.__dict__#set"] }
noncomputable def k66 (P : Params) : Obj := { cls := Value.type "getset_descriptor", data := Data.fields #[Value.str (Str.ofString "__weakref__") 278, Value.ref 64, Value.builtin "ExceptionGroup.__weakref__", Value.none] }
noncomputable def k74 (P : Params) : Obj := { cls := Value.type "code", data := Data.fields #[Value.str (Str.ofString "commands") 283, Value.str (Str.ofString "commands") 284, Value.str (Str.ofString "/claim/cut.py") 285, Value.int 19 0, Value.int 0 0, Value.int 0 0, Value.int 0 0, Value.int 3 0, Value.ref 69, Value.bool true, Value.int 181 0, Value.ref 70, Value.none, Value.ref 71, Value.ref 72, Value.ref 73, Value.int 286 0, Value.int 19 0, Value.str (Str.ofString "/claim/cut.py") 287] }
noncomputable def k75 (P : Params) : Obj := by apply mkFn s8 74 (Value.str (Str.ofString "stopmill.words") 234); exact ⟨_, _, _, _, _, _, rfl⟩
noncomputable def k81 (P : Params) : Obj := { cls := Value.type "code", data := Data.fields #[Value.str (Str.ofString "short_forms") 289, Value.str (Str.ofString "short_forms") 290, Value.str (Str.ofString "/claim/cut.py") 291, Value.int 21 0, Value.int 0 0, Value.int 0 0, Value.int 0 0, Value.int 3 0, Value.ref 76, Value.bool true, Value.int 181 0, Value.ref 77, Value.none, Value.ref 78, Value.ref 79, Value.ref 80, Value.int 292 0, Value.int 21 0, Value.str (Str.ofString "/claim/cut.py") 293] }
noncomputable def k82 (P : Params) : Obj := by apply mkFn s9 81 (Value.str (Str.ofString "stopmill.words") 234); exact ⟨_, _, _, _, _, _, rfl⟩
noncomputable def k86 (P : Params) : Obj := { cls := Value.type "code", data := Data.fields #[Value.str (Str.ofString "command_of") 295, Value.str (Str.ofString "command_of") 296, Value.str (Str.ofString "/claim/cut.py") 297, Value.int 23 0, Value.int 1 0, Value.int 0 0, Value.int 0 0, Value.int 3 0, Value.ref 83, Value.bool true, Value.int 181 0, Value.ref 84, Value.none, Value.none, Value.none, Value.ref 85, Value.int 298 0, Value.int 23 0, Value.str (Str.ofString "/claim/cut.py") 299] }
noncomputable def k87 (P : Params) : Obj := by apply mkFn s10 86 (Value.str (Str.ofString "stopmill.words") 234); exact ⟨_, _, _, _, _, _, rfl⟩
noncomputable def k93 (P : Params) : Obj := { cls := Value.type "code", data := Data.fields #[Value.str (Str.ofString "first_word") 301, Value.str (Str.ofString "first_word") 302, Value.str (Str.ofString "/claim/cut.py") 303, Value.int 36 0, Value.int 1 0, Value.int 0 0, Value.int 0 0, Value.int 3 0, Value.ref 88, Value.bool true, Value.int 181 0, Value.ref 89, Value.none, Value.ref 90, Value.ref 91, Value.ref 92, Value.int 306 0, Value.int 36 0, Value.str (Str.ofString "/claim/cut.py") 307] }
noncomputable def k94 (P : Params) : Obj := by apply mkFn s11 93 (Value.str (Str.ofString "stopmill.words") 234); exact ⟨_, _, _, _, _, _, rfl⟩
noncomputable def k100 (P : Params) : Obj := { cls := Value.type "code", data := Data.fields #[Value.str (Str.ofString "word_end") 309, Value.str (Str.ofString "word_end") 310, Value.str (Str.ofString "/claim/cut.py") 311, Value.int 42 0, Value.int 1 0, Value.int 0 0, Value.int 0 0, Value.int 3 0, Value.ref 95, Value.bool true, Value.int 181 0, Value.ref 96, Value.none, Value.ref 97, Value.ref 98, Value.ref 99, Value.int 314 0, Value.int 42 0, Value.str (Str.ofString "/claim/cut.py") 315] }
noncomputable def k101 (P : Params) : Obj := by apply mkFn s12 100 (Value.str (Str.ofString "stopmill.words") 234); exact ⟨_, _, _, _, _, _, rfl⟩
noncomputable def k107 (P : Params) : Obj := { cls := Value.type "code", data := Data.fields #[Value.str (Str.ofString "parted") 317, Value.str (Str.ofString "parted") 318, Value.str (Str.ofString "/claim/cut.py") 319, Value.int 47 0, Value.int 1 0, Value.int 0 0, Value.int 0 0, Value.int 3 0, Value.ref 102, Value.bool true, Value.int 181 0, Value.ref 103, Value.none, Value.ref 104, Value.ref 105, Value.ref 106, Value.int 324 0, Value.int 47 0, Value.str (Str.ofString "/claim/cut.py") 325] }
noncomputable def k108 (P : Params) : Obj := by apply mkFn s13 107 (Value.str (Str.ofString "stopmill.words") 234); exact ⟨_, _, _, _, _, _, rfl⟩
noncomputable def k114 (P : Params) : Obj := { cls := Value.type "code", data := Data.fields #[Value.str (Str.ofString "form_of") 327, Value.str (Str.ofString "form_of") 328, Value.str (Str.ofString "/claim/cut.py") 329, Value.int 57 0, Value.int 3 0, Value.int 0 0, Value.int 0 0, Value.int 3 0, Value.ref 109, Value.bool true, Value.int 181 0, Value.ref 110, Value.none, Value.ref 111, Value.ref 112, Value.ref 113, Value.int 336 0, Value.int 57 0, Value.str (Str.ofString "/claim/cut.py") 337] }
noncomputable def k115 (P : Params) : Obj := by apply mkFn s14 114 (Value.str (Str.ofString "stopmill.words") 234); exact ⟨_, _, _, _, _, _, rfl⟩
noncomputable def k121 (P : Params) : Obj := { cls := Value.type "code", data := Data.fields #[Value.str (Str.ofString "is_name_sign") 339, Value.str (Str.ofString "is_name_sign") 340, Value.str (Str.ofString "/claim/cut.py") 341, Value.int 72 0, Value.int 1 0, Value.int 0 0, Value.int 0 0, Value.int 3 0, Value.ref 116, Value.bool true, Value.int 181 0, Value.ref 117, Value.none, Value.ref 118, Value.ref 119, Value.ref 120, Value.int 343 0, Value.int 72 0, Value.str (Str.ofString "/claim/cut.py") 344] }
noncomputable def k122 (P : Params) : Obj := by apply mkFn s15 121 (Value.str (Str.ofString "stopmill.words") 234); exact ⟨_, _, _, _, _, _, rfl⟩
noncomputable def k128 (P : Params) : Obj := { cls := Value.type "code", data := Data.fields #[Value.str (Str.ofString "place_and_condition") 346, Value.str (Str.ofString "place_and_condition") 347, Value.str (Str.ofString "/claim/cut.py") 348, Value.int 74 0, Value.int 1 0, Value.int 0 0, Value.int 0 0, Value.int 3 0, Value.ref 123, Value.bool true, Value.int 181 0, Value.ref 124, Value.none, Value.ref 125, Value.ref 126, Value.ref 127, Value.int 353 0, Value.int 74 0, Value.str (Str.ofString "/claim/cut.py") 354] }
noncomputable def k129 (P : Params) : Obj := by apply mkFn s16 128 (Value.str (Str.ofString "stopmill.words") 234); exact ⟨_, _, _, _, _, _, rfl⟩
noncomputable def k133 (P : Params) : Obj := { cls := Value.type "code", data := Data.fields #[Value.str (Str.ofString "whole_of") 356, Value.str (Str.ofString "whole_of") 357, Value.str (Str.ofString "/claim/cut.py") 358, Value.int 86 0, Value.int 1 0, Value.int 0 0, Value.int 0 0, Value.int 3 0, Value.ref 130, Value.bool true, Value.int 181 0, Value.ref 131, Value.none, Value.none, Value.none, Value.ref 132, Value.int 359 0, Value.int 86 0, Value.str (Str.ofString "/claim/cut.py") 360] }
noncomputable def k134 (P : Params) : Obj := by apply mkFn s17 133 (Value.str (Str.ofString "stopmill.words") 234); exact ⟨_, _, _, _, _, _, rfl⟩
noncomputable def k140 (P : Params) : Obj := { cls := Value.type "code", data := Data.fields #[Value.str (Str.ofString "numbers_of") 362, Value.str (Str.ofString "numbers_of") 363, Value.str (Str.ofString "/claim/cut.py") 364, Value.int 90 0, Value.int 1 0, Value.int 0 0, Value.int 0 0, Value.int 3 0, Value.ref 135, Value.bool true, Value.int 181 0, Value.ref 136, Value.none, Value.ref 137, Value.ref 138, Value.ref 139, Value.int 373 0, Value.int 90 0, Value.str (Str.ofString "/claim/cut.py") 374] }
noncomputable def k141 (P : Params) : Obj := by apply mkFn s18 140 (Value.str (Str.ofString "stopmill.words") 234); exact ⟨_, _, _, _, _, _, rfl⟩
noncomputable def k147 (P : Params) : Obj := { cls := Value.type "code", data := Data.fields #[Value.str (Str.ofString "number_and_rest") 376, Value.str (Str.ofString "number_and_rest") 377, Value.str (Str.ofString "/claim/cut.py") 378, Value.int 101 0, Value.int 2 0, Value.int 0 0, Value.int 0 0, Value.int 3 0, Value.ref 142, Value.bool true, Value.int 181 0, Value.ref 143, Value.none, Value.ref 144, Value.ref 145, Value.ref 146, Value.int 384 0, Value.int 101 0, Value.str (Str.ofString "/claim/cut.py") 385] }
noncomputable def k148 (P : Params) : Obj := by apply mkFn s19 147 (Value.str (Str.ofString "stopmill.words") 234); exact ⟨_, _, _, _, _, _, rfl⟩
noncomputable def k154 (P : Params) : Obj := { cls := Value.type "code", data := Data.fields #[Value.str (Str.ofString "count_of") 387, Value.str (Str.ofString "count_of") 388, Value.str (Str.ofString "/claim/cut.py") 389, Value.int 109 0, Value.int 1 0, Value.int 0 0, Value.int 0 0, Value.int 3 0, Value.ref 149, Value.bool true, Value.int 181 0, Value.ref 150, Value.none, Value.ref 151, Value.ref 152, Value.ref 153, Value.int 392 0, Value.int 109 0, Value.str (Str.ofString "/claim/cut.py") 393] }
noncomputable def k155 (P : Params) : Obj := by apply mkFn s20 154 (Value.str (Str.ofString "stopmill.words") 234); exact ⟨_, _, _, _, _, _, rfl⟩
noncomputable def k161 (P : Params) : Obj := { cls := Value.type "code", data := Data.fields #[Value.str (Str.ofString "_law_names") 397, Value.str (Str.ofString "_law_names") 398, Value.str (Str.ofString "/claim/cut.py") 399, Value.int 117 0, Value.int 0 0, Value.int 0 0, Value.int 0 0, Value.int 3 0, Value.ref 156, Value.bool true, Value.int 181 0, Value.ref 157, Value.none, Value.ref 158, Value.ref 159, Value.ref 160, Value.int 400 0, Value.int 117 0, Value.str (Str.ofString "/claim/cut.py") 401] }
noncomputable def k162 (P : Params) : Obj := by apply mkFn s22 161 (Value.str (Str.ofString "law_og0204_01") 395); exact ⟨_, _, _, _, _, _, rfl⟩
noncomputable def k168 (P : Params) : Obj := { cls := Value.type "code", data := Data.fields #[Value.str (Str.ofString "_law_shorts") 403, Value.str (Str.ofString "_law_shorts") 404, Value.str (Str.ofString "/claim/cut.py") 405, Value.int 119 0, Value.int 0 0, Value.int 0 0, Value.int 0 0, Value.int 3 0, Value.ref 163, Value.bool true, Value.int 181 0, Value.ref 164, Value.none, Value.ref 165, Value.ref 166, Value.ref 167, Value.int 406 0, Value.int 119 0, Value.str (Str.ofString "/claim/cut.py") 407] }
noncomputable def k169 (P : Params) : Obj := by apply mkFn s23 168 (Value.str (Str.ofString "law_og0204_01") 395); exact ⟨_, _, _, _, _, _, rfl⟩
noncomputable def k170 (P : Params) : Obj := { cls := Value.type "tuple", data := Data.seq #[Value.str (Str.ofString "") 409, Value.str (Str.ofString "main") 410, Value.str (Str.ofString "a.c:3") 411, Value.str (Str.ofString "*0x1000") 412, Value.str (Str.ofString "i + 1") 413, Value.str (Str.ofString "p->x / 2") 414, Value.str (Str.ofString "(char) 'a'") 415, Value.str (Str.ofString "3 4") 416, Value.str (Str.ofString "$1") 417] }
noncomputable def k171 (P : Params) : Obj := { cls := Value.type "tuple", data := Data.seq #[Value.str (Str.ofString "") 419, Value.str (Str.ofString "main") 420, Value.str (Str.ofString "a.c:12") 421, Value.str (Str.ofString "*0x1010") 422, Value.str (Str.ofString "iffy") 423, Value.str (Str.ofString "sif") 424, Value.str (Str.ofString "a.c:if1") 425, Value.str (Str.ofString "+3") 426, Value.str (Str.ofString "notif") 427, Value.str (Str.ofString "x.if") 428] }
noncomputable def k172 (P : Params) : Obj := { cls := Value.type "tuple", data := Data.seq #[Value.str (Str.ofString "i > 3") 430, Value.str (Str.ofString "x") 431, Value.str (Str.ofString "(a)") 432, Value.str (Str.ofString "p == 0 && q") 433, Value.str (Str.ofString "!if_so") 434, Value.str (Str.ofString "1 if 2") 435] }
noncomputable def k178 (P : Params) : Obj := { cls := Value.type "code", data := Data.fields #[Value.str (Str.ofString "_law_draw") 437, Value.str (Str.ofString "_law_draw") 438, Value.str (Str.ofString "/claim/cut.py") 439, Value.int 124 0, Value.int 2 0, Value.int 0 0, Value.int 0 0, Value.int 3 0, Value.ref 173, Value.bool true, Value.int 181 0, Value.ref 174, Value.none, Value.ref 175, Value.ref 176, Value.ref 177, Value.int 445 0, Value.int 124 0, Value.str (Str.ofString "/claim/cut.py") 446] }
noncomputable def k179 (P : Params) : Obj := by apply mkFn s27 178 (Value.str (Str.ofString "law_og0204_01") 395); exact ⟨_, _, _, _, _, _, rfl⟩
noncomputable def k185 (P : Params) : Obj := { cls := Value.type "code", data := Data.fields #[Value.str (Str.ofString "_law_pick") 448, Value.str (Str.ofString "_law_pick") 449, Value.str (Str.ofString "/claim/cut.py") 450, Value.int 130 0, Value.int 2 0, Value.int 0 0, Value.int 0 0, Value.int 3 0, Value.ref 180, Value.bool true, Value.int 181 0, Value.ref 181, Value.none, Value.ref 182, Value.ref 183, Value.ref 184, Value.int 453 0, Value.int 130 0, Value.str (Str.ofString "/claim/cut.py") 454] }
noncomputable def k186 (P : Params) : Obj := by apply mkFn s28 185 (Value.str (Str.ofString "law_og0204_01") 395); exact ⟨_, _, _, _, _, _, rfl⟩
noncomputable def k192 (P : Params) : Obj := { cls := Value.type "code", data := Data.fields #[Value.str (Str.ofString "_law_blanks") 456, Value.str (Str.ofString "_law_blanks") 457, Value.str (Str.ofString "/claim/cut.py") 458, Value.int 132 0, Value.int 1 0, Value.int 0 0, Value.int 0 0, Value.int 3 0, Value.ref 187, Value.bool true, Value.int 181 0, Value.ref 188, Value.none, Value.ref 189, Value.ref 190, Value.ref 191, Value.int 460 0, Value.int 132 0, Value.str (Str.ofString "/claim/cut.py") 461] }
noncomputable def k193 (P : Params) : Obj := by apply mkFn s29 192 (Value.str (Str.ofString "law_og0204_01") 395); exact ⟨_, _, _, _, _, _, rfl⟩
noncomputable def k199 (P : Params) : Obj := { cls := Value.type "code", data := Data.fields #[Value.str (Str.ofString "_law_heard") 463, Value.str (Str.ofString "_law_heard") 464, Value.str (Str.ofString "/claim/cut.py") 465, Value.int 134 0, Value.int 2 0, Value.int 0 0, Value.int 0 0, Value.int 3 0, Value.ref 194, Value.bool true, Value.int 181 0, Value.ref 195, Value.none, Value.ref 196, Value.ref 197, Value.ref 198, Value.int 468 0, Value.int 134 0, Value.str (Str.ofString "/claim/cut.py") 469] }
noncomputable def k200 (P : Params) : Obj := by apply mkFn s30 199 (Value.str (Str.ofString "law_og0204_01") 395); exact ⟨_, _, _, _, _, _, rfl⟩
noncomputable def k204 (P : Params) : Obj := { cls := Value.type "code", data := Data.fields #[Value.str (Str.ofString "_law_begins") 471, Value.str (Str.ofString "_law_begins") 472, Value.str (Str.ofString "/claim/cut.py") 473, Value.int 139 0, Value.int 2 0, Value.int 0 0, Value.int 0 0, Value.int 3 0, Value.ref 201, Value.bool true, Value.int 181 0, Value.ref 202, Value.none, Value.none, Value.none, Value.ref 203, Value.int 474 0, Value.int 139 0, Value.str (Str.ofString "/claim/cut.py") 475] }
noncomputable def k205 (P : Params) : Obj := by apply mkFn s31 204 (Value.str (Str.ofString "law_og0204_01") 395); exact ⟨_, _, _, _, _, _, rfl⟩
noncomputable def k209 (P : Params) : Obj := { cls := Value.type "code", data := Data.fields #[Value.str (Str.ofString "_law_meant") 477, Value.str (Str.ofString "_law_meant") 478, Value.str (Str.ofString "/claim/cut.py") 479, Value.int 142 0, Value.int 1 0, Value.int 0 0, Value.int 0 0, Value.int 3 0, Value.ref 206, Value.bool true, Value.int 181 0, Value.ref 207, Value.none, Value.none, Value.none, Value.ref 208, Value.int 480 0, Value.int 142 0, Value.str (Str.ofString "/claim/cut.py") 481] }
noncomputable def k210 (P : Params) : Obj := by apply mkFn s32 209 (Value.str (Str.ofString "law_og0204_01") 395); exact ⟨_, _, _, _, _, _, rfl⟩
noncomputable def k216 (P : Params) : Obj := { cls := Value.type "code", data := Data.fields #[Value.str (Str.ofString "_law_stem") 483, Value.str (Str.ofString "_law_stem") 484, Value.str (Str.ofString "/claim/cut.py") 485, Value.int 152 0, Value.int 1 0, Value.int 0 0, Value.int 0 0, Value.int 3 0, Value.ref 211, Value.bool true, Value.int 181 0, Value.ref 212, Value.none, Value.ref 213, Value.ref 214, Value.ref 215, Value.int 489 0, Value.int 152 0, Value.str (Str.ofString "/claim/cut.py") 490] }
noncomputable def k217 (P : Params) : Obj := by apply mkFn s33 216 (Value.str (Str.ofString "law_og0204_01") 395); exact ⟨_, _, _, _, _, _, rfl⟩
noncomputable def k223 (P : Params) : Obj := { cls := Value.type "code", data := Data.fields #[Value.str (Str.ofString "_law_form") 492, Value.str (Str.ofString "_law_form") 493, Value.str (Str.ofString "/claim/cut.py") 494, Value.int 162 0, Value.int 1 0, Value.int 0 0, Value.int 0 0, Value.int 3 0, Value.ref 218, Value.bool true, Value.int 181 0, Value.ref 219, Value.none, Value.ref 220, Value.ref 221, Value.ref 222, Value.int 502 0, Value.int 162 0, Value.str (Str.ofString "/claim/cut.py") 503] }
noncomputable def k224 (P : Params) : Obj := by apply mkFn s34 223 (Value.str (Str.ofString "law_og0204_01") 395); exact ⟨_, _, _, _, _, _, rfl⟩
noncomputable def k228 (P : Params) : Obj := { cls := Value.type "code", data := Data.fields #[Value.str (Str.ofString "_law_form_right") 505, Value.str (Str.ofString "_law_form_right") 506, Value.str (Str.ofString "/claim/cut.py") 507, Value.int 173 0, Value.int 1 0, Value.int 0 0, Value.int 0 0, Value.int 3 0, Value.ref 225, Value.bool true, Value.int 181 0, Value.ref 226, Value.none, Value.none, Value.none, Value.ref 227, Value.int 508 0, Value.int 173 0, Value.str (Str.ofString "/claim/cut.py") 509] }
noncomputable def k229 (P : Params) : Obj := by apply mkFn s35 228 (Value.str (Str.ofString "law_og0204_01") 395); exact ⟨_, _, _, _, _, _, rfl⟩
noncomputable def k235 (P : Params) : Obj := { cls := Value.type "code", data := Data.fields #[Value.str (Str.ofString "_law_line_right") 511, Value.str (Str.ofString "_law_line_right") 512, Value.str (Str.ofString "/claim/cut.py") 513, Value.int 182 0, Value.int 1 0, Value.int 0 0, Value.int 0 0, Value.int 3 0, Value.ref 230, Value.bool true, Value.int 181 0, Value.ref 231, Value.none, Value.ref 232, Value.ref 233, Value.ref 234, Value.int 522 0, Value.int 182 0, Value.str (Str.ofString "/claim/cut.py") 523] }
noncomputable def k236 (P : Params) : Obj := by apply mkFn s36 235 (Value.str (Str.ofString "law_og0204_01") 395); exact ⟨_, _, _, _, _, _, rfl⟩
noncomputable def k242 (P : Params) : Obj := { cls := Value.type "code", data := Data.fields #[Value.str (Str.ofString "_law_place_right") 525, Value.str (Str.ofString "_law_place_right") 526, Value.str (Str.ofString "/claim/cut.py") 527, Value.int 196 0, Value.int 1 0, Value.int 0 0, Value.int 0 0, Value.int 3 0, Value.ref 237, Value.bool true, Value.int 181 0, Value.ref 238, Value.none, Value.ref 239, Value.ref 240, Value.ref 241, Value.int 534 0, Value.int 196 0, Value.str (Str.ofString "/claim/cut.py") 535] }
noncomputable def k243 (P : Params) : Obj := by apply mkFn s37 242 (Value.str (Str.ofString "law_og0204_01") 395); exact ⟨_, _, _, _, _, _, rfl⟩
noncomputable def k247 (P : Params) : Obj := { cls := Value.type "code", data := Data.fields #[Value.str (Str.ofString "_law_numbers_right") 537, Value.str (Str.ofString "_law_numbers_right") 538, Value.str (Str.ofString "/claim/cut.py") 539, Value.int 206 0, Value.int 1 0, Value.int 0 0, Value.int 0 0, Value.int 3 0, Value.ref 244, Value.bool true, Value.int 181 0, Value.ref 245, Value.none, Value.none, Value.none, Value.ref 246, Value.int 540 0, Value.int 206 0, Value.str (Str.ofString "/claim/cut.py") 541] }
noncomputable def k248 (P : Params) : Obj := by apply mkFn s38 247 (Value.str (Str.ofString "law_og0204_01") 395); exact ⟨_, _, _, _, _, _, rfl⟩
noncomputable def k252 (P : Params) : Obj := { cls := Value.type "code", data := Data.fields #[Value.str (Str.ofString "law") 543, Value.str (Str.ofString "law") 544, Value.str (Str.ofString "/claim/cut.py") 545, Value.int 232 0, Value.int 1 0, Value.int 0 0, Value.int 0 0, Value.int 3 0, Value.ref 249, Value.bool true, Value.int 181 0, Value.ref 250, Value.none, Value.none, Value.none, Value.ref 251, Value.int 546 0, Value.int 232 0, Value.str (Str.ofString "/claim/cut.py") 547] }
noncomputable def k253 (P : Params) : Obj := by apply mkFn s39 252 (Value.str (Str.ofString "law_og0204_01") 395); exact ⟨_, _, _, _, _, _, rfl⟩
noncomputable def K : Params → Frag := fun P => (nat_lit 2, k2 P) :: (nat_lit 3, k3 P) :: (nat_lit 15, k15 P) :: (nat_lit 27, k27 P) :: (nat_lit 28, k28 P) :: (nat_lit 29, k29 P) :: (nat_lit 30, k30 P) :: (nat_lit 31, k31 P) :: (nat_lit 32, k32 P) :: (nat_lit 35, k35 P) :: (nat_lit 43, k43 P) :: (nat_lit 44, k44 P) :: (nat_lit 47, k47 P) :: (nat_lit 60, k60 P) :: (nat_lit 61, k61 P) :: (nat_lit 62, k62 P) :: (nat_lit 63, k63 P) :: (nat_lit 64, k64 P) :: (nat_lit 65, k65 P) :: (nat_lit 66, k66 P) :: (nat_lit 74, k74 P) :: (nat_lit 75, k75 P) :: (nat_lit 81, k81 P) :: (nat_lit 82, k82 P) :: (nat_lit 86, k86 P) :: (nat_lit 87, k87 P) :: (nat_lit 93, k93 P) :: (nat_lit 94, k94 P) :: (nat_lit 100, k100 P) :: (nat_lit 101, k101 P) :: (nat_lit 107, k107 P) :: (nat_lit 108, k108 P) :: (nat_lit 114, k114 P) :: (nat_lit 115, k115 P) :: (nat_lit 121, k121 P) :: (nat_lit 122, k122 P) :: (nat_lit 128, k128 P) :: (nat_lit 129, k129 P) :: (nat_lit 133, k133 P) :: (nat_lit 134, k134 P) :: (nat_lit 140, k140 P) :: (nat_lit 141, k141 P) :: (nat_lit 147, k147 P) :: (nat_lit 148, k148 P) :: (nat_lit 154, k154 P) :: (nat_lit 155, k155 P) :: (nat_lit 161, k161 P) :: (nat_lit 162, k162 P) :: (nat_lit 168, k168 P) :: (nat_lit 169, k169 P) :: (nat_lit 170, k170 P) :: (nat_lit 171, k171 P) :: (nat_lit 172, k172 P) :: (nat_lit 178, k178 P) :: (nat_lit 179, k179 P) :: (nat_lit 185, k185 P) :: (nat_lit 186, k186 P) :: (nat_lit 192, k192 P) :: (nat_lit 193, k193 P) :: (nat_lit 199, k199 P) :: (nat_lit 200, k200 P) :: (nat_lit 204, k204 P) :: (nat_lit 205, k205 P) :: (nat_lit 209, k209 P) :: (nat_lit 210, k210 P) :: (nat_lit 216, k216 P) :: (nat_lit 217, k217 P) :: (nat_lit 223, k223 P) :: (nat_lit 224, k224 P) :: (nat_lit 228, k228 P) :: (nat_lit 229, k229 P) :: (nat_lit 235, k235 P) :: (nat_lit 236, k236 P) :: (nat_lit 242, k242 P) :: (nat_lit 243, k243 P) :: (nat_lit 247, k247 P) :: (nat_lit 248, k248 P) :: (nat_lit 252, k252 P) :: (nat_lit 253, k253 P) :: []
def as : List Addr := [2, 3, 15, 27, 28, 29, 30, 31, 32, 35, 43, 44, 47, 60, 61, 62, 63, 64, 65, 66, 74, 75, 81, 82, 86, 87, 93, 94, 100, 101, 107, 108, 114, 115, 121, 122, 128, 129, 133, 134, 140, 141, 147, 148, 154, 155, 161, 162, 168, 169, 170, 171, 172, 178, 179, 185, 186, 192, 193, 199, 200, 204, 205, 209, 210, 216, 217, 223, 224, 228, 229, 235, 236, 242, 243, 247, 248, 252, 253]
def vw : Program := topProg
end Mine
set_option Elab.async false
set_option maxRecDepth 100000
set_option maxHeartbeats 8000000
namespace Mine
noncomputable abbrev Led := List (Addr × Obj)
noncomputable abbrev RetC (h₀ : Heap) (L : Addr) (m : Str → Option Value) (s : Shared) (Q : Value → Shared → Prop) (Ok : Value → Led → Prop) : Prop :=
  ∀ (r : Value) (news' : Led) (h' : Heap) (tk' : Nat), Ok r news' → Fr h₀ L h' m → News h₀ L h' news' → Q r { s with heap := h', toks := tk' }
noncomputable abbrev ErrC (base h₀ : Heap) (envs : List Env) (L : Addr) (m : Str → Option Value) (news : Led) (s : Shared) (E : Value → Shared → Prop) : Prop :=
  ∀ (e t : Addr) (vs : List Value) (g₂ h' : Heap) (tk' : Nat), Fr h₀ L g₂ m → RaisedS base g₂ envs e (.ref 44) t vs news h' → RaisedK base envs e (.ref 44) t vs news h' → g₂.UpToSlots h' → E (.ref e) { s with heap := h', toks := tk' }
noncomputable def Ctr (w : World) (f : Addr) (vs : List Value) (news : Led) (dD dU : Nat) (Ok : Value → Led → Prop) (Err : Prop) : Prop :=
  ∀ (loose : List Str) (mean : ExcName → Option Value) (mg mb : Str → Option Value) (dp un : Nat) (gd : Option (List Code)) (cn : Str) (cs : Scope) (a : Addr) (ccd : Value) (cl : List (Str × Addr)) (outer : List Env) (A₀ : Around) (base h₀ : Heap) (L : Addr) (m : Str → Option Value) (s : Shared) (Q E : Value → Shared → Prop),
    Below A₀ base outer h₀ → Fr h₀ L s.heap m → (K w.params).In h₀ → News h₀ L s.heap news → Top vw loose mean mg mb h₀ → cs.kind = .function →
    dp + dD < recursionLimit → un + dU < cLine → RetC h₀ L m s Q Ok → (Err → ErrC base h₀ (envX cn cs L a ccd cl :: outer) L m news s E) →
    wpAny (model p w) (ktrTop dp un gd cn cs L a ccd cl outer) (call (.ref f) vs) Q E s
end Mine
set_option Elab.async false
set_option maxRecDepth 100000
set_option maxHeartbeats 8000000
namespace Mine
noncomputable abbrev faultCls : Obj := excClassObj (Str.ofString "CommandFault") (Str.ofString "CommandFault") 44 43 [.ref 31] [.ref 31, .type "Exception", .type "BaseException", .type "object"] true [] [] false none none (some (.ref 35)) none
    (some (.str (Str.ofString "CommandFault") 218)) (some (.str (Str.ofString "CommandFault") 226)) (some (.bool true)) "Exception.__new__"
theorem cls44 (P : Params) : (K P).lookup 44 = some faultCls := rfl
/-- the made fault: its tuple of arguments, its dict -/
noncomputable abbrev faultObj (t : Addr) (d : Option Addr) : Obj := { cls := .ref 44, dict := d, data := .fields #[.ref t, .none, .none, .none, .bool false, .none] }
section
variable {M : Model} {prog : Program} {w : World} {A : Around} {E : Value → Shared → Prop} {h : Heap} {g : Array GenState} {d : Drawn} {t : Nat} {os : OsState}
theorem fault_check {e : Addr} {oe : Obj} {rest : List Value} {Q : Unit → Shared → Prop} (hC : h.get? 44 = some faultCls) (he : h.get? e = some oe) (hcls : oe.cls = .ref 44) (hq : Q () ⟨h, g, d, t, os⟩) :
    wpAny M A (checkBuiltinCall "Exception.__init__" ⟨.ref e :: rest, []⟩) Q E ⟨h, g, d, t, os⟩ := by
  have FB := PySem.F.excBase_Exception
  have hshort := FB.noStar
  simp only [checkBuiltinCall, FB.initKind, FB.initSplit, FB.initRow]
  have hcB : (Value.ref 44 :: [Value.ref 31, .type "Exception", .type "BaseException", .type "object"]).contains (.type "Exception") = true := by decide
  repeat (first | (with_reducible refine wpAny_loadPart_at he ?_; rw [hcls]) | with_reducible refine wpAny_loadPart_at hC ?_ | (with_reducible refine wpAny_isSubtype_exc hC ?_; rw [hcB]) | wp_step)
  refine wpAny_onRaise ?_
  rw [show ∀ (a b : String) (n : Nat), Bind.check ⟨.positional, "*", "Exception", .self, [⟨"args", .varPos, false⟩]⟩ a b n (List.map (fun x => x.fst) ({ pos := Value.ref e :: rest } : Args).kw) = pure () from
    fun a b n => check_star_args _ _ _ _ _ _]
  exact wpAny_pure hq
theorem fault_init0 {e t0 : Addr} {dd : Option Addr} {x : Str} {tx : Tok} {Q : Value → Shared → Prop} (hC : h.get? 44 = some faultCls) (he : h.get? e = some (faultObj t0 dd))
    (hq : ∀ h', h' = (h.push { cls := .type "tuple", data := .seq #[.str x tx] }).update e (Obj.mapFields (·.setIfInBounds 0 (.ref h.objs.size))) → Q .none ⟨h', g, d, t, os⟩) :
    wpAny (model prog w) A (call (.builtin "Exception.__init__") [.ref e, .str x tx]) Q E ⟨h, g, d, t, os⟩ := by
  have FB := PySem.F.excBase_Exception
  refine wpAny_call (codeAny_call_builtin FB.init.plain FB.initEntry (fault_check hC he rfl ?_))
  wp_walk
  exact hq _ rfl
end

section
variable {prog : Program} {w : World} {A : Around} {E : Value → Shared → Prop} {s : Shared} {h₀ : Heap} {L : Addr} {m : Str → Option Value} {news : Led}
theorem fault_init {e t0 : Addr} {dd : Option Addr} {x : Str} {tx : Tok} {Q : Value → Shared → Prop} (F : Fr h₀ L s.heap m) (X : (K w.params).In h₀) (N : News h₀ L s.heap ((e, faultObj t0 dd) :: news)) (hne : ∀ q ∈ news, q.1 < e)
    (k : ∀ h' t2, Fr h₀ L h' m → News h₀ L h' ((e, faultObj t2 dd) :: (t2, { cls := .type "tuple", data := .seq #[.str x tx] }) :: news) → e < t2 → Q .none { s with heap := h' }) :
    wpAny (model prog w) A (call (.builtin "Exception.__init__") [.ref e, .str x tx]) Q E s := by
  have he := (N _ (.head _)).1
  obtain ⟨h, g, d, t, os⟩ := s
  refine fault_init0 (X.keeps F.keep 44 _ (cls44 _)) he fun h' e' => ?_
  subst e'
  have F1 := F.push { cls := .type "tuple", data := .seq #[.str x tx] }
  have N1 := News.push F N { cls := .type "tuple", data := .seq #[.str x tx] }
  have lt := Heap.lt_size he
  obtain ⟨F2, N2⟩ := news_upd (pre := [(h.objs.size, { cls := .type "tuple", data := .seq #[.str x tx] })]) (post := news) (f := Obj.mapFields (·.setIfInBounds 0 (.ref h.objs.size))) (o' := faultObj h.objs.size dd) F1 N1
    (fun q hq => by simp only [List.mem_singleton] at hq; subst hq; exact Nat.ne_of_gt lt) (fun q hq => Nat.ne_of_lt (hne q hq)) rfl rfl
  refine k _ h.objs.size F2 (fun q hq => ?_) lt
  rcases List.mem_cons.mp hq with rfl | hq
  · exact N2 _ (List.Mem.tail _ (.head _))
  · rcases List.mem_cons.mp hq with rfl | hq
    · exact N2 _ (.head _)
    · exact N2 _ (List.Mem.tail _ (.tail _ hq))
end
theorem meta_exc : typeOf (.type "Exception") = pure (.type "type") := by rfl
end Mine
set_option Elab.async false
set_option maxRecDepth 100000
set_option maxHeartbeats 8000000
namespace Mine
section
variable {prog : Program} {w : World} {A : Around} {E : Value → Shared → Prop} {h : Heap} {g : Array GenState} {d : Drawn} {t : Nat} {os : OsState}
theorem find_setattr (P : Params) : findIn (K P) (.ref 44) "__setattr__" = some (some (.builtin "object.__setattr__")) := by kernel_rfl
theorem find_word (P : Params) : findIn (K P) (.ref 44) "word" = some none := by kernel_rfl
theorem mro_obj (P : Params) : mroIn (K P) 44 (.type "object") = some true := by kernel_rfl
theorem cls_in44 (P : Params) : ∃ cd, clsIn (K P) 44 = some cd ∧ cd.mro = [.ref 44, .ref 31, .type "Exception", .type "BaseException", .type "object"] ∧ cd.hasDict = true := ⟨_, rfl, rfl, rfl⟩
theorem fault_set0 {e t0 : Addr} {v : Value} {Q : Unit → Shared → Prop} (X : (K w.params).In h) (he : h.get? e = some (faultObj t0 none))
    (hq : ∀ h' tk' o', h'.get? h.objs.size = some o' → h'.get? e = some (faultObj t0 (some h.objs.size)) → (∀ b o, h.get? b = some o → b ≠ e → h'.get? b = some o) → Q () ⟨h', g, d, tk', os⟩) :
    wpAny (model prog w) A (setAttr (.ref e) "word" v) Q E ⟨h, g, d, t, os⟩ := by
  have I : InstAt h e (faultObj t0 none) 44 none := ⟨he, rfl, rfl, trivial⟩
  refine set_plain (s := ⟨h, g, d, t, os⟩) X I (find_setattr _) ?_
  have SF := PySem.F.store_object
  have sub : Looks (model prog w) h (isInstance (.ref e) (.type "object")) true := I.type.andThen (looks_mroIn X (mro_obj _))
  refine codeAny_call_builtin SF.slot.plain SF.entry (@check_slot (model prog w) _ _ _ "object.__setattr__" "object" "__setattr__" (.ref e) [.str "word" t, v] [] _ SF.kind SF.split sub (SF.args (.ref e) (.str "word" t) v) ?_)
  obtain ⟨cd, hc, hmro, hdc⟩ := cls_in44 w.params
  have hm : Looks (model prog w) h (mroOf (.ref 44)) cd.mro := (looks_clsIn X hc).andThen .now
  rw [osa_eq, refuse_eq]
  refine wpAny_bind (wpAny_bind (I.type.here (wpAny_bind (hm.here ?_))))
  rw [hmro, refuseLoop_ref, refuseLoop_ref, PySem.F.store_Exception.passes]
  refine wpAny_pure (wpAny_bind (I.type.here (wpAny_bind ((looks_findIn X (find_word _)).here (wpAny_bind (wpAny_pure ?_))))))
  refine wpAny_bind (wpAny_pure (wpAny_bind (wpAny_bind (wpAny_loadPart he (wpAny_bind ((looks_clsIn X hc).here ?_))))))
  rw [hdc]
  have lt := Heap.lt_size he
  have d0 : (h.push { cls := .type "dict", data := .dict #[] }).get? h.objs.size = some { cls := .type "dict", data := .dict #[] } := Heap.get?_push_at rfl rfl
  have D : ((h.push { cls := .type "dict", data := .dict #[] }).update e (fun o => { o with dict := some h.objs.size })).get? h.objs.size = some { cls := .type "dict", data := .dict #[] } :=
    (Heap.get?_update_other _ _ (Nat.ne_of_lt lt)).trans d0
  have e0 : ((h.push { cls := .type "dict", data := .dict #[] }).update e (fun o => { o with dict := some h.objs.size })).get? e = some (faultObj t0 (some h.objs.size)) :=
    Heap.get?_update_self _ (Heap.get?_push_of_some _ he) rfl
  wp_walk
  refine wpAny_askSetting (wpAny_pure ?_)
  refine wpAny_bind (wpAny_mkText (wpAny_bind (wpAny_loadPart D ?_)))
  dsimp only
  rw [aRefKeyMayBeTheName_at, show ((!(#[] : Array DictEntry).any (·.key.isStr "word")) && (#[] : Array DictEntry).any (·.refKey)) = false from by simp]
  refine wpAny_updatePart D ?_
  have D' := fun hs ky => Heap.get?_update_self (Obj.putName "word" hs ky v) D rfl
  refine wpAny_bind (wpAny_lookBehind (D' _ _) ?_ ?_)
  · rw [putName_dict]
    exact pastItsLine_dict (by show 1 ≤ _; decide)
  · refine wpAny_pure (hq _ _ _ (D' _ _) ?_ fun b o hb hne => ?_)
    · exact (Heap.get?_update_other _ _ (Nat.ne_of_gt lt)).trans e0
    · exact (Heap.get?_update_other _ _ (Nat.ne_of_gt (Heap.lt_size hb))).trans ((Heap.get?_update_other _ _ (Ne.symm hne)).trans (Heap.get?_push_of_some _ hb))
end
section
variable {prog : Program} {w : World} {A : Around} {E : Value → Shared → Prop} {s : Shared} {h₀ : Heap} {L : Addr} {m : Str → Option Value} {news : Led}
theorem fault_set {e t0 : Addr} {v : Value} {Q : Unit → Shared → Prop} (F : Fr h₀ L s.heap m) (X : (K w.params).In h₀) (N : News h₀ L s.heap ((e, faultObj t0 none) :: news)) (hne : ∀ q ∈ news, q.1 ≠ e)
    (k : ∀ h' d o tk', Fr h₀ L h' m → News h₀ L h' ((e, faultObj t0 (some d)) :: (d, o) :: news) → Q () { s with heap := h', toks := tk' }) :
    wpAny (model prog w) A (setAttr (.ref e) "word" v) Q E s := by
  have he := (N _ (.head _)).1
  have hfr := (N _ (.head _)).2
  obtain ⟨h, g, d, t, os⟩ := s
  refine fault_set0 (X.keeps F.keep) he fun h' tk' o' ho he' hk => ?_
  obtain ⟨oL, es, ep, hL, r⟩ := F.ns
  refine k _ h.objs.size o' tk' ⟨⟨oL, es, ep, hk _ _ hL (Ne.symm hfr.1), r⟩, fun b o q => hk _ _ (F.keep b o q) (fun z => ?_), F.above⟩ fun q hq => ?_
  · have := hfr.2; rw [← z, q] at this; cases this
  · rcases List.mem_cons.mp hq with rfl | hq
    · exact ⟨he', hfr⟩
    · rcases List.mem_cons.mp hq with rfl | hq
      · refine ⟨ho, Nat.ne_of_gt (Heap.lt_size hL), ?_⟩
        cases q : h₀.get? h.objs.size with
        | none => rfl
        | some o => exact absurd (Heap.lt_size (F.keep _ _ q)) (Nat.lt_irrefl _)
      · exact ⟨hk _ _ (N q (.tail _ hq)).1 (hne q hq), (N q (.tail _ hq)).2⟩
end
end Mine
set_option Elab.async false
set_option maxRecDepth 100000
set_option maxHeartbeats 8000000
namespace Mine
theorem find_init (P : Params) : findIn (K P) (.ref 44) "__init__" = some (some (.ref 28)) := by kernel_rfl
theorem fn28 (P : Params) : typeIn (K P) (.ref 28) = some (.type "function") := by kernel_rfl
section
variable {M : Model} {prog : Program} {w : World} {A : Around} {E : Value → Shared → Prop} {h : Heap} {g : Array GenState} {d : Drawn} {t : Nat} {os : OsState}
theorem fault_check_new {rest : List Value} {Q : Unit → Shared → Prop} (hC : h.get? 44 = some faultCls) (hq : Q () ⟨h, g, d, t, os⟩) : wpAny M A (checkBuiltinCall "Exception.__new__" ⟨.ref 44 :: rest, []⟩) Q E ⟨h, g, d, t, os⟩ := by
  have FB := PySem.F.excBase_Exception
  have hcont : (Value.ref 44 :: [Value.ref 31, .type "Exception", .type "BaseException", .type "object"]).contains (.type "Exception") = true := by decide
  have hstar := FB.noStar
  simp only [checkBuiltinCall, FB.newKind, FB.newSplit, FB.newRow]
  repeat (first | refine wpAny_loadPart_at hC ?_ | (refine wpAny_isSubtype_exc hC ?_; rw [hcont]) | refine wpAny_staticBase_exc hC ?_ | refine wpAny_madeBy_exc hC ?_ | simp only [bne_self_eq_false, Bool.false_eq_true, if_false] | wp_step)
  exact hq
theorem fault_run_new {rest : List Value} {R : Result → Shared → Prop} (hC : h.get? 44 = some faultCls)
    (hq : R (.ok (.ret (.ref (h.objs.size + 1)))) ⟨(h.push { cls := .type "tuple", data := .seq rest.toArray }).push (faultObj h.objs.size none), g, d, t, os⟩) (hrest : rest.length ≤ sizeLine) :
    codeAny (model prog w) A (.builtin "Exception.__new__" ⟨.ref 44 :: rest, []⟩) R ⟨h, g, d, t, os⟩ := by
  have FB := PySem.F.excBase_Exception
  have hends := FB.ends
  have hcB : (Value.ref 44 :: [Value.ref 31, .type "Exception", .type "BaseException", .type "object"]).contains (.type "Exception") = true := by decide
  have hcA : (Value.ref 44 :: [Value.ref 31, .type "Exception", .type "BaseException", .type "object"]).contains (.type "AttributeError") = false := by decide
  have hcN : (Value.ref 44 :: [Value.ref 31, .type "Exception", .type "BaseException", .type "object"]).contains (.type "NameError") = false := by decide
  refine codeAny_builtinAt FB.entry ?_
  unfold Builtin.«BaseException.__new__»
  refine PySem.wpAt_bind ?_
  show PySem.wpAt _ _ _ (stack >>= _) _ _ _
  refine PySem.wpAt_bind (PySem.wpAt_stack fun p below => PySem.wpAt_of_wpAny ?_)
  wp_walk
  refine PySem.wpAt_of_wpAny ?_
  rw [FB.owner]
  repeat (first | with_reducible refine wpAny_madeHere_exc FB.canon hC ?_ | with_reducible refine wpAny_loadPart_at hC ?_ | (with_reducible refine wpAny_isSubtype_exc hC ?_; first | rw [hcB] | rw [hcA] | rw [hcN]) | wp_step)
  show R _ _
  rw [Heap.size_push]
  exact hq
theorem fault_type_call {rest : List Value} {Q : Fin → Shared → Prop} (X : (K w.params).In h) (hrest : rest.length ≤ sizeLine)
    (hq : wpAny (model prog w) A (call (.ref 28) (.ref (h.objs.size + 1) :: rest)) (fun r s' => r = .none ∧ Q (.done (.ret (.ref (h.objs.size + 1)))) s') E ⟨(h.push { cls := .type "tuple", data := .seq rest.toArray }).push (faultObj h.objs.size none), g, d, t, os⟩) :
    wpAny (model prog w) A (Builtin.«type.__call__» ⟨.ref 44 :: rest, []⟩) Q E ⟨h, g, d, t, os⟩ := by
  have FB := PySem.F.excBase_Exception
  have hC : h.get? 44 = some faultCls := X _ _ (cls44 _)
  repeat (first | with_reducible refine wpAny_loadPart_at hC ?_ | with_reducible refine wpAny_madeBy_exc hC ?_ | wp_step)
  refine codeAny_call_builtin_code (Code.quiet_builtin _ FB.quiet) (fault_check_new hC ?_)
  refine fault_run_new hC ?_ hrest
  show wpAny _ _ _ _ _ _
  have kp : ∀ b o, h.get? b = some o → ((h.push { cls := .type "tuple", data := .seq rest.toArray }).push (faultObj h.objs.size none)).get? b = some o := fun b o e => Heap.get?_push_of_some _ (Heap.get?_push_of_some _ e)
  have X1 := X.keeps kp
  have hC1 := kp _ _ hC
  have hget : ((h.push { cls := .type "tuple", data := .seq rest.toArray }).push (faultObj h.objs.size none)).get? (h.objs.size + 1) = some (faultObj h.objs.size none) := by heap_get
  have hcC : (Value.ref 44 :: [Value.ref 31, .type "Exception", .type "BaseException", .type "object"]).contains (.ref 44) = true := by decide
  have L28 : Looks (model prog w) ((h.push { cls := .type "tuple", data := .seq rest.toArray }).push (faultObj h.objs.size none)) (typeOf (.ref 28)) (.type "function") := looks_typeIn X1 (fn28 _)
  unfold isInstance
  repeat (first | with_reducible refine wpAny_loadPart_at hget ?_ | (with_reducible refine wpAny_isSubtype_exc hC1 ?_; rw [hcC]) | wp_step)
  show wpAny _ _ (typeLookup (.ref 44) _) _ _ _
  refine (looks_findIn X1 (find_init _)).here ?_
  refine wpAny_holding (wpAny_bind ?_)
  unfold bindSpecial
  refine wpAny_bind (L28.here ?_)
  rw [if_pos (by decide)]
  refine wpAny_pure (wpAny_bind (wpAny_mono hq (fun r s' hr => ?_) fun _ _ x => x))
  obtain ⟨rfl, hQ⟩ := hr
  wp_walk
  exact hQ
theorem fault_call {rest : List Value} {Q : Value → Shared → Prop} (X : (K w.params).In h) (hrest : rest.length ≤ sizeLine)
    (hq : wpAny (model prog w) (A.under (.builtin "type.__call__" ⟨.ref 44 :: rest, []⟩)) (call (.ref 28) (.ref (h.objs.size + 1) :: rest)) (fun r s' => r = .none ∧ Q (.ref (h.objs.size + 1)) s') E ⟨(h.push { cls := .type "tuple", data := .seq rest.toArray }).push (faultObj h.objs.size none), g, d, t, os⟩) :
    wpAny (model prog w) A (call (.ref 44) rest) Q E ⟨h, g, d, t, os⟩ := by
  have hC : h.get? 44 = some faultCls := X _ _ (cls44 _)
  have f1 := tc_lookup
  have f2 := tc_bind (.ref 44)
  have hT : (⟨h, g, d, t, os⟩ : Shared).TypeIs (.ref 44) "type" := ⟨_, hC, rfl⟩
  refine wpAny_call (codeAny_of_tree ?_)
  show wpAny _ _ (callAny (.ref 44) _) _ _ _
  repeat (any_goals (first | assumption | with_reducible refine wpAny_loadPart_at hC ?_ | wp_step))
  refine ⟨rfl, ?_⟩
  exact codeAny_call_builtin_at (Code.quiet_builtin _ (by decide +kernel)) entry_typeCall (wpAny_check_type_call_sub hC (fault_type_call X hrest hq))
end
theorem under_new {dp un : Nat} {gd : Option (List Code)} {cn : Str} {cs : Scope} {L a : Addr} {ccd : Value} {cl : List (Str × Addr)} {outer : List Env} {rest : List Value} :
    (ktrTop dp un gd cn cs L a ccd cl outer).under (.builtin "type.__call__" ⟨.ref 44 :: rest, []⟩) = ktrTop (dp + 1) (un + (Code.builtin "type.__call__" ⟨.ref 44 :: rest, []⟩).cUnits) gd cn cs L a ccd cl outer := by
  rfl
end Mine
set_option Elab.async false
set_option maxRecDepth 100000
set_option maxHeartbeats 8000000
namespace Mine
noncomputable abbrev tupO (vs : List Value) : Obj := { cls := .type "tuple", data := .seq vs.toArray }
section
variable {M : Model} {A : Around} {E : Value → Shared → Prop} {s' : Shared} {base g : Heap} {outer : List Env} {L a e t : Addr} {m : Str → Option Value} {name : Str} {scope : Scope} {cd : Value} {Q : Unit → Shared → Prop} {news : Led} {dd : Option Addr} {vs : List Value}
theorem leave_fault (Kb : Below A base outer g) (F : Fr g L s'.heap m) (N : News g L s'.heap ((e, faultObj t dd) :: (t, tupO vs) :: news)) (het : e ≠ t) (hne : ∀ q ∈ news, q.1 ≠ e ∧ q.1 ≠ t)
    (hQ : ∀ h', RaisedS base g outer e (.ref 44) t vs news h' → RaisedK base outer e (.ref 44) t vs news h' → g.UpToSlots h' → Q () { s' with heap := h' }) (hk : scope.kind = .function := by rfl) :
    wpAny M (A.deeper (envOf name scope L a cd)) (leaving (envOf name scope L a cd) (.ref e)) Q E s' := by
  have K' := Kb.push (name := name) (a := a) (cd := cd) F hk
  have Ne := N _ (.head _)
  have Nt := N _ (.tail _ (.head _))
  have fr : ∀ env ∈ (envOf name scope L a cd :: outer), ∀ b, env.frame = some b → b ∈ (e :: t :: (envOf name scope L a cd :: outer).filterMap (·.frame)) := fun env he b hb => .tail _ (.tail _ (List.mem_filterMap.mpr ⟨env, he, hb⟩))
  have nb : ∀ {b}, g.get? b = none → base.get? b = none := fun hb => fresh_of_stays Kb.stays hb
  have st : base.StaysIn (hideAll s'.heap (e :: t :: (envOf name scope L a cd :: outer).filterMap (·.frame))) := fun b o q => hideAll_get _ (K'.stays b o q) fun hm => by
    rcases List.mem_cons.mp hm with rfl | hm
    · rw [nb Ne.2.2] at q; cases q
    rcases List.mem_cons.mp hm with rfl | hm
    · rw [nb Nt.2.2] at q; cases q
    rw [(K'.frames.mem hm).1] at q; cases q
  have sg : ∀ b o, g.get? b = some o → b ∉ outer.filterMap (·.frame) → (hideAll s'.heap (e :: t :: (envOf name scope L a cd :: outer).filterMap (·.frame))).get? b = some o := fun b o q nm => hideAll_get _ (F.keep b o q) fun hm => by
    rcases List.mem_cons.mp hm with rfl | hm
    · rw [Ne.2.2] at q; cases q
    rcases List.mem_cons.mp hm with rfl | hm
    · rw [Nt.2.2] at q; cases q
    rcases kts_mem hm with z | z
    · rw [z, kts_self F] at q; cases q
    · exact nm z
  have hl : ∀ q ∈ news, (hideAll s'.heap (e :: t :: (envOf name scope L a cd :: outer).filterMap (·.frame))).get? q.1 = some q.2 ∧ g.get? q.1 = none ∧ base.get? q.1 = none := fun q hq => by
    have Nq := N q (.tail _ (.tail _ hq))
    refine ⟨hideAll_get _ Nq.1 fun hm => ?_, Nq.2.2, nb Nq.2.2⟩
    rcases List.mem_cons.mp hm with z | hm
    · exact (hne q hq).1 z
    rcases List.mem_cons.mp hm with z | hm
    · exact (hne q hq).2 z
    rcases kts_mem hm with z | z
    · exact Nq.2.1 z
    · obtain ⟨o, ho, _⟩ := (Kb.frames.mem z).2
      rw [Nq.2.2] at ho; cases ho
  have ben : (hideAll s'.heap (e :: t :: (envOf name scope L a cd :: outer).filterMap (·.frame))).get? e = none := hideAll_none _ (.head _)
  have btn : (hideAll s'.heap (e :: t :: (envOf name scope L a cd :: outer).filterMap (·.frame))).get? t = none := hideAll_none _ (.tail _ (.head _))
  refine wpAny_leaving_firstW (a0 := .ref t) K'.stack (funFrames_hide K'.frames fr) rfl Ne.1 (fun b o q => of_hideAll _ q) ben rfl rfl rfl fun h' hL => ?_
  obtain ⟨k1, ⟨_, _, k2⟩, k3, k4⟩ := hL
  have tt : h'.TupAt t vs := Heap.TupAt.of_slots (h := s'.heap) ⟨_, _, Nt.1, rfl, rfl⟩ k4
  have R : RaisedS base g outer e (.ref 44) t vs news h' := ⟨⟨_, st, sg, hl, ⟨k1, ben, k2, k3⟩, btn⟩, tt⟩
  exact hQ h' R R.toK ((Heap.UpToSlots.of_keeps F.keep).trans k4)
end
end Mine
set_option Elab.async false
set_option maxRecDepth 100000
set_option maxHeartbeats 8000000
namespace Mine
theorem fill : r = r ∧ K = K := by k_fill; exact ⟨rfl, rfl⟩
theorem ne_of_ledger {news : Led} {e t2 : Addr} {o : Obj} (h1 : ∀ q ∈ news, q.1 < e) (h2 : e < t2) : ∀ q ∈ (t2, o) :: news, q.1 ≠ e := fun q hq => by
  rcases List.mem_cons.mp hq with rfl | hq
  · exact Nat.ne_of_gt h2
  · exact Nat.ne_of_lt (h1 q hq)
section
local macro_rules | `(tactic| walk_at "getMethod type:Exception") => `(tactic| (k_here; refine' method_type ?F ?X ?m (by decide +kernel) ?e ?h ?_; (case F => k_asm); (case X => k_asm); (case m => exact meta_exc); (case e => k_dflt k_is); (case h => k_handed)))
local macro_rules | `(tactic| walk_at "call builtin:Exception.__init__") => `(tactic| (k_here; refine' fault_init ?F ?X ?N ?l ?_; (case F => k_asm); (case X => k_asm); (case N => k_asm); (case l => assumption); intro h' t2' F' N' l2'))
local macro_rules | `(tactic| walk_at "setAttr ref") => `(tactic| (k_here; refine' fault_set ?F ?X ?N ?l ?_; (case F => k_asm); (case X => k_asm); (case N => k_asm); (case l => exact ne_of_ledger (by assumption) (by assumption)); intro h' d2' o2' tk2' F' N'))
theorem c_init (w : World) (news : Led) (e tt : Addr) (x : Str) (t : Tok) (hlt : ∀ q ∈ news, q.1 < e) : Ctr w 28 [.ref e, .str x t] ((e, faultObj tt none) :: news) 1 8 (fun r n => r = .none ∧ ∃ d t2 o, e < t2 ∧ n = (e, faultObj t2 (some d)) :: (d, o) :: (t2, tupO [.str x t]) :: news) False := by
  intro loose mean mg mb dp un gd cn cs a ccd cl outer A₀ base h₀ L m s Q E B F X N T hk hd hu hret herr
  refine wpAny_call ?_
  k_dflt cell_enter
  k_steps
  exact hret _ _ _ _ ⟨rfl, _, _, _, by assumption, rfl⟩ (by assumption) (by assumption)
end
/-- what a raise asks of the made fault -/
noncomputable def RaisedNow (E : Value → Shared → Prop) (v : Value) (s : Shared) : Prop := ∃ e t dd, v = .ref e ∧ s.heap.get? 44 = some faultCls ∧ s.heap.get? e = some (faultObj t dd) ∧ E (.ref e) s
section
variable {M : Model} {A : Around} {E : Value → Shared → Prop} {s : Shared} {env : Env}
theorem raise_made {x : Sem Value} {Q : Flow → Shared → Prop} (hh : A.handled = none) (h : wpAny M A x (RaisedNow E) E s) : wpAny M A (raiseStmt env (some x) none) Q E s := by
  have hcB : (Value.ref 44 :: [Value.ref 31, .type "Exception", .type "BaseException", .type "object"]).contains (.type "BaseException") = true := by decide
  unfold raiseStmt
  refine wpAny_bind (wpAny_mono h (fun v s₁ h₁ => ?_) fun _ _ x => x)
  obtain ⟨e, t, dd, rfl, hC, he, hE⟩ := h₁
  obtain ⟨hp, g, d, tk, os⟩ := s₁
  repeat (first | with_reducible refine wpAny_loadPart_at he ?_ | with_reducible refine wpAny_loadPart_at hC ?_ | (with_reducible refine wpAny_isSubtype_exc hC ?_; rw [hcB]) | wp_step)
  exact wpAny_raiseNew_none hh hE
theorem raise_fault {ce : Expr} {pos : Pos} {Q : Flow → Shared → Prop} (hh : A.handled = none) (h : wpAny M A (eval ce env) (RaisedNow E) E s) : wpAny M A (exec (.Raise (some ce) none pos) env) Q E s := by
  rw [arm_exec_Raise]
  refine wpAny_bind (wpAny_standAt (raise_made hh (wpAny_bind (wpAny_mono h (fun v s₃ h₃ => wpAny_bind (wpAny_standAt (wpAny_pure h₃))) fun _ _ x => x))))
end
theorem units_new (rest : List Value) : (Code.builtin "type.__call__" ⟨.ref 44 :: rest, []⟩).cUnits = 1 := by rfl
section
variable {w : World} {loose : List Str} {mean : ExcName → Option Value} {mg mb : Str → Option Value} {dp un : Nat} {gd : Option (List Code)} {cn : Str} {cs : Scope} {L a : Addr} {ccd : Value} {cl : List (Str × Addr)} {outer : List Env} {A₀ : Around} {base h₀ : Heap} {m : Str → Option Value} {news : Led} {s : Shared} {Q E : Value → Shared → Prop}
theorem new_fault {x : Str} {t : Tok} (B : Below A₀ base outer h₀) (F : Fr h₀ L s.heap m) (X : (K w.params).In h₀) (N : News h₀ L s.heap news) (T : Top vw loose mean mg mb h₀) (hk : cs.kind = .function) (hd : dp + 2 < recursionLimit) (hu : un + 9 < cLine)
    (k : ∀ e d t2 h' tk', Fr h₀ L h' m → News h₀ L h' ((e, faultObj t2 (some d)) :: (t2, tupO [.str x t]) :: news) → e ≠ t2 → (∀ q ∈ news, q.1 ≠ e ∧ q.1 ≠ t2) → Q (.ref e) { s with heap := h', toks := tk' }) :
    wpAny (model p w) (ktrTop dp un gd cn cs L a ccd cl outer) (call (.ref 44) [.str x t]) Q E s := by
  have XX := X.keeps F.keep
  obtain ⟨h, g, d, tk, os⟩ := s
  refine fault_call XX (by show 1 ≤ _; decide) ?_
  rw [under_new]
  have F2 := (F.push (tupO [.str x t])).push (faultObj h.objs.size none)
  have N2 := News.push (F.push (tupO [.str x t])) (fun q hq => (News.push F N (tupO [.str x t])) q (List.Mem.tail _ hq)) (faultObj h.objs.size none)
  rw [Heap.size_push] at N2
  have lt : ∀ q ∈ news, q.1 < h.objs.size := fun q hq => Heap.lt_size (N q hq).1
  refine c_init w news (h.objs.size + 1) h.objs.size x t (fun q hq => Nat.lt_succ_of_lt (lt q hq)) loose mean mg mb _ _ gd cn cs a ccd cl outer A₀ base h₀ L m _ _ _ B F2 X N2 T hk hd (by rw [units_new]; exact hu) ?_ (fun f => f.elim)
  rintro r n h' tk' ⟨rfl, d', t2, o, l2, rfl⟩ F' N'
  refine ⟨rfl, k _ d' t2 _ _ F' (fun q hq => N' q ?_) (Nat.ne_of_lt l2) (fun q hq => ⟨?_, ?_⟩)⟩
  · rcases List.mem_cons.mp hq with rfl | hq
    · exact .head _
    rcases List.mem_cons.mp hq with rfl | hq
    · exact .tail _ (.tail _ (.head _))
    · exact .tail _ (.tail _ (.tail _ hq))
  · exact Nat.ne_of_lt (Nat.lt_succ_of_lt (lt q hq))
  · exact Nat.ne_of_lt (Nat.lt_trans (Nat.lt_succ_of_lt (lt q hq)) l2)
end
end Mine
set_option Elab.async false
set_option maxRecDepth 100000
set_option maxHeartbeats 2000000
set_option compiler.extract_closed false
namespace Mine
theorem Ctr.use {w : World} {f : Addr} {vs : List Value} {news : Led} {dD dU : Nat} {Ok : Value → Led → Prop} {Err : Prop} (C : Ctr w f vs news dD dU Ok Err)
    {loose : List Str} {mean : ExcName → Option Value} {mg mb : Str → Option Value} {dp un : Nat} {gd : Option (List Code)} {cn : Str} {cs : Scope} {a : Addr} {ccd : Value} {cl : List (Str × Addr)} {outer : List Env} {A₀ : Around} {base h₀ : Heap} {L : Addr} {m : Str → Option Value} {s : Shared} {Q E : Value → Shared → Prop}
    (B : Below A₀ base outer h₀) (F : Fr h₀ L s.heap m) (X : (K w.params).In h₀) (N : News h₀ L s.heap news) (T : Top vw loose mean mg mb h₀) (hk : cs.kind = .function)
    (hd : dp + dD < recursionLimit) (hu : un + dU < cLine) (hret : RetC h₀ L m s Q Ok) (herr : Err → ErrC base h₀ (envX cn cs L a ccd cl :: outer) L m news s E) :
    wpAny (model p w) (ktrTop dp un gd cn cs L a ccd cl outer) (call (.ref f) vs) Q E s := C _ _ _ _ _ _ _ _ _ _ _ _ _ _ _ _ _ _ _ _ _ B F X N T hk hd hu hret herr
theorem Ctr.mono {w : World} {f : Addr} {vs : List Value} {news : Led} {dD dU : Nat} {Ok Ok' : Value → Led → Prop} {Err : Prop} (C : Ctr w f vs news dD dU Ok Err) (h : ∀ r n, Ok r n → Ok' r n) : Ctr w f vs news dD dU Ok' Err := by
  intro loose mean mg mb dp un gd cn cs a ccd cl outer A₀ base h₀ L m s Q E B F X N T hk hd hu hret herr
  exact C loose mean mg mb dp un gd cn cs a ccd cl outer A₀ base h₀ L m s Q E B F X N T hk hd hu (fun r n h' tk o F N => hret r n h' tk (h r n o) F N) herr
theorem Ctr.mono2 {w : World} {f : Addr} {vs : List Value} {news : Led} {dD dU : Nat} {Ok Ok' : Value → Led → Prop} {Err Err' : Prop} (C : Ctr w f vs news dD dU Ok Err) (h : ∀ r n, Ok r n → Ok' r n) (he : Err → Err') : Ctr w f vs news dD dU Ok' Err' := by
  intro loose mean mg mb dp un gd cn cs a ccd cl outer A₀ base h₀ L m s Q E B F X N T hk hd hu hret herr
  exact C loose mean mg mb dp un gd cn cs a ccd cl outer A₀ base h₀ L m s Q E B F X N T hk hd hu (fun r n h' tk o F N => hret r n h' tk (h r n o) F N) fun e => herr (he e)
@[elab_as_elim] theorem strElim {P : Str → Prop} {v : Value} {G : Value → Prop} (h : ∃ z u, v = .str z u ∧ P z) (q : ∀ z u, P z → G (.str z u)) : G v := by
  obtain ⟨z, u, rfl, hz⟩ := h
  exact q z u hz
structure InCut : Prop where
noncomputable def KOk (C : (Value → Led → Prop) → Prop) : Value → Led → Prop := fun r n => ∀ k : Value → Led → Prop, C k → k r n
theorem Ctr.useK {w : World} {f : Addr} {vs : List Value} {news : Led} {dD dU : Nat} {C : (Value → Led → Prop) → Prop} {Err : Prop} (c : Ctr w f vs news dD dU (KOk C) Err)
    {loose : List Str} {mean : ExcName → Option Value} {mg mb : Str → Option Value} {dp un : Nat} {gd : Option (List Code)} {cn : Str} {cs : Scope} {a : Addr} {ccd : Value} {cl : List (Str × Addr)} {outer : List Env} {A₀ : Around} {base h₀ : Heap} {L : Addr} {m : Str → Option Value} {s : Shared} {Q E : Value → Shared → Prop}
    (B : Below A₀ base outer h₀) (F : Fr h₀ L s.heap m) (X : (K w.params).In h₀) (N : News h₀ L s.heap news) (T : Top vw loose mean mg mb h₀) (hk : cs.kind = .function)
    (hd : dp + dD < recursionLimit) (hu : un + dU < cLine) (h : C fun r n => ∀ (h' : Heap) (tk : Nat), Fr h₀ L h' m → News h₀ L h' n → Q r { s with heap := h', toks := tk }) (herr : Err → ErrC base h₀ (envX cn cs L a ccd cl :: outer) L m news s E) :
    wpAny (model p w) (ktrTop dp un gd cn cs L a ccd cl outer) (call (.ref f) vs) Q E s := c.use B F X N T hk hd hu (fun _ _ h' tk o F N => o _ h h' tk F N) herr
noncomputable def Stop (P : Prop) : Prop := P
theorem Stop.out {P : Prop} (h : Stop P) : P := h
theorem Stop.in {P : Prop} (h : P) : Stop P := h
theorem frMap {h₀ h : Heap} {L : Addr} {m m' : Str → Option Value} (F : Fr h₀ L h m) (e : ∀ y, m y = m' y) : Fr h₀ L h m' := (funext e : m = m') ▸ F
theorem two_same {a : Str} {v v' : Option Value} {r : Str → Option Value} : ∀ y, (if y = a then v else if y = a then v' else r y) = if y = a then v else r y := fun y => by by_cases h : y = a <;> simp [h]
theorem whileNext {h₀ h' : Heap} {L : Addr} {s : Shared} {J : Nat → (Str → Option Value) → List (Addr × Obj) → Prop} {Q : Flow → Shared → Prop} {n n' tk : Nat} {m₂ : Str → Option Value} {news₂ : List (Addr × Obj)}
    (F : Fr h₀ L h' m₂) (N : News h₀ L h' news₂) (hn : n' < n) (hJ : J n' m₂ news₂) : WhileStep2 h₀ L s J Q n .next { s with heap := h', toks := tk } := ⟨h', tk, m₂, news₂, n', rfl, F, N, hn, hJ⟩
theorem upto_succ {P : Nat → Prop} {i : Nat} (h : ∀ j, j < i → P j) (hi : P i) : ∀ j, j < i + 1 → P j := fun j hj => by
  rcases Nat.lt_succ_iff_lt_or_eq.mp hj with h' | rfl
  · exact h j h'
  · exact hi
/-- an exception on its way through a frame of ours: a place where the walk halts -/
noncomputable def Passed (P : Prop) : Prop := P
theorem Passed.out {P : Prop} (h : Passed P) : P := h
theorem Passed.in {P : Prop} (h : P) : Passed P := h
theorem frLeaveOn {M : Model} {A : Around} {E : Value → Shared → Prop} {s' : Shared} {base g g₂ : Heap} {outer : List Env} {L a e t : Addr} {m : Str → Option Value} {name : Str} {scope : Scope} {cd : Value} {Q : Unit → Shared → Prop} {news : Led} {cls : Value} {vs : List Value}
    (Kb : Below A base outer g) (F : Fr g L g₂ m) (R : RaisedS base g₂ (envOf name scope L a cd :: outer) e cls t vs news s'.heap) (hsm : g₂.UpToSlots s'.heap)
    (hQ : ∀ h', RaisedS base g outer e cls t vs news h' → RaisedK base outer e cls t vs news h' → g.UpToSlots h' → Q () { s' with heap := h' }) :
    wpAny M (A.deeper (envOf name scope L a cd)) (leaving (envOf name scope L a cd) (.ref e)) Q E s' := leave_onS Kb F R hsm hQ

end Mine
set_option Elab.async false
set_option maxRecDepth 100000
set_option maxHeartbeats 2000000
set_option compiler.extract_closed false
namespace Mine
local macro_rules | `(tactic| walk_at $s:str) => `(tactic| k_extra $s)
theorem fillP1 : r = r ∧ K = K := by k_fill; exact ⟨rfl, rfl⟩
theorem c_isname (w : World) (news : Led) (x : Str) (t : Tok) : Ctr w 122 [.str x t] news 1 8 (fun r n => r = .bool (Txt.isalnum x || x == "_" || x == "$") ∧ n = news) False := by
  intro loose mean mg mb dp un gd cn cs a ccd cl outer A₀ base h₀ L m s Q E B F X N T hk hd hu hret herr
  k_with_none
  refine wpAny_call ?_
  k_dflt (refine' code_def ?k1 ?k2 ?k3 ?k4 ?k5 ?kA ?kF ?kK ?k6 ?k7 ?k8 ?k9 ?kB ?_ ?c2 ?c3 ?c4 ?c5; (case kA => exact rfl); (case kF => exact rfl); (case kK => assumption); (case k1 => k_asm); (case k2 => k_asm); (case k3 => k_asm); (case k4 => k_asm); (case k5 => k_asm); (case k6 => k_is); (case k7 => k_is); (case k8 => ktr_room); (case k9 => exact BindsTo.of_eq rfl); (case c5 => decide); (case kB => exact locs rfl); (case c2 => exact rfl); (case c3 => exact rfl); (case c4 => exact rfl); k_whole)
  intro g1 L1 h1 FG F1 N1 B1 X1 T1
  replace F1 : Fr g1 L1 h1 (fun y9 => List.lookup y9 [(("sign" : Str), .str x t)]) := F1
  clear F N
  dsimp only
  k_unmd
  k_fold
  k_steps
  all_goals refine hret _ _ _ _ ⟨?_, rfl⟩ (by assumption) (by assumption)
  all_goals simp_all
/-- one turn of word_end -/
noncomputable def wordSign (x : Str) (i : Nat) : Bool := Txt.isalnum (Txt.item x i) || (Txt.item x i == "-" && Txt.isalpha (Txt.slice x none (some i)))
section
theorem c_word_end (w : World) (news : Led) (x : Str) (t : Tok) (hx : x.length ≤ 1000) : Ctr w 101 [.str x t] news 1 8 (fun r n => (∃ (i : Nat) (t : Tok), r = .int i t ∧ i ≤ x.length ∧ (∀ j, j < i → wordSign x j = true) ∧ (i < x.length → wordSign x i = false)) ∧ n = news) False := by
  intro loose mean mg mb dp un gd cn cs a ccd cl outer A₀ base h₀ L m s Q E B F X N T hk hd hu hret herr
  k_with_none
  refine wpAny_call ?_
  k_dflt (refine' code_def ?k1 ?k2 ?k3 ?k4 ?k5 ?kA ?kF ?kK ?k6 ?k7 ?k8 ?k9 ?kB ?_ ?c2 ?c3 ?c4 ?c5; (case kA => exact rfl); (case kF => exact rfl); (case kK => assumption); (case k1 => k_asm); (case k2 => k_asm); (case k3 => k_asm); (case k4 => k_asm); (case k5 => k_asm); (case k6 => k_is); (case k7 => k_is); (case k8 => ktr_room); (case k9 => exact BindsTo.of_eq rfl); (case c5 => decide); (case kB => exact locs rfl); (case c2 => exact rfl); (case c3 => exact rfl); (case c4 => exact rfl); k_whole)
  intro g1 L1 h1 FG F1 N1 B1 X1 T1
  replace F1 : Fr g1 L1 h1 (fun y9 => List.lookup y9 [(("line" : Str), .str x t)]) := F1
  clear F N
  dsimp only
  k_unmd
  k_fold
  k_with "exec While" => (refine Stop.out ?_)
  k_steps
  refine Stop.in ?_
  refine While_inv2 (J := fun n m₁ news₁ => news₁ = news ∧ ∃ (i : Nat) (t1 : Tok), (m₁ = fun y => if y = ("end" : Str) then some (Value.int i t1) else List.lookup y [(("line" : Str), Value.str x t)]) ∧ i ≤ x.length ∧ n = x.length - i ∧ (∀ j, j < i → wordSign x j = true)) (n₀ := x.length) (by k_asm) (by k_asm) ?hJ ?turn ?hE
  case hJ => exact ⟨rfl, 0, _, rfl, Nat.zero_le _, rfl, fun j h => absurd h (Nat.not_lt_zero _)⟩
  case hE => passes_own
  (rename Fr g1 _ _ _ => Fo); (rename News g1 _ _ _ => No); clear Fo No
  rintro n m₁ news₁ h₁ tk₁ F₁ N₁ ⟨e1, i, t1, e2, hi, e3, hj⟩
  subst e1 e2 e3
  k_steps
  all_goals first
    | (refine whileNext (n' := x.length - (i + 1)) (frMap (by assumption) two_same) (by assumption) (by omega) ⟨rfl, i + 1, _, rfl, by omega, rfl, upto_succ hj ?_⟩; simp [wordSign, *])
    | (refine hret _ _ _ _ ⟨⟨i, _, rfl, hi, hj, ?_⟩, rfl⟩ (by assumption) (by assumption); intro hlt; first | (simp [wordSign, *]; done) | (exfalso; omega))
theorem ck_word_end (w : World) (news : Led) (x : Str) (t : Tok) (hx : x.length ≤ 1000) : Ctr w 101 [.str x t] news 1 8 (KOk fun Z9 => ∀ (i : Nat) (t : Tok), i ≤ x.length → ((∀ j, j < i → wordSign x j = true)) → (i < x.length → wordSign x i = false) → Z9 (.int i t) news) False :=
  (c_word_end w news x t hx).mono fun _ _ h Z9 hk => by
    obtain ⟨⟨i, t, rfl, h1, h2, h3⟩, rfl⟩ := h
    exact hk i t h1 h2 h3
end

end Mine
set_option Elab.async false
set_option maxRecDepth 100000
set_option maxHeartbeats 2000000
set_option compiler.extract_closed false
namespace Mine
local macro_rules | `(tactic| walk_at $s:str) => `(tactic| k_extra $s)
theorem fillP2 : r = r ∧ K = K := by k_fill; exact ⟨rfl, rfl⟩
/-- a blank at a place: what «in ' \\t'» asks -/
noncomputable def blankAt (y : Str) (i : Nat) : Bool := !(Builtin.Str.occurrences (Str.ofString " \t") (Txt.item y i) 0 (Str.ofString " \t").length 1).isEmpty
section
theorem c_first_word (w : World) (news : Led) (x : Str) (t : Tok) (hx : x.length ≤ 1000) : Ctr w 94 [.str x t] news 1 8 (fun r n => ∃ (i : Nat) (t1 t2 : Tok) (ad : Addr), i ≤ (Txt.strip x).length ∧ (∀ j, j < i → blankAt (Txt.strip x) j = false) ∧ (i < (Txt.strip x).length → blankAt (Txt.strip x) i = true) ∧ (∀ q ∈ news, q.1 < ad) ∧ r = .ref ad ∧ n = (ad, tupO [.str (Txt.slice (Txt.strip x) none (some i)) t1, .str (Txt.strip (Txt.slice (Txt.strip x) (some i) none)) t2]) :: news) False := by
  intro loose mean mg mb dp un gd cn cs a ccd cl outer A₀ base h₀ L m s Q E B F X N T hk hd hu hret herr
  k_with_none
  refine wpAny_call ?_
  k_dflt (refine' code_def ?k1 ?k2 ?k3 ?k4 ?k5 ?kA ?kF ?kK ?k6 ?k7 ?k8 ?k9 ?kB ?_ ?c2 ?c3 ?c4 ?c5; (case kA => exact rfl); (case kF => exact rfl); (case kK => assumption); (case k1 => k_asm); (case k2 => k_asm); (case k3 => k_asm); (case k4 => k_asm); (case k5 => k_asm); (case k6 => k_is); (case k7 => k_is); (case k8 => ktr_room); (case k9 => exact BindsTo.of_eq rfl); (case c5 => decide); (case kB => exact locs rfl); (case c2 => exact rfl); (case c3 => exact rfl); (case c4 => exact rfl); k_whole)
  intro g1 L1 h1 FG F1 N1 B1 X1 T1
  replace F1 : Fr g1 L1 h1 (fun y9 => List.lookup y9 [(("text" : Str), .str x t)]) := F1
  clear F N
  dsimp only
  k_unmd
  k_fold
  k_with "exec While" => (refine Stop.out ?_)
  k_steps
  refine Stop.in ?_
  refine While_inv2 (J := fun n m₁ news₁ => news₁ = news ∧ ∃ (i : Nat) (t1 t2 : Tok), (m₁ = fun y => if y = ("end" : Str) then some (Value.int i t1) else if y = ("text" : Str) then some (.str (Txt.strip x) t2) else List.lookup y [(("text" : Str), Value.str x t)]) ∧ i ≤ (Txt.strip x).length ∧ n = (Txt.strip x).length - i ∧ (∀ j, j < i → blankAt (Txt.strip x) j = false)) (n₀ := (Txt.strip x).length) (by k_asm) (by k_asm) ?hJ ?turn ?hE
  case hJ => exact ⟨rfl, 0, _, _, rfl, Nat.zero_le _, rfl, fun j h => absurd h (Nat.not_lt_zero _)⟩
  case hE => passes_own
  (rename Fr g1 _ _ _ => Fo); (rename News g1 _ _ _ => No); clear Fo No
  rintro n m₁ news₁ h₁ tk₁ F₁ N₁ ⟨e1, i, t1, t2, e2, hi, e3, hj⟩
  subst e1 e2 e3
  k_steps
  all_goals first
    | (refine whileNext (n' := (Txt.strip x).length - (i + 1)) (frMap (by assumption) two_same) (by assumption) (by omega) ⟨rfl, i + 1, _, _, rfl, by omega, rfl, upto_succ hj ?_⟩; (rename (_ : Bool) = true => hb); exact congrArg not hb)
    | (refine hret _ _ _ _ ⟨i, _, _, _, hi, hj, ?_, ?_, rfl, rfl⟩ (by assumption) (by assumption); (intro hlt; first | ((rename (_ : Bool) = false => hb); exact congrArg not hb) | (exfalso; omega)); assumption)
theorem ck_first_word (w : World) (news : Led) (x : Str) (t : Tok) (hx : x.length ≤ 1000) : Ctr w 94 [.str x t] news 1 8 (KOk fun Z9 => ∀ (i : Nat) (t1 t2 : Tok) (ad : Addr), i ≤ (Txt.strip x).length → ((∀ j, j < i → blankAt (Txt.strip x) j = false)) → (i < (Txt.strip x).length → blankAt (Txt.strip x) i = true) → ((∀ q ∈ news, q.1 < ad)) → Z9 (.ref ad) ((ad, tupO [.str (Txt.slice (Txt.strip x) none (some i)) t1, .str (Txt.strip (Txt.slice (Txt.strip x) (some i) none)) t2]) :: news)) False :=
  (c_first_word w news x t hx).mono fun _ _ h Z9 hk => by
    obtain ⟨i, t1, t2, ad, h1, h2, h3, h4, rfl, rfl⟩ := h
    exact hk i t1 t2 ad h1 h2 h3 h4
end

end Mine
set_option Elab.async false
set_option maxRecDepth 100000
set_option maxHeartbeats 2000000
set_option compiler.extract_closed false
namespace Mine
local macro_rules | `(tactic| walk_at $s:str) => `(tactic| k_extra $s)
theorem fillP3 : r = r ∧ K = K := by k_fill; exact ⟨rfl, rfl⟩
theorem paired_eq {vs ys : List Value} (h : Paired (fun v r => r = v) vs ys) : ys = vs := by
  induction h with
  | nil => rfl
  | cons e _ ih => rw [e, ih]
theorem areOf_filter {vs : List Value} {xs : List Str} (pz : Str → Bool) (h : AreOf .str vs xs) : AreOf .str (vs.filter (ItemKind.str.lift pz)) (xs.filter pz) := by
  induction h with
  | nil => exact .nil
  | cons hk _ ih =>
    rw [List.filter_cons, List.filter_cons, ItemKind.lift_is hk]
    split
    · exact .cons hk ih
    · exact ih
section
variable {prog : Program} {w : World} {A : Around} {E : Value → Shared → Prop} {s : Shared} {h₀ : Heap} {L : Addr} {m : Str → Option Value} {news : Led} {env : Env}
/-- [x for x in y if ..] over a text: the signs that pass -/
theorem compSigns {tx x : Str} {pt px px' : Pos} {ifs : List Expr} {scope : Scope} {pos : Pos} {Q : Value → Shared → Prop} {y : Str} {t : Tok} (pz : Str → Bool)
    (hiter : wpAny (model prog w) A (eval (.Name tx pt) env) (fun v s' => v = .str y t ∧ s' = s) E s)
    (F : Fr h₀ L s.heap m) (N : News h₀ L s.heap news) (hy : y.length ≤ sizeLine)
    (hh : A.handled = none) (hfree : ∀ q ∈ scope.names, q.2 ≠ .free) (hcell : ∀ q ∈ scope.names, q.2 ≠ .cell) (hkind : scope.kind = .function)
    (hnames : ∀ q ∈ scope.names, q.2 = .local → scope.names.lookup q.1 = some .local) (hx : scope.names.lookup x = some .local) (hd : (x == ("__debug__" : Str)) = false)
    (htests : ∀ C c u s₂ m₂ E', Fr h₀ L s₂.heap m → News h₀ L s₂.heap news → s₂.heap.Ns (compEnv scope C env).locals m₂ → m₂ x = some (.str ⟨#[c]⟩ u) →
        wpAny (model prog w) A (forIn ifs true fun c r => if r = true then do let ok ← isTrue c (compEnv scope C env) (eval c (compEnv scope C env)); pure (ForInStep.yield ok) else pure (ForInStep.yield r))
          (fun ok s₃ => ok = pz ⟨#[c]⟩ ∧ Keeps s₂ s₃) E' s₂)
    (k : ∀ D ys h' tk n, Fr h₀ L h' m → News h₀ L h' ((D, { cls := .type "list", data := .seq (List.toArray ys) n }) :: news) → (∀ q ∈ news, q.1 ≠ D) → AreOf .str ys ((signs y).filter pz) → Q (.ref D) { s with heap := h', toks := tk })
    (hs : ∀ x, foldedSetIterable (.Name tx pt) env x = pure x) :
    wpAny (model prog w) A (eval (.ListComp (.Name x px') [⟨.Name x px, .Name tx pt, ifs, 0⟩] scope pos) env) Q E s := by
  refine wpAny_ListComp_walk (ItemKind.str.lift pz) (fun v r => r = v) hfree hcell hkind hnames hx
    (wpAny_mono hiter (fun xv s₁ h₁ => ?_) fun _ _ e => e) hs
  obtain ⟨rfl, rfl⟩ := h₁
  refine wpAny_pyIter_str fun o St W hst => ?_
  have up : ∀ (h' : Heap), (∀ b o', b ∉ [s₁.heap.objs.size] → (s₁.heap.push o).get? b = some o' → h'.get? b = some o') → ∀ b o', s₁.heap.get? b = some o' → h'.get? b = some o' :=
    fun h' hk b o' e => hk b o' (old_not_new e) (Heap.get?_push_of_some _ e)
  refine ⟨s₁.heap.objs.size, [s₁.heap.objs.size], [s₁.heap.objs.size], y.cps.size, SignAt y, St, rfl, W A hh, hy, hst, ?_, ⟨?_, ?_⟩, ?_⟩
  · intro b hb
    show b < (s₁.heap.push o).objs.size
    rw [Heap.size_push, List.mem_singleton.mp hb]
    exact Nat.lt_succ_self _
  · intro C i v s₃ m₃ E' hP hn hm hk _
    obtain ⟨c, u, _, rfl⟩ := hP
    have ha : ItemKind.str.is ⟨#[c]⟩ (.str ⟨#[c]⟩ u) := ⟨u, rfl⟩
    rw [ItemKind.lift_is ha]
    exact htests C c u s₃ m₃ E' (F.keeps (up _ hk)) (N.grown (up _ hk)) hn hm
  · intro C i v s₃ m₃ E' hP hp hn hm _ _
    obtain ⟨c, u, _, rfl⟩ := hP
    exact PySem.ldK (InComp.start hn) hkind hx hm ⟨rfl, (InComp.start hn).done⟩ hd
  · intro D h' tk ys vs hnew hlD hplD hlen hP hF hk
    obtain ⟨n, hD⟩ := hplD
    have F' := F.keeps (up _ hk)
    have N' := N.grown (up _ hk)
    have hDn : ∀ q ∈ news, q.1 ≠ D := fun q hq e => by rw [← e, Heap.get?_push_of_some _ (N q hq).1] at hnew; cases hnew
    have hDL : D ≠ L := fun e => by
      obtain ⟨o, _, _, ho, _⟩ := F.ns
      rw [e, Heap.get?_push_of_some _ ho] at hnew; cases hnew
    refine k D ys.toList h' tk n F' (fun q hq => ?_) hDn ?_
    · rcases List.mem_cons.mp hq with rfl | hq
      · refine ⟨by simpa using hD, hDL, ?_⟩
        cases e : h₀.get? D with
        | none => rfl
        | some o' => rw [Heap.get?_push_of_some _ (F.keep _ _ e)] at hnew; cases hnew
      · exact N' q hq
    · rw [paired_eq hF]; exact areOf_filter pz (areOf_signs hlen hP)
end

section
variable {prog : Program} {w : World} {A : Around} {E : Value → Shared → Prop} {s : Shared} {h₀ : Heap} {L : Addr} {m : Str → Option Value} {news : Led} {env : Env} {loose : List Str} {mean : ExcName → Option Value} {mg mb : Str → Option Value}
noncomputable def notDigit (x : Str) : Bool := (Builtin.Str.occurrences (Str.ofString "0123456789") x 0 (Str.ofString "0123456789").length 1).isEmpty
/-- a list of texts against an empty one -/
theorem ne_nil {D l : Addr} {ys : List Value} {n n' : Nat} {Q : Value → Shared → Prop} (N : News h₀ L s.heap ((l, { cls := .type "list", data := .seq (List.toArray []) n' }) :: (D, { cls := .type "list", data := .seq (List.toArray ys) n }) :: news)) (hu : A.units < cLine)
    (h : Q (.bool (!ys.isEmpty)) s) : wpAny (model prog w) A (compareOp .NotEq (.ref D) (.ref l)) Q E s := by
  have hl : s.heap.IsList l #[] := ⟨_, (N _ (.head _)).1, rfl, n', rfl⟩
  have hD : s.heap.IsList D (List.toArray ys) := ⟨_, (N _ (.tail _ (.head _))).1, rfl, n, rfl⟩
  cases ys with
  | nil => exact SeqAt.RcNeAt.lists (e := fun _ => true) hD hl rfl hu (fun j h1 h2 => absurd h1 (Nat.not_lt_zero _)) prog w E Q (by simpa using h)
  | cons y r => exact SeqAt.RcNeAt.lists_lengths hD hl (by simp) hu prog w E Q (by simpa using h)
end
/-- figures alone, one to nine -/
noncomputable def isNum (x : Str) : Bool := x.cps.toList.all (fun c => 48 ≤ c && c ≤ 57) && !x.cps.toList.isEmpty && decide (x.length ≤ 9)
noncomputable def wholeOf (x : Str) : Int := if isNum x then (NumText.digitsVal x.cps.toList : Nat) else -1
theorem notDigit_one (c : Nat) : notDigit ⟨#[c]⟩ = !(48 ≤ c && c ≤ 57 : Bool) := by
  unfold notDigit
  have h := StrLaws.found_one (Str.ofString "0123456789") c
  have e : (Str.ofString "0123456789").cps.toList = [48, 49, 50, 51, 52, 53, 54, 55, 56, 57] := by decide +kernel
  rw [e] at h
  rw [← Bool.not_not (List.isEmpty _)]
  rw [h]
  congr 1
  rw [Bool.eq_iff_iff]
  simp only [decide_eq_true_eq, List.mem_cons, List.not_mem_nil, or_false, Bool.and_eq_true]
  omega
theorem none_odd {x : Str} {ys : List Value} (h : AreOf .str ys ((signs x).filter notDigit)) (e : ys = []) : x.cps.toList.all (fun c => 48 ≤ c && c ≤ 57) = true := by
  have h1 := h.length
  rw [e] at h1
  have h2 : (signs x).filter notDigit = [] := List.eq_nil_of_length_eq_zero h1.symm
  rw [List.all_eq_true]
  intro c hc
  have h3 := List.filter_eq_nil_iff.mp h2 ⟨#[c]⟩ (List.mem_map.mpr ⟨c, hc, rfl⟩)
  rw [notDigit_one] at h3
  simpa using h3
theorem some_odd {x : Str} {ys : List Value} (h : AreOf .str ys ((signs x).filter notDigit)) (e : ys ≠ []) : x.cps.toList.all (fun c => 48 ≤ c && c ≤ 57) = false := by
  cases q : x.cps.toList.all (fun c => 48 ≤ c && c ≤ 57) with
  | false => rfl
  | true =>
    have h2 : (signs x).filter notDigit = [] := by
      rw [List.filter_eq_nil_iff]
      intro y hy
      obtain ⟨c, hc, rfl⟩ := List.mem_map.mp hy
      rw [notDigit_one]
      have := List.all_eq_true.mp q c hc
      simpa using this
    have h1 := h.length
    rw [h2] at h1
    exact absurd (List.eq_nil_of_length_eq_zero h1) e
theorem whole_digits {x : Str} (h : x.cps.toList.all (fun c => 48 ≤ c && c ≤ 57) = true) (h0 : x ≠ Str.ofString "") (h9 : ¬ (9 : Int) < x.length) : PySem.intText? x = some (wholeOf x) ∧ isNum x = true := by
  have hne : x.cps.toList ≠ [] := fun e => h0 (by
    obtain ⟨⟨l⟩⟩ := x
    have : l = [] := e
    subst this
    rfl)
  have h9' : x.length ≤ 9 := by omega
  have hn : isNum x = true := by
    unfold isNum
    rw [h]
    simp only [Bool.true_and, Bool.and_eq_true, decide_eq_true_eq, Bool.not_eq_true', List.isEmpty_eq_false_iff]
    exact ⟨hne, h9'⟩
  refine ⟨?_, hn⟩
  unfold wholeOf
  rw [if_pos hn]
  refine PySem.intText_digits (fun c hc => ?_) hne (by omega)
  have := List.all_eq_true.mp h c hc
  simpa using this
section
set_option maxHeartbeats 8000000
theorem c_whole_of (w : World) (news : Led) (x : Str) (t : Tok) (hx : x.length ≤ 1000) : Ctr w 134 [.str x t] news 1 8 (fun r n => (∃ t', r = .int (wholeOf x) t') ∧ n = news) False := by
  intro loose mean mg mb dp un gd cn cs a ccd cl outer A₀ base h₀ L m s Q E B F X N T hk hd hu hret herr
  k_with_none
  refine wpAny_call ?_
  k_dflt (refine' code_def ?k1 ?k2 ?k3 ?k4 ?k5 ?kA ?kF ?kK ?k6 ?k7 ?k8 ?k9 ?kB ?_ ?c2 ?c3 ?c4 ?c5; (case kA => exact rfl); (case kF => exact rfl); (case kK => assumption); (case k1 => k_asm); (case k2 => k_asm); (case k3 => k_asm); (case k4 => k_asm); (case k5 => k_asm); (case k6 => k_is); (case k7 => k_is); (case k8 => ktr_room); (case k9 => exact BindsTo.of_eq rfl); (case c5 => decide); (case kB => exact locs rfl); (case c2 => exact rfl); (case c3 => exact rfl); (case c4 => exact rfl); k_whole)
  intro g1 L1 h1 FG F1 N1 B1 X1 T1
  replace F1 : Fr g1 L1 h1 (fun y9 => List.lookup y9 [(("text" : Str), .str x t)]) := F1
  clear F N
  dsimp only
  k_unmd
  k_fold
  k_with "eval ListComp" => (refine Stop.out ?_)
  k_with "call type:int" => (refine Stop.out ?_)
  k_with "compareOp NotEq ref ref" => (k_here; k_dflt (refine' ne_nil ?N ?u ?_; (case N => k_asm); (case u => ktr_units)))
  k_steps
  · (rename (_ == _) = true => hb)
    have e0 : x = Str.ofString "" := by simpa using hb
    have e : wholeOf x = -1 := by rw [e0]; decide +kernel
    exact hret _ _ _ _ ⟨⟨_, congrArg (Value.int · _) e.symm⟩, rfl⟩ (by assumption) (by assumption)
  · (rename (_ : Int) < _ => hb)
    have e : wholeOf x = -1 := by
      unfold wholeOf isNum
      rw [show decide (x.length ≤ 9) = false from decide_eq_false (by omega), Bool.and_false]
      rfl
    exact hret _ _ _ _ ⟨⟨_, congrArg (Value.int · _) e.symm⟩, rfl⟩ (by assumption) (by assumption)
  · refine Stop.in ?_
    refine compSigns (y := x) (t := t) (pz := notDigit) ?hiter (by k_asm) (by k_asm) ?hy rfl (by decide) (by decide) rfl (by decide) rfl (by decide) ?htests ?k (fun _ => rfl)
    case hiter => (k_steps; try exact ⟨rfl, rfl⟩)
    case hy => (rw [sizeLine_eq]; omega)
    case htests =>
      (rename Fr g1 _ _ _ => Fo); (rename News g1 _ _ _ => No); clear Fo No
      intro C c u s₂ m₂ E' F2 N2 I2 hm2
      k_steps
      · exact Bool.not_not _
      · exact ⟨_, _, rfl, fun _ _ e => e⟩
    case k =>
      (rename Fr g1 _ _ _ => Fo); (rename News g1 _ _ _ => No); clear Fo No
      (rename (_ == _) = false => hb0); (rename ¬ ((_ : Int) < _) => hb9)
      have hx0 : x ≠ Str.ofString "" := by simpa using hb0
      intro D ys h2 tk2 n F2 N2 hne hA
      k_steps
      · (rename List.isEmpty _ = true => hb)
        refine Stop.in ?_
        have hd := none_odd hA (by simpa using hb)
        obtain ⟨hi, hn⟩ := whole_digits hd hx0 hb9
        refine KIN.call_text hi (by omega) ?_
        k_steps
        refine hret _ _ _ _ ⟨⟨_, rfl⟩, rfl⟩ (by assumption) (fun q hq => ?_)
        (rename News h₀ _ _ _ => NN)
        exact NN q (by first | exact hq | exact .tail _ hq | exact .tail _ (.tail _ hq))
      · (rename List.isEmpty _ = false => hb)
        have hd := some_odd hA (by simpa using hb)
        have e : wholeOf x = -1 := by unfold wholeOf isNum; rw [hd]; rfl
        refine hret _ _ _ _ ⟨⟨_, congrArg (Value.int · _) e.symm⟩, rfl⟩ (by assumption) (fun q hq => ?_)
        (rename News h₀ _ _ _ => NN)
        exact NN q (by first | exact hq | exact .tail _ hq | exact .tail _ (.tail _ hq))
theorem ck_whole_of (w : World) (news : Led) (x : Str) (t : Tok) (hx : x.length ≤ 1000) : Ctr w 134 [.str x t] news 1 8 (KOk fun Z9 => ∀ t', Z9 (.int (wholeOf x) t') news) False :=
  (c_whole_of w news x t hx).mono fun _ _ h Z9 hk => by
    obtain ⟨⟨t', rfl⟩, rfl⟩ := h
    exact hk t'
end

end Mine
set_option Elab.async false
set_option maxRecDepth 100000
set_option maxHeartbeats 2000000
set_option compiler.extract_closed false
namespace Mine
local macro_rules | `(tactic| walk_at $s:str) => `(tactic| k_extra $s)
theorem fillP4 : r = r ∧ K = K := by k_fill; exact ⟨rfl, rfl⟩
theorem raisedDrop {base G h : Heap} {l : List Env} {e t : Addr} {cls : Value} {vs : List Value} {q : Addr × Obj} {news : Led} (R : RaisedS base G l e cls t vs (q :: news) h) : RaisedS base G l e cls t vs news h := by
  obtain ⟨⟨B, a, b, c, d, f⟩, g⟩ := R
  exact ⟨⟨B, a, b, fun q hq => c q (.tail _ hq), d, f⟩, g⟩
theorem raisedKDrop {base h : Heap} {l : List Env} {e t : Addr} {cls : Value} {vs : List Value} {q : Addr × Obj} {news : Led} (R : RaisedK base l e cls t vs (q :: news) h) : RaisedK base l e cls t vs news h := by
  obtain ⟨⟨B, a, b, d, f⟩, g⟩ := R
  exact ⟨⟨B, a, fun q hq => b q (.tail _ hq), d, f⟩, g⟩
theorem cutLen (x : Str) (i : Nat) : (Txt.slice x none (some (i : Int))).length ≤ x.length := by
  have := fact_slice_ns x i
  omega
theorem fromLen (x : Str) (i : Nat) : (Txt.slice x (some (i : Int)) none).length ≤ x.length := by
  have := fact_slice_sn x i
  omega
theorem c_nar (w : World) (news : Led) (x lk : Str) (t tl : Tok) (hx : x.length ≤ 1000) (hl : lk.length ≤ 1000) : Ctr w 148 [.str x t, .str lk tl] news 3 20
    (fun r n => ∃ (i : Nat) (t1 t2 : Tok) (ad : Addr) (n' : Addr × Obj), i ≤ (Txt.strip x).length ∧ (∀ j, j < i → blankAt (Txt.strip x) j = false) ∧ (i < (Txt.strip x).length → blankAt (Txt.strip x) i = true) ∧ (Txt.slice (Txt.strip x) none (some i) == "") = false ∧ 0 ≤ wholeOf (Txt.slice (Txt.strip x) none (some i)) ∧ r = .ref ad ∧ n = (ad, tupO [.int (wholeOf (Txt.slice (Txt.strip x) none (some i))) t1, .str (Txt.strip (Txt.slice (Txt.strip x) (some i) none)) t2]) :: n' :: news)
    (∃ i : Nat, i ≤ (Txt.strip x).length ∧ (∀ j, j < i → blankAt (Txt.strip x) j = false) ∧ (i < (Txt.strip x).length → blankAt (Txt.strip x) i = true) ∧ ((Txt.slice (Txt.strip x) none (some i) == "") = true ∨ wholeOf (Txt.slice (Txt.strip x) none (some i)) < 0)) := by
  intro loose mean mg mb dp un gd cn cs a ccd cl outer A₀ base h₀ L m s Q E B F X N T hk hd hu hret herr
  k_with_none
  refine wpAny_call ?_
  k_dflt (refine' code_def ?k1 ?k2 ?k3 ?k4 ?k5 ?kA ?kF ?kK ?k6 ?k7 ?k8 ?k9 ?kB ?_ ?c2 ?c3 ?c4 ?c5; (case kA => exact rfl); (case kF => exact rfl); (case kK => assumption); (case k1 => k_asm); (case k2 => k_asm); (case k3 => k_asm); (case k4 => k_asm); (case k5 => k_asm); (case k6 => k_is); (case k7 => k_is); (case k8 => ktr_room); (case k9 => exact BindsTo.of_eq rfl); (case c5 => decide); (case kB => exact locs rfl); (case c2 => exact rfl); (case c3 => exact rfl); (case c4 => exact rfl); k_whole)
  intro g1 L1 h1 FG F1 N1 B1 X1 T1
  replace F1 : Fr g1 L1 h1 (fun y9 => List.lookup y9 [(("lacking" : Str), .str lk tl), (("text" : Str), .str x t)]) := F1
  clear F N
  dsimp only
  k_unmd
  k_fold
  k_with "exec Raise some none" => (k_here; k_dflt (refine' raise_fault ?hh ?_; (case hh => first | exact rfl | assumption)))
  k_with "call ref" => (k_here; k_dflt (refine' new_fault ?B ?F ?X ?N ?T ?hk ?hd ?hu ?_; (case B => k_asm); (case F => k_asm); (case X => k_asm); (case N => k_asm); (case T => k_asm); (case hk => first | exact rfl | assumption); (case hd => ktr_room); (case hu => ktr_units); k_whole); intro e9 d9 t9 h9 tk9 F9 N9 ne9 nn9)
  k_with "RaisedNow" => (refine ⟨_, _, _, rfl, (Frag.In.keeps (by k_asm) (Fr.keep (by k_asm))) 44 _ (cls44 _), (News.get (by k_asm) (List.Mem.head _)), ?_⟩)
  k_with "leaving ref" => (k_here; k_dflt (refine' leave_fault ?K ?F ?N ?ne ?nn ?_ ?hk; (case K => assumption); (case F => k_asm); (case N => k_asm); (case ne => assumption); (case nn => assumption); (case hk => exact rfl)); intro h9 R9 RK9 U9)
  k_with "call ref" => (k_here; k_dflt (refine' Ctr.useK (ck_first_word _ _ _ _ hx) ?B ?F ?X ?N ?T ?hk ?hd ?hu ?_ (fun f => f.elim); (case B => k_asm); (case F => k_asm); (case X => k_asm); (case N => k_asm); (case T => k_asm); (case hk => first | exact rfl | assumption); (case hd => ktr_room); (case hu => ktr_units)); intro i9 t1 t2 ad hi9 hj9 hk9 hl9 h9 tk9 F9 N9; try dsimp only)
  k_with "call ref" => (k_here; k_dflt (refine' Ctr.useK (ck_whole_of _ _ _ _ (by have := len_strip x; have := cutLen (Txt.strip x) i9; omega)) ?B ?F ?X ?N ?T ?hk ?hd ?hu ?_ (fun f => f.elim); (case B => k_asm); (case F => k_asm); (case X => k_asm); (case N => k_asm); (case T => k_asm); (case hk => first | exact rfl | assumption); (case hd => ktr_room); (case hu => ktr_units)); intro t9 h9 tk9 F9 N9; try dsimp only)
  k_steps
  · (rename (_ == _) = true => hb)
    exact herr ⟨i9, hi9, hj9, hk9, .inl hb⟩ _ _ _ g1 _ _ FG (raisedDrop R9) (raisedKDrop RK9) U9
  · (rename (_ : Int) < _ => hw)
    exact herr ⟨i9, hi9, hj9, hk9, .inr hw⟩ _ _ _ g1 _ _ FG (raisedDrop R9) (raisedKDrop RK9) U9
  · (rename ¬ ((_ : Int) < _) => hw)
    (rename (_ == _) = false => hb)
    exact hret _ _ _ _ ⟨i9, _, _, _, _, hi9, hj9, hk9, hb, by omega, rfl, rfl⟩ (by assumption) (by assumption)
theorem c_count_of (w : World) (news : Led) (x : Str) (t : Tok) (hx : x.length ≤ 1000) : Ctr w 155 [.str x t] news 3 20 (fun r n => (∃ t', r = .int (if Txt.strip x == "" then 1 else wholeOf (Txt.strip x)) t') ∧ ((Txt.strip x == "") = true ∨ 0 ≤ wholeOf (Txt.strip x)) ∧ n = news) ((Txt.strip x == "") = false ∧ wholeOf (Txt.strip x) < 0) := by
  intro loose mean mg mb dp un gd cn cs a ccd cl outer A₀ base h₀ L m s Q E B F X N T hk hd hu hret herr
  k_with_none
  refine wpAny_call ?_
  k_dflt (refine' code_def ?k1 ?k2 ?k3 ?k4 ?k5 ?kA ?kF ?kK ?k6 ?k7 ?k8 ?k9 ?kB ?_ ?c2 ?c3 ?c4 ?c5; (case kA => exact rfl); (case kF => exact rfl); (case kK => assumption); (case k1 => k_asm); (case k2 => k_asm); (case k3 => k_asm); (case k4 => k_asm); (case k5 => k_asm); (case k6 => k_is); (case k7 => k_is); (case k8 => ktr_room); (case k9 => exact BindsTo.of_eq rfl); (case c5 => decide); (case kB => exact locs rfl); (case c2 => exact rfl); (case c3 => exact rfl); (case c4 => exact rfl); k_whole)
  intro g1 L1 h1 FG F1 N1 B1 X1 T1
  replace F1 : Fr g1 L1 h1 (fun y9 => List.lookup y9 [(("text" : Str), .str x t)]) := F1
  clear F N
  dsimp only
  k_unmd
  k_fold
  k_with "exec Raise some none" => (k_here; k_dflt (refine' raise_fault ?hh ?_; (case hh => first | exact rfl | assumption)))
  k_with "call ref" => (k_here; k_dflt (refine' new_fault ?B ?F ?X ?N ?T ?hk ?hd ?hu ?_; (case B => k_asm); (case F => k_asm); (case X => k_asm); (case N => k_asm); (case T => k_asm); (case hk => first | exact rfl | assumption); (case hd => ktr_room); (case hu => ktr_units); k_whole); intro e9 d9 t9 h9 tk9 F9 N9 ne9 nn9)
  k_with "RaisedNow" => (refine ⟨_, _, _, rfl, (Frag.In.keeps (by k_asm) (Fr.keep (by k_asm))) 44 _ (cls44 _), (News.get (by k_asm) (List.Mem.head _)), ?_⟩)
  k_with "leaving ref" => (k_here; k_dflt (refine' leave_fault ?K ?F ?N ?ne ?nn ?_ ?hk; (case K => assumption); (case F => k_asm); (case N => k_asm); (case ne => assumption); (case nn => assumption); (case hk => exact rfl)); intro h9 R9 RK9 U9)
  k_with "call ref" => (k_here; k_dflt (refine' Ctr.useK (ck_whole_of _ _ _ _ (by omega)) ?B ?F ?X ?N ?T ?hk ?hd ?hu ?_ (fun f => f.elim); (case B => k_asm); (case F => k_asm); (case X => k_asm); (case N => k_asm); (case T => k_asm); (case hk => first | exact rfl | assumption); (case hd => ktr_room); (case hu => ktr_units)); intro t9 h9 tk9 F9 N9; try dsimp only)
  k_steps
  · (rename (_ == _) = true => hb)
    exact hret _ _ _ _ ⟨⟨_, by rw [if_pos hb]⟩, .inl hb, rfl⟩ (by assumption) (by assumption)
  · (rename (_ == _) = false => hb); (rename (_ : Int) < _ => hw)
    exact herr ⟨hb, hw⟩ _ _ _ g1 _ _ FG R9 RK9 U9
  · (rename (_ == _) = false => hb); (rename ¬ ((_ : Int) < _) => hw)
    exact hret _ _ _ _ ⟨⟨_, by rw [hb]; rfl⟩, .inr (by omega), rfl⟩ (by assumption) (by assumption)

end Mine
set_option Elab.async false
set_option maxRecDepth 100000
set_option maxHeartbeats 2000000
set_option compiler.extract_closed false
namespace Mine
local macro_rules | `(tactic| walk_at $s:str) => `(tactic| k_extra $s)
theorem fillP5 : r = r ∧ K = K := by k_fill; exact ⟨rfl, rfl⟩
noncomputable def strsE : List PySem.Expr → List Str
  | .Constant (.str x) _ _ :: l => x :: strsE l
  | _ => []
noncomputable def namesS : Stmt → List Str
  | .FunctionDef _ _ (.Return (some (.Tuple l _ _)) _ :: _) _ _ _ _ _ _ _ => strsE l
  | _ => []
noncomputable def names : List Str := namesS s8
/-- all keys and values are written texts -/
noncomputable def strC : PySem.Expr → Option Str
  | .Constant (.str x) _ _ => some x
  | _ => none
theorem strC_inv {e : PySem.Expr} {x : Str} (h : strC e = some x) : ∃ k q, e = .Constant (.str x) k q := by
  unfold strC at h
  split at h
  · exact ⟨_, _, by rw [Option.some.inj h]⟩
  · cases h
noncomputable def allC : List (Option PySem.Expr) → List PySem.Expr → Option (List (Str × Str))
  | [], vs => if vs.isEmpty = true then some [] else none
  | k :: ks, vs => (k.bind strC).bind fun x => (vs.head?.bind strC).bind fun y => (allC ks vs.tail).map ((x, y) :: ·)
noncomputable def pairsS : Stmt → List (Str × Str)
  | .FunctionDef _ _ (.Return (some (.Dict ks vs _)) _ :: _) _ _ _ _ _ _ _ => (allC ks vs).getD []
  | _ => []
noncomputable def shorts : List (Str × Str) := pairsS s9
theorem namesLen : names.length = 40 := by decide +kernel
theorem shortsLen : shorts.length = 27 := by decide +kernel
theorem c_commands (w : World) (news : Led) : Ctr w 75 [] news 1 8 (fun r n => ∃ (ad : Addr) (vs : List Value), StrsAre vs names ∧ r = .ref ad ∧ n = (ad, tupO vs) :: news) False := by
  intro loose mean mg mb dp un gd cn cs a ccd cl outer A₀ base h₀ L m s Q E B F X N T hk hd hu hret herr
  k_with_none
  refine wpAny_call ?_
  k_dflt (refine' code_def ?k1 ?k2 ?k3 ?k4 ?k5 ?kA ?kF ?kK ?k6 ?k7 ?k8 ?k9 ?kB ?_ ?c2 ?c3 ?c4 ?c5; (case kA => exact rfl); (case kF => exact rfl); (case kK => assumption); (case k1 => k_asm); (case k2 => k_asm); (case k3 => k_asm); (case k4 => k_asm); (case k5 => k_asm); (case k6 => k_is); (case k7 => k_is); (case k8 => ktr_room); (case k9 => exact BindsTo.of_eq rfl); (case c5 => decide); (case kB => exact locs rfl); (case c2 => exact rfl); (case c3 => exact rfl); (case c4 => exact rfl); k_whole)
  intro g1 L1 h1 FG F1 N1 B1 X1 T1
  replace F1 : Fr g1 L1 h1 (fun y9 => List.lookup y9 []) := F1
  clear F N
  dsimp only
  k_unmd
  k_fold
  k_steps
  refine hret _ _ _ _ ⟨_, _, ?_, rfl, rfl⟩ (by assumption) (by assumption)
  repeat first | exact .nil | refine .cons _ _ ?_
theorem ck_commands (w : World) (news : Led) : Ctr w 75 [] news 1 8 (KOk fun Z9 => ∀ (ad : Addr) (vs : List Value), StrsAre vs names → Z9 (.ref ad) ((ad, tupO vs) :: news)) False :=
  (c_commands w news).mono fun _ _ h Z9 hk => by
    obtain ⟨ad, vs, h1, rfl, rfl⟩ := h
    exact hk ad vs h1
theorem c_names (w : World) (news : Led) : Ctr w 162 [] news 1 8 (fun r n => (∃ x t, r = .str x t ∧ x.length ≤ 1000 ∧ Txt.words x = names) ∧ n = news) False := by
  intro loose mean mg mb dp un gd cn cs a ccd cl outer A₀ base h₀ L m s Q E B F X N T hk hd hu hret herr
  k_with_none
  refine wpAny_call ?_
  k_dflt (refine' code_def ?k1 ?k2 ?k3 ?k4 ?k5 ?kA ?kF ?kK ?k6 ?k7 ?k8 ?k9 ?kB ?_ ?c2 ?c3 ?c4 ?c5; (case kA => exact rfl); (case kF => exact rfl); (case kK => assumption); (case k1 => k_asm); (case k2 => k_asm); (case k3 => k_asm); (case k4 => k_asm); (case k5 => k_asm); (case k6 => k_is); (case k7 => k_is); (case k8 => ktr_room); (case k9 => exact BindsTo.of_eq rfl); (case c5 => decide); (case kB => exact locs rfl); (case c2 => exact rfl); (case c3 => exact rfl); (case c4 => exact rfl); k_whole)
  intro g1 L1 h1 FG F1 N1 B1 X1 T1
  replace F1 : Fr g1 L1 h1 (fun y9 => List.lookup y9 []) := F1
  clear F N
  dsimp only
  k_unmd
  k_fold
  k_steps
  refine hret _ _ _ _ ⟨⟨_, _, rfl, ?_, ?_⟩, rfl⟩ (by assumption) (by assumption)
  · decide +kernel
  · rw [KWd.words_scan]; decide +kernel
theorem ck_names (w : World) (news : Led) : Ctr w 162 [] news 1 8 (KOk fun Z9 => ∀ x t, x.length ≤ 1000 → Txt.words x = names → Z9 (.str x t) news) False :=
  (c_names w news).mono fun _ _ h Z9 hk => by
    obtain ⟨⟨x, t, rfl, h1, h2⟩, rfl⟩ := h
    exact hk x t h1 h2
theorem c_shorts (w : World) (news : Led) : Ctr w 169 [] news 1 8 (fun r n => (∃ x t, r = .str x t ∧ x.length ≤ 1000 ∧ Txt.words x = shorts.map (fun q : Str × Str => q.1 ++ Str.ofString "=" ++ q.2)) ∧ n = news) False := by
  intro loose mean mg mb dp un gd cn cs a ccd cl outer A₀ base h₀ L m s Q E B F X N T hk hd hu hret herr
  k_with_none
  refine wpAny_call ?_
  k_dflt (refine' code_def ?k1 ?k2 ?k3 ?k4 ?k5 ?kA ?kF ?kK ?k6 ?k7 ?k8 ?k9 ?kB ?_ ?c2 ?c3 ?c4 ?c5; (case kA => exact rfl); (case kF => exact rfl); (case kK => assumption); (case k1 => k_asm); (case k2 => k_asm); (case k3 => k_asm); (case k4 => k_asm); (case k5 => k_asm); (case k6 => k_is); (case k7 => k_is); (case k8 => ktr_room); (case k9 => exact BindsTo.of_eq rfl); (case c5 => decide); (case kB => exact locs rfl); (case c2 => exact rfl); (case c3 => exact rfl); (case c4 => exact rfl); k_whole)
  intro g1 L1 h1 FG F1 N1 B1 X1 T1
  replace F1 : Fr g1 L1 h1 (fun y9 => List.lookup y9 []) := F1
  clear F N
  dsimp only
  k_unmd
  k_fold
  k_steps
  refine hret _ _ _ _ ⟨⟨_, _, rfl, ?_, ?_⟩, rfl⟩ (by assumption) (by assumption)
  · decide +kernel
  · rw [KWd.words_scan]; decide +kernel

theorem ck_shorts (w : World) (news : Led) : Ctr w 169 [] news 1 8 (KOk fun Z9 => ∀ x t, x.length ≤ 1000 → Txt.words x = shorts.map (fun q : Str × Str => q.1 ++ Str.ofString "=" ++ q.2) → Z9 (.str x t) news) False :=
  (c_shorts w news).mono fun _ _ h Z9 hk => by
    obtain ⟨⟨x, t, rfl, h1, h2⟩, rfl⟩ := h
    exact hk x t h1 h2

end Mine
set_option Elab.async false
set_option maxRecDepth 100000
set_option maxHeartbeats 2000000
set_option compiler.extract_closed false
namespace Mine
open PyProof.V
section
variable {w : World} {A : Around} {E : Value → Shared → Prop} {s : Shared} {prog : Program}
noncomputable def Yields (prog : Program) (w : World) (A : Around) (E : Value → Shared → Prop) (c : Sem Value) (x : Str) : Prop := ∀ (s : Shared) (Q : Value → Shared → Prop), (∀ t k, Q (.str x t) { s with toks := k }) → wpAny (model prog w) A c Q E s
inductive CP (prog : Program) (w : World) (A : Around) (E : Value → Shared → Prop) : List (Sem Value × Sem Value) → List (Str × Str) → Prop
  | nil : CP prog w A E [] []
  | cons {c v : Sem Value} {x y : Str} {ps : List (Sem Value × Sem Value)} {ls : List (Str × Str)} : Yields prog w A E c x → Yields prog w A E v y → CP prog w A E ps ls → CP prog w A E ((c, v) :: ps) ((x, y) :: ls)
theorem CP.length {ps : List (Sem Value × Sem Value)} {ls : List (Str × Str)} (h : CP prog w A E ps ls) : ls.length = ps.length := by
  induction h with
  | nil => rfl
  | cons _ _ _ ih => simp [ih]
noncomputable abbrev dataOf (ls : List (Str × Str)) : List (PyData × PyData) := ls.map fun q => (.str q.1, .str q.2)
theorem isStr (x : Str) (t : Tok) : (PySem.strKind prog w).is x (.str x t) = true := by simp [PySem.strKind, Value.isStrOf]
theorem flatAppend {K : Type} {enc : K → PyData} {a b : List (K × Value)} {D D' : List (PyData × PyData)} (h : FlatPairs enc a D) (h' : FlatPairs enc b D') : FlatPairs enc (a ++ b) (D ++ D') := by
  induction h with
  | nil => exact h'
  | cons f _ ih => exact .cons f ih
theorem storedNew {kvs : List (Str × Value)} {k : Str} {v : Value} (h : k ∉ kvs.map (·.1)) : stored kvs k v = kvs ++ [(k, v)] := by
  have hany : ¬ (kvs.any fun kv => decide (kv.1 = k)) = true := by
    rw [List.any_eq_true]
    rintro ⟨kv, hkv, he⟩
    exact h (List.mem_map.mpr ⟨kv, hkv, of_decide_eq_true he⟩)
  rw [stored, if_neg hany]
theorem flatKeys {kvs : List (Str × Value)} {ls : List (Str × Str)} (h : FlatPairs PyData.str kvs (dataOf ls)) : kvs.map (·.1) = ls.map (·.1) := by
  induction ls generalizing kvs with
  | nil => cases h; rfl
  | cons q ls ih => cases h with | cons f h => simp [ih h]
theorem mergedNew {a b : List (Str × Value)} (h : ((a ++ b).map (·.1)).Nodup) : merged a b = a ++ b := by
  induction b generalizing a with
  | nil => simp [merged]
  | cons q b ih =>
    have hq : q.1 ∉ a.map (·.1) := by
      rw [List.map_append, List.nodup_append] at h
      exact fun hm => h.2.2 _ hm _ (.head _) rfl
    have e := ih (a := a ++ [q]) (by simpa using h)
    rw [merged, List.foldl_cons, storedNew hq]
    simpa [merged] using e
theorem pairsYield {ps : List (Sem Value × Sem Value)} {ls : List (Str × Str)} (h : CP prog w A E ps ls) : ∀ (s : Shared) (Q : List (Value × Value) → Shared → Prop),
    (∀ vs kvs k, Carries (PySem.strKind prog w) vs kvs → FlatPairs PyData.str kvs (dataOf ls) → Q vs { s with toks := k }) → wpAny (model prog w) A (evalPairs ps) Q E s := by
  induction h with
  | nil => exact fun s Q hQ => evalPairs_nil (hQ [] [] s.toks trivial .nil)
  | cons hc hv _ ih =>
    intro s Q hQ
    refine evalPairs_cons (hc _ _ fun t k => hv _ _ fun t' k' => ih _ _ fun vs kvs k'' h1 h2 => ?_)
    exact hQ _ ((_, _) :: kvs) k'' ⟨isStr _ t, rfl, h1⟩ (.cons (.str _ _) h2)
theorem subLoop {d : Addr} {ps : List (Sem Value × Sem Value)} {ls : List (Str × Str)} (h : CP prog w A E ps ls) : ∀ (acc : List (Str × Value)) (s : Shared) (Q : PUnit → Shared → Prop), s.heap.DictOf (PySem.strKind prog w) d acc → acc.length + ps.length ≤ sizeLine →
    (∀ kvs h' k, FlatPairs PyData.str kvs (dataOf ls) → h'.DictOf (PySem.strKind prog w) d (merged acc kvs) → Heap.SameBut d s.heap h' → Q PUnit.unit { s with heap := h', toks := k }) →
    wpAny (model prog w) A (forIn ps PUnit.unit fun (x : Sem Value × Sem Value) (_ : PUnit) => (do let kv ← x.1; let vv ← holding [kv] x.2; holding [kv, vv] (dictSet d kv vv); pure (ForInStep.yield PUnit.unit) : Sem (ForInStep PUnit))) Q E s := by
  induction h with
  | nil =>
    intro acc s Q hm _ hQ
    rw [List.forIn_nil]
    exact wpAny_pure (hQ [] s.heap s.toks .nil hm (Heap.SameBut.refl _ _))
  | cons hc hv _ ih =>
    intro acc s Q hm hsz hQ
    rw [List.length_cons] at hsz
    rw [List.forIn_cons]
    refine wpAny_bind (wpAny_bind (hc _ _ fun t k => wpAny_bind (wpAny_holding (hv _ _ fun t' k' => wpAny_bind (wpAny_holding (wpAny_dictSet_pairs (knd := PySem.strKind prog w) (hsz := by omega) (isStr _ t) hm fun h₁ hm₁ hs₁ => wpAny_pure ?_))))))
    refine ih _ _ Q hm₁ (Nat.le_trans (Nat.add_le_add_right (stored_length_le _ _ _) _) (by omega)) fun kvs h' k'' hf hm' hs' => ?_
    exact hQ ((_, _) :: kvs) h' k'' (.cons (.str _ _) hf) (by simpa [merged] using hm') (hs₁.trans hs')

theorem subLong {ps : List (Sem Value × Sem Value)} {ls : List (Str × Str)} (h : CP prog w A E ps ls) (h15 : ¬ ps.length ≤ 15) (hz : ps.length ≤ 100) {Q : Addr → Shared → Prop}
    (hQ : ∀ kvs h' k, FlatPairs PyData.str kvs (dataOf ls) → h'.DictOf (PySem.strKind prog w) s.heap.objs.size (merged [] kvs) → Heap.SameBut s.heap.objs.size (s.heap.push { cls := .type "dict", data := .dict #[] }) h' → Q s.heap.objs.size { s with heap := h', toks := k }) :
    wpAny (model prog w) A (subDict ps) Q E s := by
  unfold subDict
  refine wpAny_bind (wpAny_alloc ?_)
  refine wpAny_bind (wpAny_holding ?_)
  rw [if_neg h15]
  refine wpAny_bind (wpAny_rule ?_)
  refine wpAny_bind (subLoop h [] _ _ (Heap.DictOf.new s.heap) (by rw [sizeLine_eq, List.length_nil]; omega) fun kvs h' k hf hd hs => wpAny_pure (wpAny_pure (hQ kvs h' k hf hd hs)))
theorem subShort {ps : List (Sem Value × Sem Value)} {ls : List (Str × Str)} (h : CP prog w A E ps ls) (h15 : ps.length ≤ 15) {Q : Addr → Shared → Prop}
    (hQ : ∀ kvs h' k, FlatPairs PyData.str kvs (dataOf ls) → h'.DictOf (PySem.strKind prog w) s.heap.objs.size (merged [] kvs) → Heap.SameBut s.heap.objs.size (s.heap.push { cls := .type "dict", data := .dict #[] }) h' → Q s.heap.objs.size { s with heap := h', toks := k }) :
    wpAny (model prog w) A (subDict ps) Q E s := by
  refine wpAny_subDict (knd := PySem.strKind prog w) h15 (pairsYield h _ _ fun vs kvs k hc hf => ⟨kvs, hc, Heap.DictOf.new s.heap, fun h' hd hs => hQ kvs h' _ hf hd hs⟩)
theorem putFresh {d : Addr} {kvs : List (Str × Value)} {k : Str} {key v : Value} {Q : Unit → Shared → Prop} (hkey : (PySem.strKind prog w).is k key = true) (hm : s.heap.DictOf (PySem.strKind prog w) d kvs) (hnot : k ∉ kvs.map (·.1))
    (hQ : ∀ h', h'.DictOf (PySem.strKind prog w) d (kvs ++ [(k, v)]) → Heap.SameBut d s.heap h' → Q () { s with heap := h' }) (hsz : kvs.length ≤ sizeLine) :
    wpAny (model prog w) A (dictPut d ((PySem.strKind prog w).hash k) key v) Q E s := by
  obtain ⟨o, es, ep, ho, hc, hd, hk, hp, hn⟩ := hm
  have hes : es.size ≤ sizeLine := by
    have e1 := hp.length
    have e2 : es.toList.length = es.size := by simp
    omega
  unfold dictPut
  refine wpAny_bind (wpAny_dictFind_of hkey ho hd hk ?_)
  have hidx : (es.findIdx? fun e => (PySem.strKind prog w).is k e.key) = kvs.findIdx? fun kv => decide (kv.1 = k) := by
    rw [← hp.findIdx k]; obtain ⟨l⟩ := es; simp
  cases hi : es.findIdx? fun e => (PySem.strKind prog w).is k e.key with
  | some i =>
    have hany := any_of_findIdx_some (hidx ▸ hi)
    rw [List.any_eq_true] at hany
    obtain ⟨kv, hkv, he⟩ := hany
    exact absurd (List.mem_map.mpr ⟨kv, hkv, of_decide_eq_true he⟩) hnot
  | none =>
    refine wpAny_updateDictKeys (hz := hes) ho hd (hQ _ ⟨_, _, ep + 1, Heap.get?_update_self _ ho (Obj.isFreed_of_dict (Obj.data_mapDictKeys hd _)), hc.mapDictKeys _, Obj.data_mapDictKeys hd _, hk.push hkey _, ?_, ?_⟩ (Heap.SameBut.update ..))
    · have := hp.append hkey ((PySem.strKind prog w).hash k) v
      obtain ⟨l⟩ := es
      simpa using this
    · rw [List.map_append, List.nodup_append]
      refine ⟨hn, by simp, ?_⟩
      intro a ha b hb
      simp only [List.map_cons, List.map_nil, List.mem_singleton] at hb
      subst hb
      exact fun e => hnot (e ▸ ha)
theorem mergeBig {d o : Addr} {kvs more : List (Str × Value)} {Q : Unit → Shared → Prop} (hdo : d ≠ o) (hoS : (o == sysModules) = false) (hne : kvs ≠ []) (hnd : ((kvs ++ more).map (·.1)).Nodup) (hsz : kvs.length + more.length ≤ sizeLine)
    (hd : s.heap.DictOf (PySem.strKind prog w) d kvs) (ho : s.heap.DictOf (PySem.strKind prog w) o more)
    (hQ : ∀ h', h'.DictOf (PySem.strKind prog w) d (kvs ++ more) → Heap.SameBut d s.heap h' → Q () { s with heap := h' }) :
    wpAny (model prog w) A (mergeMapping d (.ref o) false) Q E s := by
  obtain ⟨od, esd, epd, hod, hcd, hdd, hkd, hpd, hnd'⟩ := id hd
  obtain ⟨oo, eso, epo, hoo, hco, hdo', hko, hpo, hno⟩ := id ho
  have hlen : more.length = eso.size := by rw [← hpo.length]; simp
  unfold mergeMapping
  refine wpAny_bind (wpAny_isInstance ho.typeIs isSubtype_dict_dict ?_)
  dsimp only
  rw [if_pos rfl]
  refine wpAny_bind (wpAny_specialOf ho.typeIs F.slot_dict_iter.lookup ?_)
  refine wpAny_bind (wpAny_pure ?_)
  simp only [beq_self_eq_true]
  rw [if_neg (by rw [hoS]; exact Bool.false_ne_true)]
  refine wpAny_bind (wpAny_dictEntries hod hdd ?_)
  have hemp : ¬ esd.isEmpty = true := by
    intro he
    have h0 : esd = #[] := Array.isEmpty_iff.mp he
    have := hpd.length
    rw [h0] at this
    exact hne (List.length_eq_zero_iff.mp (by simpa using this.symm))
  rw [if_neg hemp]
  refine wpAny_bind (wpAny_dictEntries hoo hdo' ?_)
  refine wpAny_bind (wpAny_dictEpoch hoo hdo' ?_)
  refine wpAny_bind ?_
  refine wpAny_forIn_list _
      (fun rest _ s' => ∃ h' i, s' = { s with heap := h' } ∧ rest = List.range' i (eso.size - i) ∧ i ≤ eso.size ∧ h'.DictOf (PySem.strKind prog w) d (kvs ++ more.take i) ∧ h'.get? o = some oo ∧ Heap.SameBut d s.heap h')
      _ ?_ ?_ _ _ ⟨s.heap, 0, rfl, by simp [List.range_eq_range'], Nat.zero_le _, by simpa using hd, hoo, Heap.SameBut.refl _ _⟩
  · rintro x rest b s' ⟨h', i, rfl, hr, hi, hd', hoo', hs'⟩
    have hlt : i < eso.size := by
      rcases Nat.lt_or_ge i eso.size with h | h
      · exact h
      · rw [Nat.sub_eq_zero_of_le h] at hr; simp at hr
    obtain ⟨rfl, hrest⟩ : x = i ∧ rest = List.range' (i + 1) (eso.size - (i + 1)) := by
      have e : eso.size - i = (eso.size - (i + 1)) + 1 := by omega
      rw [e, List.range'_succ] at hr
      injection hr with h1 h2
      exact ⟨h1, h2⟩
    refine wpAny_bind (wpAny_dictEntries hoo' hdo' ?_)
    rw [Array.getElem?_eq_getElem hlt]
    obtain ⟨kv, hkv⟩ : ∃ kv, more[x]? = some kv := ⟨more[x]'(by rw [hlen]; exact hlt), List.getElem?_eq_getElem _⟩
    obtain ⟨k, v⟩ := kv
    obtain ⟨hkey, hval⟩ := hpo.get? (e := eso[x]) (by simp [hlt]) hkv
    obtain ⟨k', hkey', hhash⟩ := hko eso[x] (Array.getElem_mem hlt)
    obtain rfl : k' = k := (PySem.strKind prog w).inj _ _ _ hkey' hkey
    have htk : more.take (x + 1) = more.take x ++ [(k', v)] := by rw [List.take_add_one, hkv]; rfl
    have hfresh : k' ∉ (kvs ++ more.take x).map (·.1) := by
      have e : kvs ++ more = (kvs ++ more.take x) ++ ((k', v) :: more.drop (x + 1)) := by
        rw [List.append_assoc]
        congr 1
        conv => lhs; rw [← List.take_append_drop (x + 1) more, htk, List.append_assoc]
        rfl
      rw [e, List.map_append, List.nodup_append] at hnd
      exact fun hm => hnd.2.2 _ hm _ (.head _) rfl
    have hmx : (kvs ++ more.take x).length ≤ sizeLine := by
      have e2 : (more.take x).length ≤ more.length := by rw [List.length_take]; omega
      rw [List.length_append]; omega
    dsimp only
    rw [if_neg Bool.false_ne_true, hhash, hval]
    refine wpAny_bind (wpAny_holding (putFresh hkey hd' hfresh (fun h'' hd'' hs'' => ?_) hmx))
    have hoo'' : h''.get? o = some oo := (hs''.2 o (Ne.symm hdo)).trans hoo'
    refine wpAny_bind (wpAny_dictEpoch hoo'' hdo' ?_)
    rw [if_neg (by simp)]
    exact wpAny_pure ⟨h'', x + 1, rfl, hrest, hlt, by rw [htk, ← List.append_assoc]; exact hd'', hoo'', hs'.trans hs''⟩
  · rintro b s' ⟨h', i, rfl, hr, hi, hd', hoo', hs'⟩
    have hin : i = eso.size := by
      rcases Nat.lt_or_ge i eso.size with h | h
      · have e : eso.size - i = (eso.size - (i + 1)) + 1 := by omega
        rw [e, List.range'_succ] at hr; exact nomatch hr
      · exact Nat.le_antisymm hi h
    refine wpAny_pure (hQ h' ?_ hs')
    rw [hin, ← hlen, List.take_length] at hd'; exact hd'
theorem gather (f : (Option (Sem Value) × Sem Value) → (Option Addr × List (Sem Value × Sem Value)) → Sem (ForInStep (Option Addr × List (Sem Value × Sem Value)))) (m : Option Addr) (rest : List (Option (Sem Value) × Sem Value))
    (hf : ∀ (p : Sem Value × Sem Value) (run : List (Sem Value × Sem Value)), run.length + 1 < 17 → f (some p.1, p.2) (m, run) = pure (.yield (m, run ++ [p]))) :
    ∀ (items run : List (Sem Value × Sem Value)), run.length + items.length < 17 → forIn ((items.map fun p => (some p.1, p.2)) ++ rest) (m, run) f = forIn rest (m, run ++ items) f
  | [], run, _ => by simp
  | p :: is, run, h => by
    rw [List.map_cons, List.cons_append, List.forIn_cons, hf p run (by simp at h; omega), pure_bind]
    have := gather f m rest hf is (run ++ [p]) (by simp at h ⊢; omega)
    simpa using this
theorem displayBig {a : List (Sem Value × Sem Value)} {q : Sem Value × Sem Value} {b : List (Sem Value × Sem Value)} (ha : a.length = 16) (hb : b.length < 17) (hb0 : b ≠ []) {Q : Value → Shared → Prop}
    (h : wpAny (model prog w) A (subDict (a ++ [q])) (fun d s₁ => wpAny (model prog w) A (subDict b) (fun o s₂ => wpAny (model prog w) A (mergeMapping d (.ref o) false) (fun _ s₃ => Q (.ref d) s₃) (fun _ _ => False) s₂) E s₁) E s) :
    wpAny (model prog w) A (dictDisplay ((a ++ q :: b).map fun p => (some p.1, p.2))) Q E s := by
  unfold dictDisplay
  dsimp only
  rw [List.map_append, gather _ none _ (fun p run h => by
    have hne : ((run ++ [(p.1, p.2)]).length == 17) = false := by simp; omega
    simp only [hne, Bool.false_eq_true, if_false]) a [] (by rw [ha]; decide), List.map_cons, List.forIn_cons]
  have h17 : ((a ++ [q]).length == 17) = true := by simp [ha]
  simp only [List.nil_append, h17, if_true]
  have he : ¬ (a ++ [q]).isEmpty = true := by simp
  have he' : ¬ b.isEmpty = true := by simpa using hb0
  refine wpAny_bind (wpAny_bind (wpAny_bind ?_))
  rw [if_neg he]
  refine wpAny_bind (wpAny_mono h (fun d s₁ h₁ => ?_) (fun _ _ e => e))
  refine wpAny_pure (wpAny_pure ?_)
  dsimp only
  rw [← List.append_nil (List.map (fun p : Sem Value × Sem Value => (some p.1, p.2)) b), gather _ (some d) [] (fun p run h => by
    have hne : ((run ++ [(p.1, p.2)]).length == 17) = false := by simp; omega
    simp only [hne, Bool.false_eq_true, if_false]) b [] (by simpa using hb), List.forIn_nil]
  refine wpAny_pure ?_
  dsimp only
  refine wpAny_bind ?_
  rw [List.nil_append, if_neg he']
  refine wpAny_bind (wpAny_holding (wpAny_mono h₁ (fun o s₂ h₂ => ?_) (fun _ _ e => e)))
  refine wpAny_bind (wpAny_onRaise (wpAny_holding (wpAny_mono h₂ (fun _ s₃ h₃ => wpAny_pure (wpAny_pure h₃)) (fun _ _ e => e.elim))))
theorem treesCP {env : Env} {pos : Pos} : ∀ (ks : List (Option PySem.Expr)) (vs : List PySem.Expr) (ls : List (Str × Str)), allC ks vs = some ls → CP prog w A E (pairTrees ks vs env pos) ls
  | [], vs, ls, h => by
    have h' : (if vs.isEmpty = true then some [] else none) = some ls := h
    by_cases hv : vs.isEmpty = true
    · rw [if_pos hv] at h'
      obtain rfl := Option.some.inj h'
      obtain rfl := List.isEmpty_iff.mp hv
      exact .nil
    · rw [if_neg hv] at h'; cases h'
  | k :: ks, vs, ls, h => by
    obtain ⟨x, hx, h1⟩ := Option.bind_eq_some_iff.mp h
    obtain ⟨y, hy, h2⟩ := Option.bind_eq_some_iff.mp h1
    obtain ⟨l, hr, rfl⟩ := Option.map_eq_some_iff.mp h2
    obtain ⟨ke, rfl, hk⟩ := Option.bind_eq_some_iff.mp hx
    obtain ⟨ve, hv, hv2⟩ := Option.bind_eq_some_iff.mp hy
    obtain ⟨k1, q1, rfl⟩ := strC_inv hk
    obtain ⟨k2, q2, rfl⟩ := strC_inv hv2
    obtain ⟨vt, rfl⟩ : ∃ vt, vs = .Constant (.str y) k2 q2 :: vt := List.head?_eq_some_iff.mp hv
    exact .cons (fun s Q hQ => wpAny_Constant_str (hQ _ _)) (fun s Q hQ => wpAny_bind (wpAny_Constant_str (wpAny_bind (wpAny_standAt (wpAny_pure (hQ _ _)))))) (treesCP ks vt l hr)
theorem CP.take {ps : List (Sem Value × Sem Value)} {ls : List (Str × Str)} (h : CP prog w A E ps ls) : ∀ n, CP prog w A E (ps.take n) (ls.take n) := by
  induction h with
  | nil => intro n; simpa using CP.nil
  | cons hc hv _ ih => intro n; cases n with
    | zero => exact .nil
    | succ n => exact .cons hc hv (ih n)
theorem CP.drop {ps : List (Sem Value × Sem Value)} {ls : List (Str × Str)} (h : CP prog w A E ps ls) : ∀ n, CP prog w A E (ps.drop n) (ls.drop n) := by
  induction h with
  | nil => intro n; simpa using CP.nil
  | cons hc hv hr ih => intro n; cases n with
    | zero => exact .cons hc hv hr
    | succ n => exact ih n
theorem dictBig {h₀ : Heap} {L : Addr} {m : Str → Option Value} {news : Led} {env : Env} {pos : Pos} {keys : List (Option PySem.Expr)} {values : List PySem.Expr} {ls : List (Str × Str)} {Q : Value → Shared → Prop}
    (F : Fr h₀ L s.heap m) (N : News h₀ L s.heap news) (hbig : h₀.NoLimit) (hC : allC keys values = some ls) (hall : keys.all (·.isSome) = true) (hl : keys.length = values.length) (h17 : 17 < keys.length) (h32 : keys.length ≤ 32) (hnd : (ls.map (·.1)).Nodup)
    (h : ∀ (d : Addr) (o : Obj) (kvs : List (Str × Value)) (h' : Heap) (k : Nat), Fr h₀ L h' m → News h₀ L h' ((d, o) :: news) → (∀ p ∈ news, p.1 < d) → (d == sysModules) = false → o.IsDictOf (PySem.strKind prog w) kvs → FlatPairs PyData.str kvs (dataOf ls) → Q (.ref d) { s with heap := h', toks := k }) :
    wpAny (model prog w) A (eval (.Dict keys values pos) env) Q E s := by
  have C : CP prog w A (fun _ _ => False) (pairTrees keys values env pos) ls := treesCP _ _ _ hC
  have C' : CP prog w A E (pairTrees keys values env pos) ls := treesCP _ _ _ hC
  have hpl : (pairTrees keys values env pos).length = keys.length := pairTrees_length keys values env pos hall hl
  rw [arm_eval_Dict, zip_pairTrees keys values env pos hall hl]
  generalize pairTrees keys values env pos = ps at C C' hpl
  have hll := C.length
  have e17 : ps.take 17 = ps.take 16 ++ [ps[16]'(by omega)] := by rw [List.take_add_one, List.getElem?_eq_getElem (by omega)]; rfl
  have eps : ps = ps.take 16 ++ (ps[16]'(by omega)) :: ps.drop 17 := by
    conv => lhs; rw [← List.take_append_drop 17 ps, e17, List.append_assoc]
    rfl
  have els : ls.take 17 ++ ls.drop 17 = ls := List.take_append_drop 17 ls
  refine wpAny_bind (wpAny_standAt ?_)
  rw [eps]
  refine displayBig (by rw [List.length_take]; omega) (by rw [List.length_drop]; omega) (by intro hx; have := congrArg List.length hx; rw [List.length_drop] at this; simp at this; omega) ?_
  rw [← e17]
  refine subLong (C'.take 17) (by rw [List.length_take]; omega) (by rw [List.length_take]; omega) fun kvs1 h1 k1 f1 d1 s1 => ?_
  have F1 : Fr h₀ L h1 m := F.filled s1
  obtain ⟨o1, g1, i1⟩ := Heap.dictOf_iff.mp d1
  have N1 := News.filled F N s1 g1
  refine subShort (C'.drop 17) (by rw [List.length_drop]; omega) fun kvs2 h2 k2 f2 d2 s2 => ?_
  have F2 : Fr h₀ L h2 m := F1.filled s2
  obtain ⟨o2, g2, i2⟩ := Heap.dictOf_iff.mp d2
  have N2 := News.filled F1 N1 s2 g2
  have hlt : s.heap.objs.size < h1.objs.size := Heap.lt_size g1
  have hkeys : ((kvs1 ++ kvs2).map (·.1)).Nodup := by
    rw [List.map_append, flatKeys f1, flatKeys f2, ← List.map_append, els]
    exact hnd
  have m1 : merged [] kvs1 = kvs1 := mergedNew (a := []) (by
    rw [List.map_append, List.nodup_append] at hkeys
    exact hkeys.1)
  have m2 : merged [] kvs2 = kvs2 := mergedNew (a := []) (by
    rw [List.map_append, List.nodup_append] at hkeys
    exact hkeys.2.1)
  rw [m1] at d1
  rw [m2] at d2
  have hk1 : kvs1.length = 17 := by
    have := congrArg List.length (flatKeys f1)
    rw [List.length_map, List.length_map, List.length_take] at this
    omega
  have hk2 : kvs2.length ≤ 15 := by
    have := congrArg List.length (flatKeys f2)
    rw [List.length_map, List.length_map, List.length_drop] at this
    omega
  have d1' : h2.DictOf (PySem.strKind prog w) s.heap.objs.size kvs1 := (d1.push _).sameBut s2 (Nat.ne_of_lt hlt)
  refine mergeBig (Nat.ne_of_lt hlt) (F1.notModules (modules_low hbig)) (by intro hx; rw [hx] at hk1; simp at hk1) hkeys (by rw [sizeLine_eq]; omega) d1' d2 fun h3 d3 s3 => ?_
  obtain ⟨o3, g3, i3⟩ := Heap.dictOf_iff.mp d3
  have hm1 := N1 _ (List.Mem.head _)
  have N3 := News.setIn (own := [(h1.objs.size, o2)]) (rest := news) N2 (by intro p hp; cases List.mem_singleton.mp hp; exact Nat.ne_of_gt hlt) (fun p hp => Nat.ne_of_lt (Heap.lt_size (N p hp).1)) s3 g3
  refine h _ o3 _ h3 _ (F2.change s3 hm1.2.1 hm1.2.2) (fun q hq => N3 q (.tail _ hq)) (fun p hp => Heap.lt_size (N p hp).1) (F.notModules (modules_low hbig)) i3 ?_
  have := flatAppend f1 f2
  rw [dataOf, dataOf, ← List.map_append, els] at this
  exact this
end
end Mine
set_option Elab.async false
set_option maxRecDepth 100000
set_option maxHeartbeats 2000000
set_option compiler.extract_closed false
namespace Mine
local macro_rules | `(tactic| walk_at $s:str) => `(tactic| k_extra $s)
theorem fillP6 : r = r ∧ K = K := by k_fill; exact ⟨rfl, rfl⟩
theorem shortsOnce : (shorts.map (·.1)).Nodup := by decide +kernel
theorem c_short_forms (w : World) (news : Led) : Ctr w 82 [] news 1 8 (fun r n => ∃ (d : Addr) (o : Obj) (kvs : List (Str × Value)), r = .ref d ∧ n = (d, o) :: news ∧ (∀ q ∈ news, q.1 < d) ∧ (d == sysModules) = false ∧ o.IsDictOf (PySem.strKind p w) kvs ∧ PyProof.V.FlatPairs PyData.str kvs (dataOf shorts)) False := by
  intro loose mean mg mb dp un gd cn cs a ccd cl outer A₀ base h₀ L m s Q E B F X N T hk hd hu hret herr
  k_with_none
  refine wpAny_call ?_
  k_dflt (refine' code_def ?k1 ?k2 ?k3 ?k4 ?k5 ?kA ?kF ?kK ?k6 ?k7 ?k8 ?k9 ?kB ?_ ?c2 ?c3 ?c4 ?c5; (case kA => exact rfl); (case kF => exact rfl); (case kK => assumption); (case k1 => k_asm); (case k2 => k_asm); (case k3 => k_asm); (case k4 => k_asm); (case k5 => k_asm); (case k6 => k_is); (case k7 => k_is); (case k8 => ktr_room); (case k9 => exact BindsTo.of_eq rfl); (case c5 => decide); (case kB => exact locs rfl); (case c2 => exact rfl); (case c3 => exact rfl); (case c4 => exact rfl); k_whole)
  intro g1 L1 h1 FG F1 N1 B1 X1 T1
  replace F1 : Fr g1 L1 h1 (fun y9 => List.lookup y9 []) := F1
  clear F N
  dsimp only
  k_unmd
  k_fold
  k_with "eval Dict" => (refine Stop.out ?_)
  k_steps
  refine Stop.in ?_
  k_here
  refine' dictBig (ls := shorts) ?F ?N ?b ?c ?d ?e ?f ?g ?nn ?_
  case F => k_asm
  case N => k_asm
  case b => exact Top.nolimit (by k_asm)
  case d => exact rfl
  case e => exact rfl
  case f => exact Nat.le_of_ble_eq_true rfl
  case g => exact Nat.le_of_ble_eq_true rfl
  case nn => exact shortsOnce
  case c => decide +kernel
  intro d o kvs h2 tk2 F2 N2 hlt2 hs2 hd2 hf2
  k_steps
  exact hret _ _ _ _ ⟨d, o, kvs, rfl, rfl, hlt2, hs2, hd2, hf2⟩ (by assumption) (by assumption)

theorem ck_short_forms (w : World) (news : Led) : Ctr w 82 [] news 1 8 (KOk fun Z9 => ∀ (d : Addr) (o : Obj) (kvs : List (Str × Value)), ((∀ q ∈ news, q.1 < d)) → (d == sysModules) = false → o.IsDictOf (PySem.strKind p w) kvs → PyProof.V.FlatPairs PyData.str kvs (dataOf shorts) → Z9 (.ref d) ((d, o) :: news)) False :=
  (c_short_forms w news).mono fun _ _ h Z9 hk => by
    obtain ⟨d, o, kvs, rfl, rfl, h1, h2, h3, h4⟩ := h
    exact hk d o kvs h1 h2 h3 h4

end Mine
set_option Elab.async false
set_option maxRecDepth 100000
set_option maxHeartbeats 2000000
set_option compiler.extract_closed false
namespace Mine
theorem strsAt {vs : List Value} {xs : List Str} (h : StrsAre vs xs) : ∀ {i : Nat} {v : Value}, vs[i]? = some v → ∃ z u, v = .str z u := by
  induction h with
  | nil => intro i v e; simp at e
  | cons y t _ ih =>
    intro i v e
    cases i with
    | zero => exact ⟨y, t, by simpa using e.symm⟩
    | succ i => exact ih (by simpa using e)
theorem strsFilter {vs : List Value} {xs : List Str} (pz : Str → Bool) (h : StrsAre vs xs) : StrsAre (vs.filter (ItemKind.str.lift pz)) (xs.filter pz) := by
  induction h with
  | nil => exact .nil
  | cons y t _ ih =>
    have e : ItemKind.str.lift pz (.str y t) = pz y := ItemKind.lift_is (show ItemKind.str.is y (.str y t) from ⟨t, rfl⟩)
    rw [List.filter_cons, List.filter_cons, e]
    split
    · exact .cons y t ih
    · exact ih
section
variable {prog : Program} {w : World} {A : Around} {E : Value → Shared → Prop} {s : Shared} {h₀ : Heap} {L : Addr} {m : Str → Option Value} {news : Led} {env : Env}
/-- y = [x for x in t if ..] over a tuple of texts, a captured name in the test: those that pass -/
theorem assignTup {tx x y : Str} {pt px px' py : Pos} {ifs : List Expr} {scope : Scope} {cl : List (Str × Addr)} {pos spos : Pos} {Q : Flow → Shared → Prop} {T : Addr} {vs : List Value} {xs : List Str} (pz : Str → Bool)
    (hsw : swapsWith (.ListComp (.Name x px') [⟨.Name x px, .Name tx pt, ifs, 0⟩] scope pos) (some (.Name y py)) spos.line env = pure true)
    (hclos : closureFor scope env = pure cl) (hcell : ∀ z ∈ scope.names, z.2 ≠ .cell) (hkind : scope.kind = .function)
    (hnames : ∀ z ∈ scope.names, z.2 = .local → scope.names.lookup z.1 = some .local) (hx : scope.names.lookup x = some .local)
    (hy : env.kindOf y = some .local) (hp : (env.scope.kind == .class || (env.scope.kind == .module && env.locals != env.globals)) = false)
    (hiter : wpAny (model prog w) A (eval (.Name tx pt) env) (fun v s' => v = .ref T ∧ s' = s) E s)
    (F : Fr h₀ L s.heap m) (N : News h₀ L s.heap news) (hL : env.locals = L) (hm : (T, tupO vs) ∈ news) (hv : StrsAre vs xs) (hlen : vs.length ≤ sizeLine) (hh : A.handled = none) (hd : (x == ("__debug__" : Str)) = false)
    (htests : ∀ C z u s₃ m₃ E', Fr h₀ L s₃.heap m → News h₀ L s₃.heap news → s₃.heap.Ns C m₃ → m₃ x = some (.str z u) →
        wpAny (model prog w) A (forIn ifs true fun c r => if r = true then do let ok ← isTrue c (compEnvC scope cl C env) (eval c (compEnvC scope cl C env)); pure (ForInStep.yield ok) else pure (ForInStep.yield r))
          (fun ok s₄ => ok = pz z ∧ Keeps s₃ s₄) E' s₃)
    (k : ∀ D ys h' tk n, Fr h₀ L h' (fun z => if z = y then some (.ref D) else m z) → News h₀ L h' ((D, W.listOf (List.toArray ys) n) :: news) → (∀ q ∈ news, q.1 ≠ D) → StrsAre ys (xs.filter pz) → Q .next { s with heap := h', toks := tk })
    (hs : ∀ x, foldedSetIterable (.Name tx pt) env x = pure x) :
    wpAny (model prog w) A (exec (.Assign [.Name y py] (.ListComp (.Name x px') [⟨.Name x px, .Name tx pt, ifs, 0⟩] scope pos) spos) env) Q E s := by
  refine wpAny_Assign_ListComp_free (ItemKind.str.lift pz) (fun v r => r = v) hsw hclos hcell hkind hnames hx hy hp (wpAny_mono hiter (fun xv s₁ h₁ => ?_) fun _ _ e => e) hs
  obtain ⟨rfl, rfl⟩ := h₁
  have hT : s₁.heap.IsTuple T (List.toArray vs) := by
    obtain ⟨o, ho, hc, n, hdd⟩ := News.isTup N hm
    exact ⟨o, ho, hc, n, hdd⟩
  have hlt : T < s₁.heap.objs.size := Heap.lt_size (N _ hm).1
  refine wpAny_pyIter_tuple hT ?_
  generalize hO : ({ cls := .type "tuple_iterator", data := .fields #[.ref T, .int 0 0] } : Obj) = o
  have up : ∀ (h' : Heap), (∀ b o', b ∉ [s₁.heap.objs.size] → (s₁.heap.push o).get? b = some o' → h'.get? b = some o') → ∀ b o', s₁.heap.get? b = some o' → h'.get? b = some o' :=
    fun h' hk b o' e => hk b o' (old_not_new e) (Heap.get?_push_of_some _ e)
  refine ⟨s₁.heap.objs.size, [s₁.heap.objs.size, T], [s₁.heap.objs.size], vs.length, fun i v => vs[i]? = some v, fun i h => h.IsTupleIter s₁.heap.objs.size T i ∧ h.IsTuple T (List.toArray vs), m, rfl, ?_, hlen, ⟨⟨_, Heap.get?_push_size _ (by rw [← hO]; rfl), by rw [← hO]; exact ⟨rfl, rfl⟩⟩, ?_⟩, ?_, ?_, ?_, ⟨?_, ?_⟩, ?_⟩
  · have W := Walks.tuple (prog := prog) (w := w) (A := A) hh s₁.heap.objs.size T (Nat.ne_of_lt hlt) (List.toArray vs)
    simpa using W
  · obtain ⟨o', ho', r⟩ := hT
    exact ⟨o', Heap.get?_push_of_some _ ho', r⟩
  · intro b hb
    show b < (s₁.heap.push o).objs.size
    rw [Heap.size_push]
    rcases List.mem_cons.mp hb with rfl | hb
    · exact Nat.lt_succ_self _
    · rw [List.mem_singleton.mp hb]
      exact Nat.lt_succ_of_lt hlt
  · rw [hL]
    exact fun hb => Nat.ne_of_lt F.ns.lt (List.mem_singleton.mp hb)
  · rw [hL]
    exact (F.push o).ns
  · intro C i v s₃ m₃ E' _ hP hn hm' hk _
    obtain ⟨z, u, rfl⟩ := strsAt hv hP
    rw [ItemKind.lift_is (show ItemKind.str.is z (.str z u) from ⟨u, rfl⟩)]
    exact htests C z u s₃ m₃ E' (F.keeps (up _ hk)) (N.grown (up _ hk)) hn hm'
  · intro C i v s₃ m₃ E' _ hP hp' hn hm' _ _
    obtain ⟨z, u, rfl⟩ := strsAt hv hP
    exact wpAny_Name (wpAny_loadName_local (by simp [compEnvC, relabel, hkind]) (lookup_relabel_local hx) hn hm' ⟨rfl, (InComp.start hn).done⟩) hd
  · intro D h' tk ys vs' hnew hlD hplD hlen' hP hF hNs hk
    obtain ⟨n, hD⟩ := hplD
    have hvs : vs' = vs := by
      refine List.ext_getElem? fun j => ?_
      by_cases hj : j < vs'.length
      · rw [hP j _ (List.getElem?_eq_getElem hj), List.getElem?_eq_getElem hj]
      · rw [List.getElem?_eq_none (by omega), List.getElem?_eq_none (by omega)]
    have hDn : ∀ q ∈ news, q.1 ≠ D := fun q hq e => by rw [← e, Heap.get?_push_of_some _ (N q hq).1] at hnew; cases hnew
    have hDL : D ≠ L := fun e => by
      obtain ⟨o, _, _, ho, _⟩ := F.ns
      rw [e, Heap.get?_push_of_some _ ho] at hnew; cases hnew
    have hnL : ∀ b o', b ≠ L → s₁.heap.get? b = some o' → h'.get? b = some o' := fun b o' hb e => hk b o' (by rw [hL]; exact hb) (by
      intro hm''
      rw [List.mem_singleton.mp hm''] at e
      exact absurd (Heap.lt_size e) (Nat.lt_irrefl _)) (Heap.get?_push_of_some _ e)
    have F' : Fr h₀ L h' (fun z => if z = y then some (.ref D) else m z) := ⟨hL ▸ hNs, fun b o' e => hnL b o' (Nat.ne_of_lt (Nat.lt_of_lt_of_le (Heap.lt_size e) F.above)) (F.keep _ _ e), F.above⟩
    refine k D ys.toList h' tk n F' (fun q hq => ?_) hDn ?_
    · rcases List.mem_cons.mp hq with rfl | hq
      · refine ⟨by simpa using hD, hDL, ?_⟩
        cases e : h₀.get? D with
        | none => rfl
        | some o' => rw [Heap.get?_push_of_some _ (F.keep _ _ e)] at hnew; cases hnew
      · exact ⟨hnL _ _ (N q hq).2.1 (N q hq).1, (N q hq).2.1, (N q hq).2.2⟩
    · rw [paired_eq hF, hvs]
      exact strsFilter pz hv
end
end Mine
set_option Elab.async false
set_option maxRecDepth 100000
set_option maxHeartbeats 2000000
set_option compiler.extract_closed false
namespace Mine
theorem pushC {A : Around} {base h₀ h : Heap} {outer : List Env} {L a : Addr} {m : Str → Option Value} {name : Str} {scope : Scope} {cd : Value} {cl : List (Str × Addr)}
    (K : Below A base outer h₀) (F : Fr h₀ L h m) (hk : scope.kind = .function) : Below (A.deeper (envX name scope L a cd cl)) base (envX name scope L a cd cl :: outer) h := by
  have hnew : base.get? L = none := by
    cases hq : base.get? L with
    | none => rfl
    | some o => exact absurd (Nat.lt_of_lt_of_le (Heap.lt_size (K.stays L o hq)) F.above) (Nat.lt_irrefl _)
  refine ⟨Around.frames_deeper K.stack, fun b o e => F.keep b o (K.stays b o e), ?_⟩
  exact .cons (by show scope.kind ≠ .module; rw [hk]; decide) rfl F.ns hnew (K.frames.of_keeps fun b o e _ => ⟨o, F.keep b o e, rfl⟩)
section
variable {M : Model} {A : Around} {E : Value → Shared → Prop} {s' : Shared} {base g : Heap} {outer : List Env} {L a e t : Addr} {m : Str → Option Value} {name : Str} {scope : Scope} {cd : Value} {cl : List (Str × Addr)} {Q : Unit → Shared → Prop} {news : Led} {dd : Option Addr} {vs : List Value}
theorem leave_faultC (Kb : Below A base outer g) (F : Fr g L s'.heap m) (N : News g L s'.heap ((e, faultObj t dd) :: (t, tupO vs) :: news)) (het : e ≠ t) (hne : ∀ q ∈ news, q.1 ≠ e ∧ q.1 ≠ t)
    (hQ : ∀ h', RaisedS base g outer e (.ref 44) t vs news h' → RaisedK base outer e (.ref 44) t vs news h' → g.UpToSlots h' → Q () { s' with heap := h' }) (hk : scope.kind = .function := by rfl) :
    wpAny M (A.deeper (envX name scope L a cd cl)) (leaving (envX name scope L a cd cl) (.ref e)) Q E s' := by
  have K' := pushC (name := name) (a := a) (cd := cd) (cl := cl) Kb F hk
  have Ne := N _ (.head _)
  have Nt := N _ (.tail _ (.head _))
  have fr : ∀ env ∈ (envX name scope L a cd cl :: outer), ∀ b, env.frame = some b → b ∈ (e :: t :: (envX name scope L a cd cl :: outer).filterMap (·.frame)) := fun env he b hb => .tail _ (.tail _ (List.mem_filterMap.mpr ⟨env, he, hb⟩))
  have nb : ∀ {b}, g.get? b = none → base.get? b = none := fun hb => fresh_of_stays Kb.stays hb
  have st : base.StaysIn (hideAll s'.heap (e :: t :: (envX name scope L a cd cl :: outer).filterMap (·.frame))) := fun b o q => hideAll_get _ (K'.stays b o q) fun hm => by
    rcases List.mem_cons.mp hm with rfl | hm
    · rw [nb Ne.2.2] at q; cases q
    rcases List.mem_cons.mp hm with rfl | hm
    · rw [nb Nt.2.2] at q; cases q
    rw [(K'.frames.mem hm).1] at q; cases q
  have sg : ∀ b o, g.get? b = some o → b ∉ outer.filterMap (·.frame) → (hideAll s'.heap (e :: t :: (envX name scope L a cd cl :: outer).filterMap (·.frame))).get? b = some o := fun b o q nm => hideAll_get _ (F.keep b o q) fun hm => by
    rcases List.mem_cons.mp hm with rfl | hm
    · rw [Ne.2.2] at q; cases q
    rcases List.mem_cons.mp hm with rfl | hm
    · rw [Nt.2.2] at q; cases q
    rcases kts_mem (name := name) (scope := scope) (a := a) (cd := cd) hm with z | z
    · rw [z, kts_self F] at q; cases q
    · exact nm z
  have hl : ∀ q ∈ news, (hideAll s'.heap (e :: t :: (envX name scope L a cd cl :: outer).filterMap (·.frame))).get? q.1 = some q.2 ∧ g.get? q.1 = none ∧ base.get? q.1 = none := fun q hq => by
    have Nq := N q (.tail _ (.tail _ hq))
    refine ⟨hideAll_get _ Nq.1 fun hm => ?_, Nq.2.2, nb Nq.2.2⟩
    rcases List.mem_cons.mp hm with z | hm
    · exact (hne q hq).1 z
    rcases List.mem_cons.mp hm with z | hm
    · exact (hne q hq).2 z
    rcases kts_mem (name := name) (scope := scope) (a := a) (cd := cd) hm with z | z
    · exact Nq.2.1 z
    · obtain ⟨o, ho, _⟩ := (Kb.frames.mem z).2
      rw [Nq.2.2] at ho; cases ho
  have ben : (hideAll s'.heap (e :: t :: (envX name scope L a cd cl :: outer).filterMap (·.frame))).get? e = none := hideAll_none _ (.head _)
  have btn : (hideAll s'.heap (e :: t :: (envX name scope L a cd cl :: outer).filterMap (·.frame))).get? t = none := hideAll_none _ (.tail _ (.head _))
  refine wpAny_leaving_firstW (a0 := .ref t) K'.stack (funFrames_hide K'.frames fr) rfl Ne.1 (fun b o q => of_hideAll _ q) ben rfl rfl rfl fun h' hL => ?_
  obtain ⟨k1, ⟨_, _, k2⟩, k3, k4⟩ := hL
  have tt : h'.TupAt t vs := Heap.TupAt.of_slots (h := s'.heap) ⟨_, _, Nt.1, rfl, rfl⟩ k4
  have R : RaisedS base g outer e (.ref 44) t vs news h' := ⟨⟨_, st, sg, hl, ⟨k1, ben, k2, k3⟩, btn⟩, tt⟩
  exact hQ h' R R.toK ((Heap.UpToSlots.of_keeps F.keep).trans k4)
end
end Mine
set_option Elab.async false
set_option maxRecDepth 100000
set_option maxHeartbeats 2000000
set_option compiler.extract_closed false
namespace Mine
local macro_rules | `(tactic| walk_at $s:str) => `(tactic| k_extra $s)
theorem fillP7 : r = r ∧ K = K := by k_fill; exact ⟨rfl, rfl⟩
theorem flatStr {v : Value} {y : Str} (h : PyProof.V.Flat v (.str y)) : ∃ t, v = .str y t := by
  have h' := h (default : Heap)
  cases h'
  exact ⟨_, rfl⟩
noncomputable def getS : List (Str × Str) → Str → Str
  | [], _ => Str.ofString ""
  | (a, b) :: l, x => if (a == x) = true then b else getS l x
theorem getS_eq (x : Str) : ∀ ls : List (Str × Str), ((Spec.lookup (PyData.str x) (dataOf ls)).getD (PyData.str (Str.ofString ""))) = .str (getS ls x)
  | [] => rfl
  | (a, b) :: l => by
    have ih := getS_eq x l
    show ((if (a == x) = true then some (PyData.str b) else Spec.lookup (PyData.str x) (dataOf l)).getD _) = PyData.str (if (a == x) = true then b else getS l x)
    split
    · rfl
    · exact ih
section
variable {prog : Program} {w : World} {A : Around} {E : Value → Shared → Prop} {s : Shared} {h₀ : Heap} {L : Addr} {news : Led}
theorem eq_nil {D l : Addr} {ys : List Value} {n n' : Nat} {Q : Value → Shared → Prop} (N : News h₀ L s.heap ((l, W.listOf (List.toArray []) n') :: (D, W.listOf (List.toArray ys) n) :: news)) (hu : A.units < cLine)
    (h : Q (.bool ys.isEmpty) s) : wpAny (model prog w) A (compareOp .Eq (.ref D) (.ref l)) Q E s := by
  have hl : s.heap.IsList l #[] := ⟨_, (N _ (.head _)).1, rfl, n', rfl⟩
  have hD : s.heap.IsList D (List.toArray ys) := ⟨_, (N _ (.tail _ (.head _))).1, rfl, n, rfl⟩
  cases ys with
  | nil => exact SeqAt.eq_listAt (e := fun _ => true) hD hl rfl hu (fun j h1 h2 => absurd h1 (Nat.not_lt_zero _)) (by simpa using h)
  | cons y r => exact SeqAt.eq_list_lengthsAt hD hl (by simp) hu (by simpa using h)
end
theorem sumFilter (pz : Str → Bool) : ∀ l : List Str, ((l.filter pz).map (·.length)).sum ≤ (l.map (·.length)).sum
  | [] => Nat.le_refl _
  | a :: r => by
    have ih := sumFilter pz r
    rw [List.filter_cons]
    split <;> simp only [List.map_cons, List.sum_cons] <;> omega
theorem namesSum : (names.map (·.length)).sum ≤ 400 := by decide +kernel
theorem joinLe (sep : Str) : ∀ l : List Str, (Txt.join sep l).length ≤ (l.map (·.length)).sum + l.length * sep.length
  | [] => Nat.zero_le _
  | a :: r => by
    have e : (Txt.join sep (a :: r)).length = ((a :: r).map (·.length)).sum + r.length * sep.length := by
      rw [← len_join_cons, ← StrLaws.glued_eq_join]
      rfl
    rw [e, List.length_cons, Nat.add_mul]
    omega
theorem strsLen {vs : List Value} {xs : List Str} (h : StrsAre vs xs) : vs.length = xs.length := by
  induction h with
  | nil => rfl
  | cons _ _ _ ih => simp [ih]
theorem posOf {vs : List Value} {xs : List Str} (h : StrsAre vs xs) (e : vs.isEmpty = false) : (0 : Int) < (xs.length : Int) := by
  cases h with
  | nil => cases e
  | cons y t h => simp only [List.length_cons]; omega
noncomputable def oneOf : List Str → Option Str
  | [a] => some a
  | _ => none
theorem oneEmpty {ys : List Value} {l : List Str} (h : StrsAre ys l) (e : ys.isEmpty = true) : oneOf l = none := by
  cases h with
  | nil => rfl
  | cons _ _ _ => cases e
theorem oneMany {l : List Str} (e : (1 : Int) < (l.length : Int)) : oneOf l = none := by
  match l, e with
  | [], e => rfl
  | [_], e => simp at e
  | _ :: _ :: _, _ => rfl
theorem oneSome {ys : List Value} {l : List Str} (h : StrsAre ys l) (e : ys.isEmpty = false) (e' : ¬ (1 : Int) < (l.length : Int)) : oneOf l = some (l.getD (Int.toNat 0) Str.empty) := by
  cases h with
  | nil => cases e
  | cons y t h => cases h with
    | nil => rfl
    | cons _ _ _ => simp only [List.length_cons] at e'; omega
theorem raisedSub {base G h : Heap} {l : List Env} {e t : Addr} {cls : Value} {vs : List Value} {news' news : Led} (R : RaisedS base G l e cls t vs news' h) (sub : ∀ q ∈ news, q ∈ news') : RaisedS base G l e cls t vs news h := by
  obtain ⟨⟨B, a, b, c, d, f⟩, g⟩ := R
  exact ⟨⟨B, a, b, fun q hq => c q (sub q hq), d, f⟩, g⟩
noncomputable def cmdOf (x : Str) : Option Str :=
  if (names.any fun y => y == x) = true then some x else if (getS shorts x != Str.ofString "") = true then some (getS shorts x) else oneOf (names.filter (fun z => Txt.startswith z x))
theorem c_command_of (w : World) (news : Led) (x : Str) (t : Tok) (hx : x.length ≤ 1000) : Ctr w 87 [.str x t] news 3 20 (fun r n => (∃ y t', r = .str y t' ∧ cmdOf x = some y) ∧ n = news) (cmdOf x = none) := by
  intro loose mean mg mb dp un gd cn cs a ccd cl outer A₀ base h₀ L m s Q E B F X N T hk hd hu hret herr
  k_with_none
  refine wpAny_call ?_
  k_dflt (refine' code_defC ?k1 ?k2 ?k3 ?k4 ?k5 ?kA ?kF ?kK ?k6 ?k7 ?k8 ?k9 ?kB ?kD ?_ ?c2 ?c3 ?c4; (case kA => exact rfl); (case kF => exact rfl); (case kK => assumption); (case k1 => k_asm); (case k2 => k_asm); (case k3 => k_asm); (case k4 => k_asm); (case k5 => k_asm); (case k6 => k_is); (case k7 => k_is); (case k8 => ktr_room); (case k9 => exact BindsTo.of_eq rfl); (case kB => exact rfl); (case kD => decide +kernel); (case c2 => exact rfl); (case c3 => exact rfl); (case c4 => exact rfl); k_whole)
  intro g1 L1 h1 tk1 cells1 FG F1 N1 Y1 B1 X1 T1 l1
  (try k_lt l1); k_cells Y1; (try simp only [List.cons_append, List.nil_append] at N1)
  clear F N
  dsimp only
  k_unmd
  k_fold
  k_with "exec Raise some none" => (k_here; k_dflt (refine' raise_fault ?hh ?_; (case hh => first | exact rfl | assumption)))
  k_with "call ref" => (k_here; k_dflt (refine' new_fault ?B ?F ?X ?N ?T ?hk ?hd ?hu ?_; (case B => k_asm); (case F => k_asm); (case X => k_asm); (case N => k_asm); (case T => k_asm); (case hk => first | exact rfl | assumption); (case hd => ktr_room); (case hu => ktr_units); k_whole); intro e9 d9 t9 h9 tk9 F9 N9 ne9 nn9)
  k_with "RaisedNow" => (refine ⟨_, _, _, rfl, (Frag.In.keeps (by k_asm) (Fr.keep (by k_asm))) 44 _ (cls44 _), (News.get (by k_asm) (List.Mem.head _)), ?_⟩)
  k_with "leaving ref" => (k_here; k_dflt (refine' leave_fault ?K ?F ?N ?ne ?nn ?_ ?hk; (case K => assumption); (case F => k_asm); (case N => k_asm); (case ne => assumption); (case nn => assumption); (case hk => exact rfl)); intro h9 R9 RK9 U9)
  k_with "leaving ref" => (k_here; k_dflt (refine' leave_faultC ?K ?F ?N ?ne ?nn ?_ ?hk; (case K => assumption); (case F => k_asm); (case N => k_asm); (case ne => assumption); (case nn => assumption); (case hk => exact rfl)); intro h9 R9 RK9 U9)
  k_with "exec Assign cons ListComp" => (refine Stop.out ?_)
  k_with "compareOp Eq ref ref" => (k_here; k_dflt (refine' eq_nil ?N ?u ?_; (case N => k_asm); (case u => ktr_units)))
  k_with "call builtin:len" => (k_here; k_dflt (refine' len_strsA (News.isList ?N ?m) hA ?f ?_; (case N => k_asm); (case m => k_mem); (case f => omega)))
  k_with "subscriptTail" => (k_here; k_dflt (refine' KTb.item_list (News.isList ?N ?m) hA (by decide) ?f (by decide) ?_ ?_; (case N => k_asm); (case m => k_mem); (case f => exact posOf hA (by assumption)); (rotate_left; with_unfolding_all exact rfl)); intro t9 hlt9)
  k_with "call builtin:str.join" => (k_here; k_dflt (refine' join_listW (News.isList ?N ?m) hA ?f ?g ?_; (case N => k_asm); (case m => k_mem); (case f => decide); (case g => omega)); intro t9 k9)
  k_with "call ref" => (k_here; k_dflt (refine' Ctr.useK (ck_commands _ _) ?B ?F ?X ?N ?T ?hk ?hd ?hu ?_ (fun f => f.elim); (case B => k_asm); (case F => k_asm); (case X => k_asm); (case N => k_asm); (case T => k_asm); (case hk => first | exact rfl | assumption); (case hd => ktr_room); (case hu => ktr_units)); intro ad vs hvs h9 tk9 F9 N9; try dsimp only)
  k_with "call ref" => (k_here; k_dflt (refine' Ctr.useK (ck_short_forms _ _) ?B ?F ?X ?N ?T ?hk ?hd ?hu ?_ (fun f => f.elim); (case B => k_asm); (case F => k_asm); (case X => k_asm); (case N => k_asm); (case T => k_asm); (case hk => first | exact rfl | assumption); (case hd => ktr_room); (case hu => ktr_units)); intro dd oo kvs hlt2 hs2 hd2 hf2 h9 tk9 F9 N9; try dsimp only)
  k_steps
  · (rename List.any _ _ = true => hb)
    refine hret _ _ _ _ ⟨⟨_, _, rfl, by unfold cmdOf; rw [if_pos hb]⟩, rfl⟩ (by assumption) (fun q hq => ?_)
    (rename News h₀ _ _ _ => NN)
    exact NN q (.tail _ (.tail _ hq))
  · (rename List.any _ _ = false => hb)
    (rename PyProof.V.Flat _ _ => hv)
    rw [getS_eq] at hv
    obtain ⟨t9, rfl⟩ := flatStr hv
    k_steps
    · (rename (_ != _) = true => hg)
      refine hret _ _ _ _ ⟨⟨_, _, rfl, by unfold cmdOf; rw [if_neg (by rw [hb]; exact Bool.false_ne_true), if_pos hg]⟩, rfl⟩ (by assumption) (fun q hq => ?_)
      (rename News h₀ _ _ _ => NN)
      exact NN q (.tail _ (.tail _ (.tail _ hq)))
    · (rename (_ != _) = false => hg)
      refine Stop.in ?_
      refine' assignTup (fun z => Txt.startswith z x) ?h1 ?h2 ?h3 ?h4 ?h5 ?h6 ?h7 ?h8 ?h9 ?F ?N ?hL ?hm ?hv ?hlen ?hh ?hd ?ht ?k ?hs
      case F => k_asm
      case N => k_asm
      case hh => exact rfl
      case hL => exact rfl
      case h1 => exact rfl
      case h2 => exact rfl
      case h3 => decide
      case h4 => exact rfl
      case h5 => decide
      case h6 => exact rfl
      case h7 => exact rfl
      case h8 => exact rfl
      case hd => decide
      case hs => intro _; exact rfl
      case hm => exact .tail _ (.head _)
      case hv => exact hvs
      case hlen => (rw [strsLen hvs, namesLen, sizeLine_eq]; decide)
      case h9 => (k_steps; try exact ⟨rfl, rfl⟩)
      case ht =>
        (rename Fr g1 _ _ _ => Fo); (rename News g1 _ _ _ => No); clear Fo No
        intro C z u s3 m3 E3 F3 N3 I3 hm3
        k_steps
        exact ⟨_, _, rfl, fun _ _ e => e⟩
      case k =>
        (rename Fr g1 _ _ _ => Fo); (rename News g1 _ _ _ => No); clear Fo No
        intro D ys h2 tk2 n F2 N2 hne hA
        have hfil : (names.filter (fun z => Txt.startswith z x)).length ≤ 40 := by
          have := List.length_filter_le (fun z => Txt.startswith z x) names
          rw [namesLen] at this
          exact this
        have hsum := sumFilter (fun z => Txt.startswith z x) names
        have hsum2 := namesSum
        have hjoin := joinLe (Str.ofString ", ") (names.filter (fun z => Txt.startswith z x))
        have hsep : (Str.ofString ", ").length = 2 := by decide
        rw [hsep] at hjoin
        have hcmd : ∀ r, oneOf (names.filter (fun z => Txt.startswith z x)) = r → cmdOf x = r := by
          intro r e
          unfold cmdOf
          rw [if_neg (by rw [hb]; exact Bool.false_ne_true), if_neg (by rw [hg]; exact Bool.false_ne_true)]
          exact e
        k_steps
        · (rename List.isEmpty _ = true => he)
          have R := raisedSub (news := news) R9 (fun q hq => .tail _ (.tail _ (.tail _ (.tail _ (.tail _ hq)))))
          exact herr (hcmd _ (oneEmpty hA he)) _ _ _ g1 _ _ FG R R.toK U9
        · (rename (1 : Int) < _ => he)
          have R := raisedSub (news := news) R9 (fun q hq => .tail _ (.tail _ (.tail _ (.tail _ (.tail _ hq)))))
          exact herr (hcmd _ (oneMany he)) _ _ _ g1 _ _ FG R R.toK U9
        · (rename List.isEmpty _ = false => he); (rename ¬ ((1 : Int) < _) => he')
          refine hret _ _ _ _ ⟨⟨_, _, rfl, hcmd _ (oneSome hA he he')⟩, rfl⟩ (by assumption) (fun q hq => ?_)
          (rename News h₀ _ _ _ => NN)
          exact NN q (.tail _ (.tail _ (.tail _ (.tail _ (.tail _ hq)))))

theorem ck_command_of (w : World) (news : Led) (x : Str) (t : Tok) (hx : x.length ≤ 1000) : Ctr w 87 [.str x t] news 3 20 (KOk fun Z9 => ∀ y t', cmdOf x = some y → Z9 (.str y t') news) (cmdOf x = none) :=
  (c_command_of w news x t hx).mono fun _ _ h Z9 hk => by
    obtain ⟨⟨y, t', rfl, h1⟩, rfl⟩ := h
    exact hk y t' h1

end Mine
set_option Elab.async false
set_option maxRecDepth 100000
set_option maxHeartbeats 2000000
set_option compiler.extract_closed false
namespace Mine
local macro_rules | `(tactic| walk_at $s:str) => `(tactic| k_extra $s)
theorem fillP8 : r = r ∧ K = K := by k_fill; exact ⟨rfl, rfl⟩
/-- where the word at a line's beginning ends; where the first blank stands -/
noncomputable def WordEnd (y : Str) (i : Nat) : Prop := i ≤ y.length ∧ (∀ j, j < i → wordSign y j = true) ∧ (i < y.length → wordSign y i = false)
noncomputable def FirstEnd (y : Str) (i : Nat) : Prop := i ≤ y.length ∧ (∀ j, j < i → blankAt y j = false) ∧ (i < y.length → blankAt y i = true)
noncomputable def restAt (x : Str) (i : Nat) : Str := Txt.strip (Txt.slice (Txt.strip x) (some (i : Int)) none)
noncomputable def tailAt (x : Str) (i : Nat) : Str := Txt.strip (Txt.slice (restAt x i) (some 1) none)
noncomputable def PartedIs (x c b r : Str) : Prop := ∃ i, WordEnd (Txt.strip x) i ∧ cmdOf (Txt.slice (Txt.strip x) none (some (i : Int))) = some c ∧
  (((Txt.slice (restAt x i) none (some 1) == Str.ofString "/") = false ∧ b = Str.ofString "" ∧ r = restAt x i) ∨
   ((Txt.slice (restAt x i) none (some 1) == Str.ofString "/") = true ∧ ∃ k, FirstEnd (tailAt x i) k ∧ b = Txt.slice (tailAt x i) none (some (k : Int)) ∧ r = Txt.strip (Txt.slice (tailAt x i) (some (k : Int)) none)))
noncomputable def PartedNot (x : Str) : Prop := ∃ i, WordEnd (Txt.strip x) i ∧ (i = 0 ∨ cmdOf (Txt.slice (Txt.strip x) none (some (i : Int))) = none)
theorem newsDrop2 {h₀ h : Heap} {L : Addr} {q q' : Addr × Obj} {n : Led} (N : News h₀ L h (q :: q' :: n)) : News h₀ L h (q :: n) := fun x hx => by
  rcases List.mem_cons.mp hx with rfl | hx
  · exact N _ (.head _)
  · exact N _ (.tail _ (.tail _ hx))
section
set_option maxHeartbeats 8000000
theorem c_parted (w : World) (news : Led) (x : Str) (t : Tok) (hx : x.length ≤ 1000) : Ctr w 108 [.str x t] news 5 40
    (fun r n => ∃ (ad : Addr) (c b e : Str) (t1 t2 t3 : Tok), PartedIs x c b e ∧ r = .ref ad ∧ n = (ad, tupO [.str c t1, .str b t2, .str e t3]) :: news) (PartedNot x) := by
  intro loose mean mg mb dp un gd cn cs a ccd cl outer A₀ base h₀ L m s Q E B F X N T hk hd hu hret herr
  k_with_none
  refine wpAny_call ?_
  k_dflt (refine' code_def ?k1 ?k2 ?k3 ?k4 ?k5 ?kA ?kF ?kK ?k6 ?k7 ?k8 ?k9 ?kB ?_ ?c2 ?c3 ?c4 ?c5; (case kA => exact rfl); (case kF => exact rfl); (case kK => assumption); (case k1 => k_asm); (case k2 => k_asm); (case k3 => k_asm); (case k4 => k_asm); (case k5 => k_asm); (case k6 => k_is); (case k7 => k_is); (case k8 => ktr_room); (case k9 => exact BindsTo.of_eq rfl); (case c5 => decide); (case kB => exact locs rfl); (case c2 => exact rfl); (case c3 => exact rfl); (case c4 => exact rfl); k_whole)
  intro g1 L1 h1 FG F1 N1 B1 X1 T1
  replace F1 : Fr g1 L1 h1 (fun y9 => List.lookup y9 [(("line" : Str), .str x t)]) := F1
  clear F N
  dsimp only
  k_unmd
  k_fold
  k_with "exec Raise some none" => (k_here; k_dflt (refine' raise_fault ?hh ?_; (case hh => first | exact rfl | assumption)))
  k_with "call ref" => (k_here; k_dflt (refine' new_fault ?B ?F ?X ?N ?T ?hk ?hd ?hu ?_; (case B => k_asm); (case F => k_asm); (case X => k_asm); (case N => k_asm); (case T => k_asm); (case hk => first | exact rfl | assumption); (case hd => ktr_room); (case hu => ktr_units); k_whole); intro e9 d9 t9 h9 tk9 F9 N9 ne9 nn9)
  k_with "RaisedNow" => (refine ⟨_, _, _, rfl, (Frag.In.keeps (by k_asm) (Fr.keep (by k_asm))) 44 _ (cls44 _), (News.get (by k_asm) (List.Mem.head _)), ?_⟩)
  k_with "leaving ref" => (k_here; k_dflt (refine' leave_fault ?K ?F ?N ?ne ?nn ?_ ?hk; (case K => assumption); (case F => k_asm); (case N => k_asm); (case ne => assumption); (case nn => assumption); (case hk => exact rfl)); intro h9 R9 RK9 U9)
  k_with "call ref" => (k_here; k_dflt (refine' Ctr.useK (ck_word_end _ _ _ _ (by have := len_strip x; omega)) ?B ?F ?X ?N ?T ?hk ?hd ?hu ?_ (fun f => f.elim); (case B => k_asm); (case F => k_asm); (case X => k_asm); (case N => k_asm); (case T => k_asm); (case hk => first | exact rfl | assumption); (case hd => ktr_room); (case hu => ktr_units)); intro i8 t8 hi8 hj8 hk8 h9 tk9 F9 N9; try dsimp only)
  k_with "call ref" => (k_here; k_dflt (refine' Ctr.useK (ck_first_word _ _ _ _ (by have := len_strip x; have := fromLen (Txt.strip x) i8; have := len_strip (Txt.slice (Txt.strip x) (some (i8 : Int)) none); first|omega|(have := fact_slice_sn (Txt.strip (Txt.slice (Txt.strip x) (some (i8 : Int)) none)) 1; omega))) ?B ?F ?X ?N ?T ?hk ?hd ?hu ?_ (fun f => f.elim); (case B => k_asm); (case F => k_asm); (case X => k_asm); (case N => k_asm); (case T => k_asm); (case hk => first | exact rfl | assumption); (case hd => ktr_room); (case hu => ktr_units)); intro i9 t1 t2 ad hi9 hj9 hk9 hl9 h9 tk9 F9 N9; try dsimp only)
  k_with "call ref" => (k_here; k_dflt (refine' Ctr.useK (ck_command_of _ _ _ _ (by have := cutLen (Txt.strip x) i8; have := len_strip x; omega)) ?B ?F ?X ?N ?T ?hk ?hd ?hu ?_ ?_; (case B => k_asm); (case F => k_asm); (case X => k_asm); (case N => k_asm); (case T => k_asm); (case hk => first | exact rfl | assumption); (case hd => ktr_room); (case hu => ktr_units)); rotate_left; (intro _ e9 t9 vs9 g9 h9 tk9 FG9 R9 RK9 U9; refine Passed.out ?_); rotate_right; (intro y7 t7 hy7 h9 tk9 F9 N9; try dsimp only))
  k_steps
  · (rename ((_ : Nat) : Int) = 0 => h0)
    exact herr ⟨i8, ⟨hi8, hj8, hk8⟩, .inl (by omega)⟩ _ _ _ g1 _ _ FG (raisedDrop R9) (raisedKDrop RK9) U9
  · (rename (_ == _) = true => hb)
    refine hret _ _ _ _ ⟨_, _, _, _, _, _, _, ⟨i8, ⟨hi8, hj8, hk8⟩, hy7, .inr ⟨hb, i9, ⟨hi9, hj9, hk9⟩, rfl, rfl⟩⟩, rfl, rfl⟩ (by assumption) (newsDrop2 (by assumption))
  · (rename cmdOf _ = none => hc)
    refine Passed.in ?_
    refine frLeaveOn B1 FG9 R9 U9 fun h2 R2 RK2 U2 => ?_
    exact herr ⟨i8, ⟨hi8, hj8, hk8⟩, .inr hc⟩ _ _ _ g1 _ _ FG (raisedDrop R2) (raisedKDrop RK2) U2
  · (rename (_ == _) = false => hb)
    refine hret _ _ _ _ ⟨_, _, _, _, _, _, _, ⟨i8, ⟨hi8, hj8, hk8⟩, hy7, .inl ⟨hb, rfl, rfl⟩⟩, rfl, rfl⟩ (by assumption) (by assumption)
  · (rename cmdOf _ = none => hc)
    refine Passed.in ?_
    refine frLeaveOn B1 FG9 R9 U9 fun h2 R2 RK2 U2 => ?_
    exact herr ⟨i8, ⟨hi8, hj8, hk8⟩, .inr hc⟩ _ _ _ g1 _ _ FG R2 RK2 U2
end

end Mine
set_option Elab.async false
set_option maxRecDepth 100000
set_option maxHeartbeats 2000000
set_option compiler.extract_closed false
namespace Mine
section
variable {prog : Program} {w : World} {A : Around} {E : Value → Shared → Prop} {s : Shared} {env : Env} {h₀ : Heap} {x : Str} {body : List Stmt} {Q : Flow → Shared → Prop}
/-- a loop over the signs of a text, by an invariant -/
theorem iter_signs {xt : Str} {tx : Tok} {m₀ : Str → Option Value} {news : Led} (J : Nat → (Str → Option Value) → Led → Prop)
    (hh : A.handled = none) (F : Fr h₀ env.locals s.heap m₀) (N : News h₀ env.locals s.heap news) (hj : J 0 m₀ news)
    (turn : ∀ i c u m₁ news₁ h tk own, xt.cps[i]? = some c → news₁.map (·.1) = news.map (·.1) → OwnOff own (news.map (·.1)) → J i m₁ news₁ → Fr h₀ env.locals h (fun y => if y = x then some (.str ⟨#[c]⟩ u) else m₁ y) → News h₀ env.locals h (news₁ ++ own) →
      wpAny (model prog w) A (execs body env) (InvPostN h₀ env.locals (J (i + 1)) own (news.map (·.1)) { s with heap := h, toks := tk } Q) E { s with heap := h, toks := tk })
    (done : ∀ m₁ news₁ h tk, J xt.cps.size m₁ news₁ → Fr h₀ env.locals h m₁ → News h₀ env.locals h news₁ → Q .next { s with heap := h, toks := tk }) :
    wpAny (model prog w) A (pyIter (.str xt tx)) (fun it s₂ => LoopAtV prog w A h₀ env x body Q E it s₂) E s := by
  refine wpAny_pyIter_str fun o St hW hst => ?_
  refine loop_invN J (hW A hh) ?_ ?_ ?_ ?_ hst (F.push _) (fun p hp => ⟨Heap.get?_push_of_some _ (N p hp).1, (N p hp).2⟩) hj ?_ done
  · intro hm
    exact absurd F.ns.lt ((List.mem_singleton.mp hm) ▸ Nat.lt_irrefl _)
  · intro b' hb
    rw [List.mem_singleton.mp hb]
    exact next_is_new F
  · intro p hp hI
    exact absurd (Heap.lt_size (N p hp).1) ((List.mem_singleton.mp hI) ▸ Nat.lt_irrefl _)
  · intro p hp hI
    exact absurd (Heap.lt_size (N p hp).1) ((List.mem_singleton.mp hI) ▸ Nat.lt_irrefl _)
  · rintro i v m₁ nx h tk own hi ⟨c, u, hc, rfl⟩ ha hoff hj' F₁ N₁
    exact turn i c u m₁ nx h tk own hc ha hoff hj' F₁ N₁
end
end Mine
set_option Elab.async false
set_option maxRecDepth 100000
set_option maxHeartbeats 2000000
set_option compiler.extract_closed false
namespace Mine
/-- a text's codes -/
noncomputable abbrev cds (x : Str) : List Nat := x.cps.toList
theorem cds_len (x : Str) : (cds x).length = x.length := by simp [cds, Str.length]
theorem str_of_cds {x y : Str} (h : cds x = cds y) : x = y := Str.ext' (Array.toList_inj.mp h)
theorem cds_mk (l : List Nat) : cds ⟨l.toArray⟩ = l := rfl
theorem cds_append (x y : Str) : cds (x ++ y) = cds x ++ cds y := by
  show (x ++ y).cps.toList = _
  rw [Str.cps_append, Array.toList_append]
theorem cds_to {x : Str} {i : Nat} (h : i ≤ x.length) : cds (Txt.slice x none (some (i : Int))) = (cds x).take i := by
  rw [eq_of_beq (slice_closes_toL (x := x) (j := (i : Int)) (by omega) (by omega))]
  show ((x.cps.toList.drop (0 : Int).toNat).take ((i : Int) - 0).toNat) = _
  simp [cds]
theorem cds_from {x : Str} {i : Nat} (h : i ≤ x.length) : cds (Txt.slice x (some (i : Int)) none) = (cds x).drop i := by
  rw [eq_of_beq (slice_closes_fromL (x := x) (i := (i : Int)) (by omega) (by omega) rfl)]
  show (x.cps.toList.drop (i : Int).toNat).take ((x.length : Int) - i).toNat = _
  have e : ((x.length : Int) - i).toNat = ((cds x).drop i).length := by rw [List.length_drop, cds_len]; omega
  rw [e, Int.toNat_natCast]
  exact List.take_length ..
theorem cds_item {x : Str} {j c : Nat} (h : (cds x)[j]? = some c) : Txt.item x (j : Int) = ⟨#[c]⟩ := by
  have hj : j < x.length := by
    rw [← cds_len]
    exact (List.getElem?_eq_some_iff.mp h).1
  have e : Txt.charAt x (j : Int) = some c := by
    have h' : x.cps[j]? = some c := by simpa [cds] using h
    unfold Txt.charAt PySem.seqIndex?
    have h0 : (decide ((0 : Int) ≤ (j : Int)) && decide ((j : Int) < (x.length : Int))) = true := by
      rw [Bool.and_eq_true]; exact ⟨decide_eq_true (by omega), decide_eq_true (by omega)⟩
    simp only [if_neg (show ¬ ((j : Int) < 0) by omega), h0, if_true, Int.toNat_natCast]
    exact h'
  unfold Txt.item
  rw [e]; rfl
theorem one_eq {c d : Nat} : ((⟨#[c]⟩ : Str) = ⟨#[d]⟩) ↔ c = d := by
  constructor
  · intro h
    injection h with h
    simpa using h
  · rintro rfl; rfl
end Mine
set_option Elab.async false
set_option maxRecDepth 100000
set_option maxHeartbeats 2000000
set_option compiler.extract_closed false
namespace Mine
noncomputable def Cut (P : Prop) : Prop := P
noncomputable def figure (c : Nat) : Bool := 48 ≤ c && c ≤ 57
/-- a figure at a place: what «in DIGITS» asks -/
noncomputable def digitAt (y : Str) (i : Nat) : Bool := !(Builtin.Str.occurrences (Str.ofString "0123456789") (Txt.item y i) 0 (Str.ofString "0123456789").length 1).isEmpty
noncomputable def DigEnd (y : Str) (i : Nat) : Prop := i ≤ y.length ∧ (∀ j, j < i → digitAt y j = true) ∧ (i < y.length → digitAt y i = false)
noncomputable def countOf (x : Str) (i : Nat) : Int := if 0 < i ∧ i ≤ 6 then (NumText.digitsVal (cds (Txt.slice x none (some (i : Int)))) : Nat) else 1
theorem digitAt_eq {y : Str} {j c : Nat} (h : (cds y)[j]? = some c) : digitAt y j = figure c := by
  unfold digitAt
  rw [cds_item h]
  have := notDigit_one c
  unfold notDigit at this
  rw [this, Bool.not_not]
  rfl
theorem digitAt_get {y : Str} {j : Nat} (h : j < y.length) : digitAt y j = figure ((cds y)[j]'(by rw [cds_len]; exact h)) :=
  digitAt_eq (List.getElem?_eq_getElem _)
theorem digitsTo {x : Str} {i : Nat} (hi : i ≤ x.length) (h : ∀ j, j < i → digitAt x j = true) : ∀ c ∈ (cds x).take i, figure c = true := by
  intro c hc
  obtain ⟨j, hj, e⟩ := List.mem_iff_getElem.mp hc
  rw [List.getElem_take] at e
  have hj' : j < i := by rw [List.length_take] at hj; omega
  rw [← e, ← digitAt_get (by omega)]
  exact h j hj'
theorem intDig {x : Str} {i : Nat} (hi : i ≤ x.length) (h : ∀ j, j < i → digitAt x j = true) (h0 : 0 < i) (h6 : i ≤ 6) : PySem.intText? (Txt.slice x none (some (i : Int))) = some (countOf x i) := by
  unfold countOf
  rw [if_pos ⟨h0, h6⟩]
  have e : (Txt.slice x none (some (i : Int))).cps.toList = (cds x).take i := cds_to hi
  have hl : ((cds x).take i).length = i := by rw [List.length_take, cds_len]; omega
  refine intText_digits (fun c hc => ?_) (fun e0 => ?_) ?_
  · rw [e] at hc
    have := digitsTo hi h c hc
    simp only [figure, Bool.and_eq_true, decide_eq_true_eq] at this
    exact this
  · rw [e] at e0; rw [e0] at hl; simp at hl; omega
  · have : (Txt.slice x none (some (i : Int))).length = i := by rw [← cds_len]; show (Txt.slice x none (some (i : Int))).cps.toList.length = i; rw [e, hl]
    omega
noncomputable def inLetters (c : Nat) : Bool := !(Builtin.Str.occurrences (Str.ofString "xduotacsi") ⟨#[c]⟩ 0 (Str.ofString "xduotacsi").length 1).isEmpty
noncomputable def sizeOfSign (c : Nat) : Option Int := if c = 98 then some 1 else if c = 104 then some 2 else if c = 119 then some 4 else none
/-- what a form's signs say: the last letter, the last size -/
noncomputable def formAcc : List Nat → Str × Int → Option (Str × Int)
  | [], st => some st
  | c :: r, st => if inLetters c = true then formAcc r (⟨#[c]⟩, st.2) else match sizeOfSign c with | some n => formAcc r (st.1, n) | none => none
theorem formAcc_snoc (c : Nat) : ∀ (l : List Nat) (st st' : Str × Int), formAcc l st = some st' → formAcc (l ++ [c]) st = formAcc [c] st'
  | [], st, st', h => by cases h; rfl
  | a :: r, st, st', h => by
    rw [List.cons_append]
    unfold formAcc at h ⊢
    by_cases hl : inLetters a = true
    · rw [if_pos hl] at h ⊢; exact formAcc_snoc c r _ _ h
    · rw [if_neg hl] at h ⊢
      cases hs : sizeOfSign a with
      | none => rw [hs] at h; cases h
      | some n => rw [hs] at h; exact formAcc_snoc c r _ _ h
theorem formAcc_none (l' : List Nat) : ∀ (l : List Nat) (st : Str × Int), formAcc l st = none → formAcc (l ++ l') st = none
  | [], st, h => by cases h
  | a :: r, st, h => by
    rw [List.cons_append]
    unfold formAcc at h ⊢
    by_cases hl : inLetters a = true
    · rw [if_pos hl] at h ⊢; exact formAcc_none l' r _ h
    · rw [if_neg hl] at h ⊢
      cases hs : sizeOfSign a with
      | none => rfl
      | some n => rw [hs] at h; exact formAcc_none l' r _ h
theorem acc_take {l : List Nat} {j c : Nat} {st st' : Str × Int} (hc : l[j]? = some c) (h : formAcc (l.take j) st = some st') : formAcc (l.take (j + 1)) st = formAcc [c] st' := by
  rw [List.take_add_one, hc]
  exact formAcc_snoc c _ _ _ h
theorem acc_bad {l : List Nat} {j c : Nat} {st st' : Str × Int} (hc : l[j]? = some c) (h : formAcc (l.take j) st = some st') (hb : formAcc [c] st' = none) : formAcc l st = none := by
  rw [← List.take_append_drop (j + 1) l]
  exact formAcc_none _ _ _ ((acc_take hc h).trans hb)
noncomputable abbrev sizesD : List (Str × KTD.Dat) := [(Str.ofString "b", .flat (.int 1)), (Str.ofString "h", .flat (.int 2)), (Str.ofString "w", .flat (.int 4))]
theorem sizesIn {w : World} {h : Heap} (X : (K w.params).In h) : KTD.TextTab h 47 sizesD := kt_text_in X rfl
theorem size_keys (c : Nat) : KTD.inKeys (⟨#[c]⟩ : Str) sizesD = (sizeOfSign c).isSome := by
  show (decide ((⟨#[c]⟩ : Str) = ⟨#[98]⟩) || (decide ((⟨#[c]⟩ : Str) = ⟨#[104]⟩) || (decide ((⟨#[c]⟩ : Str) = ⟨#[119]⟩) || false))) = _
  simp only [one_eq]
  unfold sizeOfSign
  by_cases h1 : c = 98
  · simp [h1]
  · by_cases h2 : c = 104
    · simp [h2]
    · by_cases h3 : c = 119 <;> simp [h1, h2, h3]
section
variable {prog : Program} {w : World} {A : Around} {E : Value → Shared → Prop} {s : Shared} {h₀ : Heap} {L : Addr} {m : Str → Option Value} {c : Nat} {u : Tok}
theorem inSizes {Q : Value → Shared → Prop} (X : (K w.params).In h₀) (F : Fr h₀ L s.heap m) (h : Q (.bool (sizeOfSign c).isSome) { s with toks := s.toks + 1 }) :
    wpAny (model prog w) A (compareOp .In (.str ⟨#[c]⟩ u) (.ref 47)) Q E s := KTD.in_text ⟨sizesIn X, F.keep⟩ (by rw [size_keys]; exact h)
theorem itemSizes {value slice : Expr} {n : Int} {Q : Value → Shared → Prop} (X : (K w.params).In h₀) (F : Fr h₀ L s.heap m) (hn : sizeOfSign c = some n) (h : ∀ t, Q (.int n t) { s with toks := s.toks + 1 })
    (hs : subscripted slice false (.ref 47) (.str ⟨#[c]⟩ u) = operate [.ref 47, .str ⟨#[c]⟩ u] (getItem (.ref 47) (.str ⟨#[c]⟩ u)) := by with_unfolding_all rfl) (hg : ∀ r, letTemporaryGo value (.ref 47) r = pure () := by intro _; with_unfolding_all rfl) :
    wpAny (model prog w) A (subscriptTail value slice (.ref 47) (.str ⟨#[c]⟩ u)) Q E s := by
  refine KTD.item_text ⟨sizesIn X, F.keep⟩ (by rw [size_keys, hn]; rfl) ?_ hs hg
  unfold sizeOfSign at hn
  by_cases h1 : c = 98
  · subst h1; cases hn
    exact KTD.eachL_hit rfl (KTD.opened_int h)
  · rw [if_neg h1] at hn
    refine KTD.eachL_miss (fun e => h1 (one_eq.mp (show (⟨#[c]⟩ : Str) = ⟨#[98]⟩ from e))) ?_
    by_cases h2 : c = 104
    · subst h2; cases hn
      exact KTD.eachL_hit rfl (KTD.opened_int h)
    · rw [if_neg h2] at hn
      refine KTD.eachL_miss (fun e => h2 (one_eq.mp (show (⟨#[c]⟩ : Str) = ⟨#[104]⟩ from e))) ?_
      by_cases h3 : c = 119
      · subst h3; cases hn
        exact KTD.eachL_hit rfl (KTD.opened_int h)
      · rw [if_neg h3] at hn; cases hn
end
end Mine
set_option Elab.async false
set_option maxRecDepth 100000
set_option maxHeartbeats 2000000
set_option compiler.extract_closed false
namespace Mine
local macro_rules | `(tactic| walk_at $s:str) => `(tactic| k_extra $s)
theorem fillP9 : r = r ∧ K = K := by k_fill; exact ⟨rfl, rfl⟩
noncomputable def FormIs (x y : Str) (z cnt : Int) (lt : Str) (sz : Int) : Prop := ∃ i, DigEnd x i ∧ i ≤ 6 ∧ cnt = countOf x i ∧ formAcc (cds (Txt.slice x (some (i : Int)) none)) (y, z) = some (lt, sz)
noncomputable def FormNot (x y : Str) (z : Int) : Prop := ∃ i, DigEnd x i ∧ (6 < i ∨ formAcc (cds (Txt.slice x (some (i : Int)) none)) (y, z) = none)
noncomputable abbrev formDict (w : World) (cnt : Int) (lt : Str) (sz : Int) (k1 k2 k3 v1 v2 v3 : Tok) : Obj :=
  dictOf [⟨PyData.keyHash w.params (Str.ofString "count"), .str (Str.ofString "count") k1, .int cnt v1⟩, ⟨PyData.keyHash w.params (Str.ofString "letter"), .str (Str.ofString "letter") k2, .str lt v2⟩, ⟨PyData.keyHash w.params (Str.ofString "size"), .str (Str.ofString "size") k3, .int sz v3⟩] 3
inductive EndQ (g1 : Heap) (L1 : Addr) (news : Led) (s : Shared) (x y : Str) (z : Int) (t ty tz : Tok) (f : Flow) (s' : Shared) : Prop
  | mk (h' : Heap) (tk i : Nat) (t1 : Tok) (hf : f = .next) (hs : s' = { s with heap := h', toks := tk }) (hi : DigEnd x i) (F : Fr g1 L1 h' (fun q => if q = ("end" : Str) then some (Value.int (i : Nat) t1) else List.lookup q [(("size" : Str), Value.int z tz), (("letter" : Str), Value.str y ty), (("text" : Str), Value.str x t)])) (N : News g1 L1 h' news) : EndQ g1 L1 news s x y z t ty tz f s'
theorem EndQ.elim {g1 : Heap} {L1 : Addr} {news : Led} {s : Shared} {x y : Str} {z : Int} {t ty tz : Tok} {k : Flow → Shared → Prop}
    (h : ∀ (h' : Heap) (tk i : Nat) (t1 : Tok), DigEnd x i → Fr g1 L1 h' (fun q => if q = ("end" : Str) then some (Value.int (i : Nat) t1) else List.lookup q [(("size" : Str), Value.int z tz), (("letter" : Str), Value.str y ty), (("text" : Str), Value.str x t)]) → News g1 L1 h' news → k .next { s with heap := h', toks := tk })
    (f : Flow) (s' : Shared) (q9 : EndQ g1 L1 news s x y z t ty tz f s') : k f s' := by
  obtain ⟨h2, tk2, i, t1, rfl, rfl, hi, F2, N2⟩ := q9
  exact h _ _ _ _ hi F2 N2
inductive CountQ (g1 : Heap) (L1 : Addr) (news : Led) (s : Shared) (x y : Str) (z : Int) (t ty tz : Tok) (i : Nat) (t1 : Tok) (f : Flow) (s' : Shared) : Prop
  | mk (h' : Heap) (tk : Nat) (t2 : Tok) (hf : f = .next) (hs : s' = { s with heap := h', toks := tk }) (F : Fr g1 L1 h' (fun q => if q = ("count" : Str) then some (Value.int (countOf x i) t2) else if q = ("end" : Str) then some (Value.int (i : Nat) t1) else List.lookup q [(("size" : Str), Value.int z tz), (("letter" : Str), Value.str y ty), (("text" : Str), Value.str x t)])) (N : News g1 L1 h' news) : CountQ g1 L1 news s x y z t ty tz i t1 f s'
theorem CountQ.elim {g1 : Heap} {L1 : Addr} {news : Led} {s : Shared} {x y : Str} {z : Int} {t ty tz : Tok} {i : Nat} {t1 : Tok} {k : Flow → Shared → Prop}
    (h : ∀ (h' : Heap) (tk : Nat) (t2 : Tok), Fr g1 L1 h' (fun q => if q = ("count" : Str) then some (Value.int (countOf x i) t2) else if q = ("end" : Str) then some (Value.int (i : Nat) t1) else List.lookup q [(("size" : Str), Value.int z tz), (("letter" : Str), Value.str y ty), (("text" : Str), Value.str x t)]) → News g1 L1 h' news → k .next { s with heap := h', toks := tk })
    (f : Flow) (s' : Shared) (q9 : CountQ g1 L1 news s x y z t ty tz i t1 f s') : k f s' := by
  obtain ⟨h2, tk2, t2, rfl, rfl, F2, N2⟩ := q9
  exact h _ _ _ F2 N2
inductive SignsJ (news : Led) (x y : Str) (z : Int) (i : Nat) (t2 : Tok) (n : Nat) (m₁ : Str → Option Value) (nx : Led) : Prop
  | mk (lt : Str) (sz : Int) (tl ts : Tok) (hnx : nx = news) (hcnt : m₁ ("count" : Str) = some (.int (countOf x i) t2)) (hacc : formAcc ((cds (Txt.slice x (some (i : Int)) none)).take n) (y, z) = some (lt, sz)) (hlt : m₁ ("letter" : Str) = some (.str lt tl)) (hsz : m₁ ("size" : Str) = some (.int sz ts)) : SignsJ news x y z i t2 n m₁ nx
section
set_option maxHeartbeats 8000000
theorem c_form_of (w : World) (news : Led) (x y : Str) (z : Int) (t ty tz : Tok) (hx : x.length ≤ 1000) (hy : y.length ≤ 10) : Ctr w 115 [.str x t, .str y ty, .int z tz] news 3 20
    (fun r n => ∃ (f d : Addr) (cnt : Int) (lt : Str) (sz : Int) (k1 k2 k3 v1 v2 v3 : Tok), FormIs x y z cnt lt sz ∧ r = .ref f ∧ n = (f, instObj 64 d) :: (d, formDict w cnt lt sz k1 k2 k3 v1 v2 v3) :: news) (FormNot x y z) := by
  intro loose mean mg mb dp un gd cn cs a ccd cl outer A₀ base h₀ L m s Q E B F X N T hk hd hu hret herr
  k_with_none
  refine wpAny_call ?_
  k_dflt (refine' code_def ?k1 ?k2 ?k3 ?k4 ?k5 ?kA ?kF ?kK ?k6 ?k7 ?k8 ?k9 ?kB ?_ ?c2 ?c3 ?c4 ?c5; (case kA => exact rfl); (case kF => exact rfl); (case kK => assumption); (case k1 => k_asm); (case k2 => k_asm); (case k3 => k_asm); (case k4 => k_asm); (case k5 => k_asm); (case k6 => k_is); (case k7 => k_is); (case k8 => ktr_room); (case k9 => exact BindsTo.of_eq rfl); (case c5 => decide); (case kB => exact locs rfl); (case c2 => exact rfl); (case c3 => exact rfl); (case c4 => exact rfl); k_whole)
  intro g1 L1 h1 FG F1 N1 B1 X1 T1
  replace F1 : Fr g1 L1 h1 (fun y9 => List.lookup y9 [(("size" : Str), .int z tz), (("letter" : Str), .str y ty), (("text" : Str), .str x t)]) := F1
  clear F N
  dsimp only
  k_unmd
  k_fold
  k_with "exec Raise some none" => (k_here; k_dflt (refine' raise_fault ?hh ?_; (case hh => first | exact rfl | assumption)))
  k_with "call ref" => (k_here; k_dflt (refine' new_fault ?B ?F ?X ?N ?T ?hk ?hd ?hu ?_; (case B => k_asm); (case F => k_asm); (case X => k_asm); (case N => k_asm); (case T => k_asm); (case hk => first | exact rfl | assumption); (case hd => ktr_room); (case hu => ktr_units); k_whole); intro e9 d9 t9 h9 tk9 F9 N9 ne9 nn9)
  k_with "RaisedNow" => (refine ⟨_, _, _, rfl, (Frag.In.keeps (by k_asm) (Fr.keep (by k_asm))) 44 _ (cls44 _), (News.get (by k_asm) (List.Mem.head _)), ?_⟩)
  k_with "leaving ref" => (k_here; k_dflt (refine' leave_fault ?K ?F ?N ?ne ?nn ?_ ?hk; (case K => assumption); (case F => k_asm); (case N => k_asm); (case ne => assumption); (case nn => assumption); (case hk => exact rfl)); intro h9 R9 RK9 U9)
  k_with "call ref" => (k_here; k_dflt (refine' call_cls ?k1 ?k2 ?k3 ?k4 ?k5 ?k6 ?_; (case k1 => k_asm); (case k2 => k_asm); (case k3 => k_asm); (case k4 => k_is); (case k5 => k_is); (case k6 => k_is); k_whole; intro xI dI hI0 FI0 NI0 lI1 lI2; (try k_lt2 lI2); refine' code_def ?k1 ?k2 ?k3 ?k4 ?k5 ?kA ?kF ?kK ?k6 ?k7 ?k8 ?k9 ?kB ?_ ?c2 ?c3 ?c4 ?c5; (case kA => exact rfl); (case kF => exact rfl); (case kK => first | exact rfl | assumption); (case k1 => k_asm); (case k2 => k_asm); (case k3 => k_asm); (case k4 => k_asm); (case k5 => k_asm); (case k6 => k_is); (case k7 => k_is); (case k8 => ktr_room); (case k9 => first | exact BindsTo.of_eq rfl | exact binds_K (by k_in) rfl (by k_is) rfl rfl rfl); (case c5 => decide); (case kB => exact locs rfl); (case c2 => exact rfl); (case c3 => exact rfl); (case c4 => exact rfl); k_whole; intro gI LI hI FGI FI NI BI XI TI; (try dsimp only); (try k_fold)))
  k_with "compareOp In str ref" => (k_here; k_dflt (refine' inSizes ?X ?F ?_; (case X => k_asm); (case F => k_asm)); (cases hn9 : sizeOfSign _) <;> (try dsimp only [Option.isSome]))
  k_with "subscriptTail" => (k_here; k_dflt (refine' itemSizes ?X ?F ?hn ?_ ?hs ?hg; (case X => k_asm); (case F => k_asm); (case hn => assumption); rotate_left; (with_unfolding_all exact rfl); (intro _; with_unfolding_all exact rfl)); intro t9)
  k_with "exec While" => (refine Stop.out ?_)
  k_with "call type:int" => (refine Stop.out ?_)
  k_with "exec For" => (refine Stop.out ?_)
  k_with "pyIter str" => (refine Stop.out ?_)
  k_with "exec Assign cons IfExp" => ((fail_if_success (have inq9 : InCut := by assumption)); refine Stop.out ?_)
  k_steps
  refine Stop.in ?_
  refine wpAny_mono (Q := EndQ g1 L1 news s x y z t ty tz) (While_inv2 (J := fun n m₁ news₁ => news₁ = news ∧ ∃ (i : Nat) (t1 : Tok), (m₁ = fun q => if q = ("end" : Str) then some (Value.int i t1) else List.lookup q [(("size" : Str), Value.int z tz), (("letter" : Str), Value.str y ty), (("text" : Str), Value.str x t)]) ∧ i ≤ x.length ∧ n = x.length - i ∧ (∀ j, j < i → digitAt x j = true)) (n₀ := x.length) (by k_asm) (by k_asm) ?hJ ?turn ?hE) ?nx (fun _ _ e => e)
  case hJ => exact ⟨rfl, 0, _, rfl, Nat.zero_le _, rfl, fun j h => absurd h (Nat.not_lt_zero _)⟩
  case hE => passes_own
  case turn =>
    (rename Fr g1 _ _ _ => Fo); (rename News g1 _ _ _ => No); clear Fo No
    rintro n m₁ news₁ h₁ tk₁ F₁ N₁ ⟨e1, i, t1, e2, hi, e3, hj⟩
    subst e1 e2 e3
    k_steps
    all_goals first
      | (refine whileNext (n' := x.length - (i + 1)) (frMap (by assumption) two_same) (by assumption) (by omega) ⟨rfl, i + 1, _, rfl, by omega, rfl, upto_succ hj ?_⟩; (rename (_ : Bool) = false => hb); exact congrArg not hb)
      | exact .mk _ _ i _ rfl rfl ⟨hi, hj, fun hlt => by first | ((rename (_ : Bool) = true => hb); exact congrArg not hb) | (exfalso; omega)⟩ (by assumption) (by assumption)
  case nx =>
    (rename Fr g1 _ _ _ => Fo); (rename News g1 _ _ _ => No); clear Fo No
    refine EndQ.elim ?_
    intro h2 tk2 i t1 hdi F2 N2
    have hi := hdi.1
    have hj := hdi.2.1
    have hk := hdi.2.2
    k_steps
    refine Stop.in ?_
    refine wpAny_mono (Q := CountQ g1 L1 news s x y z t ty tz i t1) ?one ?nx (fun _ _ e => e)
    case one =>
      have inq : InCut := ⟨⟩
      k_steps
      · (rename (0 : Int) < _ => h0); (rename ((_ : Nat) : Int) ≤ 6 => h6)
        refine Stop.in ?_
        refine KIN.call_text (intDig hi hj (by omega) (by omega)) (by have := fact_slice_ns x i; omega) ?_
        k_steps
        exact .mk _ _ _ rfl rfl (by assumption) (by assumption)
      all_goals
        have e : countOf x i = 1 := by unfold countOf; rw [if_neg (by omega)]
        exact .mk _ _ _ rfl rfl (by rw [e]; assumption) (by assumption)
    case nx =>
      clear F2 N2
      refine CountQ.elim ?_
      intro h3 tk3 t2 F3 N3
      have inq : InCut := ⟨⟩
      k_steps
      · (rename (6 : Int) < _ => h6)
        exact herr ⟨i, ⟨hi, hj, hk⟩, .inl (by omega)⟩ _ _ _ g1 _ _ FG R9 RK9 U9
      · (rename ¬ ((6 : Int) < _) => h6)
        refine Stop.in ?_
        refine For_invVF F3 rfl rfl ?_
        k_steps
        refine Stop.in ?_
        refine iter_signs (SignsJ news x y z i t2) rfl (by k_asm) (by k_asm) (.mk _ _ _ _ rfl rfl rfl rfl rfl) ?turn ?done
        case turn =>
          (rename Fr g1 _ _ _ => Fo); (rename News g1 _ _ _ => No); clear Fo No
          rintro j c u m₁ news₁ h4 tk4 own hc - hoff ⟨lt, sz, tl, ts, rfl, hcnt, hacc, hlt, hsz⟩ F4 N4
          replace hc : (cds (Txt.slice x (some (i : Int)) none))[j]? = some c := by simpa [cds] using hc
          k_steps
          · (rename List.isEmpty _ = true => hb)
            have hlf : inLetters c = false := by unfold inLetters; rw [hb]; rfl
            exact herr ⟨i, ⟨hi, hj, hk⟩, .inr (acc_bad hc hacc (by unfold formAcc; rw [hlf, hn9]; rfl))⟩ _ _ _ g1 _ _ FG (raisedSub R9 fun q hq => List.mem_append_left _ hq) (raisedSub R9 fun q hq => List.mem_append_left _ hq).toK U9
          · (rename List.isEmpty _ = true => hb)
            have hlf : inLetters c = false := by unfold inLetters; rw [hb]; rfl
            (rename Fr g1 _ _ _ => F5)
            exact InvEndN.intro F5 (by assumption) (.mk _ _ _ _ rfl hcnt ((acc_take hc hacc).trans (by unfold formAcc; rw [hlf, hn9]; rfl)) hlt rfl) rfl (fun p hp => List.mem_append_left _ hp) (fun p hp => List.mem_append_right _ hp)
          · (rename List.isEmpty _ = false => hb)
            have hlf : inLetters c = true := by unfold inLetters; rw [hb]; rfl
            (rename Fr g1 _ _ _ => F5)
            exact InvEndN.intro F5 (by assumption) (.mk _ _ _ _ rfl hcnt ((acc_take hc hacc).trans (by unfold formAcc; rw [hlf]; rfl)) rfl hsz) rfl (fun p hp => List.mem_append_left _ hp) (fun p hp => List.mem_append_right _ hp)
        case done =>
          (rename Fr g1 _ _ _ => Fo); (rename News g1 _ _ _ => No); clear Fo No
          rintro m₁ news₁ h4 tk4 ⟨lt, sz, tl, ts, rfl, hcnt, hacc, hlt, hsz⟩ F4 N4
          replace F4 := Fr.known0 (n := ("count" : Str)) (Fr.known0 (n := ("letter" : Str)) (Fr.known0 (n := ("size" : Str)) F4 hsz) hlt) hcnt
          k_steps
          exact hret _ _ _ _ ⟨_, _, _, _, _, _, _, _, _, _, _, ⟨i, ⟨hi, hj, hk⟩, by omega, rfl, (by rw [← hacc, List.take_of_length_le]; simp [cds])⟩, rfl, rfl⟩ (by assumption) (by assumption)
theorem ck_form_of (w : World) (news : Led) (x y : Str) (z : Int) (t ty tz : Tok) (hx : x.length ≤ 1000) (hy : y.length ≤ 10) : Ctr w 115 [.str x t, .str y ty, .int z tz] news 3 20
    (KOk fun Z9 => ∀ (f d : Addr) (cnt : Int) (lt : Str) (sz : Int) (k1 k2 k3 v1 v2 v3 : Tok), FormIs x y z cnt lt sz → Z9 (.ref f) ((f, instObj 64 d) :: (d, formDict w cnt lt sz k1 k2 k3 v1 v2 v3) :: news)) (FormNot x y z) :=
  (c_form_of w news x y z t ty tz hx hy).mono fun _ _ h Z9 hk => by
    obtain ⟨f, d, cnt, lt, sz, k1, k2, k3, v1, v2, v3, h1, rfl, rfl⟩ := h
    exact hk f d cnt lt sz k1 k2 k3 v1 v2 v3 h1
end

end Mine
set_option Elab.async false
set_option maxRecDepth 100000
set_option maxHeartbeats 2000000
set_option compiler.extract_closed false
namespace Mine
local macro_rules | `(tactic| walk_at $s:str) => `(tactic| k_extra $s)
theorem fillP10 : r = r ∧ K = K := by k_fill; exact ⟨rfl, rfl⟩
noncomputable def orBlank (x : Str) : Str := if x.length = 0 then Str.ofString " " else x
noncomputable def nameSign (x : Str) : Bool := Txt.isalnum x || x == "_" || x == "$"
/-- the word if at a place: its signs and no sign of a name behind -/
noncomputable def wordAt (y : Str) (i : Nat) : Bool := (Txt.slice y (some (i : Int)) (some ((i : Int) + 2)) == Str.ofString "if") && !nameSign (orBlank (Txt.slice y (some ((i : Int) + 2)) (some ((i : Int) + 3))))
noncomputable def ifAt (y : Str) (i : Nat) : Bool := wordAt y i && (decide (i = 0) || !(Builtin.Str.occurrences (Str.ofString " \t") (Txt.item y ((i : Int) - 1)) 0 (Str.ofString " \t").length 1).isEmpty)
noncomputable def condAt (y : Str) (i : Nat) : Str := Txt.strip (Txt.slice y (some ((i : Int) + 2)) none)
noncomputable def PlaceIs (x p c : Str) : Prop := ((∀ j, j < (Txt.strip x).length → ifAt (Txt.strip x) j = false) ∧ p = Txt.strip x ∧ c = Str.ofString "") ∨
  (∃ i, i < (Txt.strip x).length ∧ (∀ j, j < i → ifAt (Txt.strip x) j = false) ∧ ifAt (Txt.strip x) i = true ∧ (condAt (Txt.strip x) i == Str.ofString "") = false ∧ p = Txt.strip (Txt.slice (Txt.strip x) none (some (i : Int))) ∧ c = condAt (Txt.strip x) i)
noncomputable def PlaceNot (x : Str) : Prop := ∃ i, i < (Txt.strip x).length ∧ (∀ j, j < i → ifAt (Txt.strip x) j = false) ∧ ifAt (Txt.strip x) i = true ∧ (condAt (Txt.strip x) i == Str.ofString "") = true
section
set_option maxHeartbeats 8000000
theorem c_place (w : World) (news : Led) (x : Str) (t : Tok) (hx : x.length ≤ 1000) : Ctr w 129 [.str x t] news 3 20
    (fun r n => ∃ (ad : Addr) (p c : Str) (t1 t2 : Tok), PlaceIs x p c ∧ r = .ref ad ∧ n = (ad, tupO [.str p t1, .str c t2]) :: news) (PlaceNot x) := by
  intro loose mean mg mb dp un gd cn cs a ccd cl outer A₀ base h₀ L m s Q E B F X N T hk hd hu hret herr
  k_with_none
  refine wpAny_call ?_
  k_dflt (refine' code_def ?k1 ?k2 ?k3 ?k4 ?k5 ?kA ?kF ?kK ?k6 ?k7 ?k8 ?k9 ?kB ?_ ?c2 ?c3 ?c4 ?c5; (case kA => exact rfl); (case kF => exact rfl); (case kK => assumption); (case k1 => k_asm); (case k2 => k_asm); (case k3 => k_asm); (case k4 => k_asm); (case k5 => k_asm); (case k6 => k_is); (case k7 => k_is); (case k8 => ktr_room); (case k9 => exact BindsTo.of_eq rfl); (case c5 => decide); (case kB => exact locs rfl); (case c2 => exact rfl); (case c3 => exact rfl); (case c4 => exact rfl); k_whole)
  intro g1 L1 h1 FG F1 N1 B1 X1 T1
  replace F1 : Fr g1 L1 h1 (fun y9 => List.lookup y9 [(("text" : Str), .str x t)]) := F1
  clear F N
  dsimp only
  k_unmd
  k_fold
  k_with "exec Raise some none" => (k_here; k_dflt (refine' raise_fault ?hh ?_; (case hh => first | exact rfl | assumption)))
  k_with "call ref" => (k_here; k_dflt (refine' new_fault ?B ?F ?X ?N ?T ?hk ?hd ?hu ?_; (case B => k_asm); (case F => k_asm); (case X => k_asm); (case N => k_asm); (case T => k_asm); (case hk => first | exact rfl | assumption); (case hd => ktr_room); (case hu => ktr_units); k_whole); intro e9 d9 t9 h9 tk9 F9 N9 ne9 nn9)
  k_with "RaisedNow" => (refine ⟨_, _, _, rfl, (Frag.In.keeps (by k_asm) (Fr.keep (by k_asm))) 44 _ (cls44 _), (News.get (by k_asm) (List.Mem.head _)), ?_⟩)
  k_with "leaving ref" => (k_here; k_dflt (refine' leave_fault ?K ?F ?N ?ne ?nn ?_ ?hk; (case K => assumption); (case F => k_asm); (case N => k_asm); (case ne => assumption); (case nn => assumption); (case hk => exact rfl)); intro h9 R9 RK9 U9)
  k_with "exec While" => (refine Stop.out ?_)
  k_with "exec Assign cons BoolOp" => ((fail_if_success (with_reducible show wpAny _ _ _ (fun _ _ => Cut _) _ _)); refine Stop.out ?_)
  k_with "isTrue BoolOp" => ((with_reducible show wpAny _ _ (PySem.isTrue (Expr.BoolOp BoolOp.And _ _) _ _) _ _ _); (fail_if_success (with_reducible show wpAny _ _ _ (fun _ _ => Cut _) _ _)); refine Stop.out ?_)
  k_with "truthy str" => (k_here; (try dsimp only); refine SBL.truthy (by have := Txt.slice_le (Txt.strip x) (some ((i : Int) + 2)) (some ((i : Int) + 3)); have := len_strip x; omega) ?_)
  k_with "call ref" => (k_here; k_dflt (refine' Ctr.use (c_isname _ _ _ _) ?B ?F ?X ?N ?T ?hk ?hd ?hu ?_ (fun f => f.elim); (case B => k_asm); (case F => k_asm); (case X => k_asm); (case N => k_asm); (case T => k_asm); (case hk => first | exact rfl | assumption); (case hd => ktr_room); (case hu => ktr_units)); intro r9 n9 h9 tk9 ok9 F9 N9; obtain ⟨rfl, rfl⟩ := ok9; try dsimp only)
  k_steps
  refine Stop.in ?_
  refine While_inv2 (J := fun n m₁ news₁ => news₁ = news ∧ ∃ (i : Nat) (t1 t2 : Tok), m₁ ("at" : Str) = some (Value.int i t1) ∧ m₁ ("text" : Str) = some (.str (Txt.strip x) t2) ∧ i ≤ (Txt.strip x).length ∧ n = (Txt.strip x).length - i ∧ (∀ j, j < i → ifAt (Txt.strip x) j = false)) (n₀ := (Txt.strip x).length) (by k_asm) (by k_asm) ?hJ ?turn ?hE
  case hJ => exact ⟨rfl, 0, _, _, rfl, rfl, Nat.zero_le _, rfl, fun j h => absurd h (Nat.not_lt_zero _)⟩
  case hE => passes_own
  (rename Fr g1 _ _ _ => Fo); (rename News g1 _ _ _ => No); clear Fo No
  rintro n m₁ news₁ h₁ tk₁ F₁ N₁ ⟨e1, i, t1, t2, hat, htx, hi, e3, hj⟩
  subst e1 e3
  replace F₁ := Fr.known0 (n := ("at" : Str)) (Fr.known0 (n := ("text" : Str)) F₁ htx) hat
  k_steps
  · (rename ((_ : Nat) : Int) < _ => hlt)
    refine Stop.in ?_
    refine wpAny_mono (Q := fun f s' => Cut (f = .next ∧ ∃ h' tk, s' = { s with heap := h', toks := tk } ∧ Fr g1 L1 h' (fun q => if q = ("is_word" : Str) then some (Value.bool (wordAt (Txt.strip x) i)) else if q = ("at" : Str) then some (Value.int i t1) else if q = ("text" : Str) then some (.str (Txt.strip x) t2) else m₁ q) ∧ News g1 L1 h' news₁)) ?one ?nx (fun _ _ e => e)
    case one =>
      k_steps
      · (rename (_ == _) = true => hw); (rename _ ≠ _ => h0)
        have e : wordAt (Txt.strip x) i = !nameSign (Txt.slice (Txt.strip x) (some ((i : Int) + 2)) (some ((i : Int) + 3))) := by
          unfold wordAt orBlank; rw [hw, if_neg (by omega)]; rfl
        exact ⟨by trivial, _, _, rfl, (by rw [e]; assumption), by assumption⟩
      · (rename (_ == _) = true => hw); (rename ((_ : Nat) : Int) = 0 => h0)
        have e : wordAt (Txt.strip x) i = !nameSign (Str.ofString " ") := by
          unfold wordAt orBlank; rw [hw, if_pos (by omega)]; rfl
        exact ⟨by trivial, _, _, rfl, (by rw [e]; assumption), by assumption⟩
      · (rename (_ == _) = false => hw)
        have e : wordAt (Txt.strip x) i = (Txt.slice (Txt.strip x) (some (i : Int)) (some ((i : Int) + 2)) == Str.ofString "if") := by
          unfold wordAt; rw [hw]; rfl
        exact ⟨by trivial, _, _, rfl, (by rw [e]; assumption), by assumption⟩
    case nx =>
      (rename Fr g1 _ _ _ => Fo); (rename News g1 _ _ _ => No); clear Fo No
      rintro f s' ⟨rfl, h3, tk3, rfl, F3, N3⟩
      k_steps
      refine Stop.in ?_
      refine wpAny_mono (Q := fun b s' => Cut (b = ifAt (Txt.strip x) i ∧ ∃ h' tk, s' = { s with heap := h', toks := tk } ∧ Fr g1 L1 h' (fun q => if q = ("is_word" : Str) then some (Value.bool (wordAt (Txt.strip x) i)) else if q = ("at" : Str) then some (Value.int i t1) else if q = ("text" : Str) then some (.str (Txt.strip x) t2) else m₁ q) ∧ News g1 L1 h' news₁)) ?one ?nx (fun _ _ e => e)
      case one =>
        k_steps
        · (rename wordAt _ _ = true => hw); (rename ((_ : Nat) : Int) = 0 => h0)
          dsimp only
          exact ⟨by unfold ifAt; rw [hw, decide_eq_true (by omega)]; rfl, _, _, rfl, by assumption, by assumption⟩
        · (rename wordAt _ _ = true => hw); (rename ((_ : Nat) : Int) ≠ 0 => h0); (rename List.isEmpty _ = true => hb)
          dsimp only
          exact ⟨by unfold ifAt; rw [hw, decide_eq_false (by omega), hb]; rfl, _, _, rfl, by assumption, by assumption⟩
        · (rename wordAt _ _ = true => hw); (rename ((_ : Nat) : Int) ≠ 0 => h0); (rename List.isEmpty _ = false => hb)
          dsimp only
          exact ⟨by unfold ifAt; rw [hw, decide_eq_false (by omega), hb]; rfl, _, _, rfl, by assumption, by assumption⟩
        · (rename wordAt _ _ = false => hw)
          exact ⟨by unfold ifAt; rw [hw]; rfl, _, _, rfl, by assumption, by assumption⟩
      case nx =>
        (rename Fr g1 _ _ _ => Fo); (rename News g1 _ _ _ => No); clear Fo No
        rintro b s' ⟨rfl, h4, tk4, rfl, F4, N4⟩
        k_steps
        · (rename ifAt _ _ = true => hif); (rename (_ == _) = true => hc)
          exact herr ⟨i, by omega, hj, hif, hc⟩ _ _ _ g1 _ _ FG R9 RK9 U9
        · (rename ifAt _ _ = true => hif); (rename (_ == _) = false => hc)
          dsimp only [WhileStep2]
          k_steps
          exact hret _ _ _ _ ⟨_, _, _, _, _, .inr ⟨i, by omega, hj, hif, hc, rfl, rfl⟩, rfl, rfl⟩ (by assumption) (by assumption)
        · (rename ifAt _ _ = false => hif)
          exact whileNext (n' := (Txt.strip x).length - (i + 1)) (by assumption) (by assumption) (by omega) ⟨rfl, i + 1, _, _, rfl, rfl, by omega, rfl, upto_succ hj hif⟩
  · (rename ¬ ((_ : Nat) : Int) < _ => hlt)
    have e : i = (Txt.strip x).length := by omega
    exact hret _ _ _ _ ⟨_, _, _, _, _, .inl ⟨e ▸ hj, rfl, rfl⟩, rfl, rfl⟩ (by assumption) (by assumption)
end

end Mine
set_option Elab.async false
set_option maxRecDepth 100000
set_option maxHeartbeats 2000000
set_option compiler.extract_closed false
namespace Mine
section
variable {prog : Program} {w : World} {A : Around} {E : Value → Shared → Prop} {s : Shared} {env : Env} {h₀ : Heap} {x : Str} {body : List Stmt} {Q : Flow → Shared → Prop}
/-- a loop over the items of a list that stands apart from the ledger, by an invariant -/
theorem iter_listL {l : Addr} {vs : List Value} {m₀ : Str → Option Value} {news : Led} (J : Nat → (Str → Option Value) → Led → Prop)
    (hh : A.handled = none) (hl : s.heap.IsList l vs.toArray) (hlL : l ≠ env.locals) (hln : ∀ q ∈ news, q.1 ≠ l) (F : Fr h₀ env.locals s.heap m₀) (N : News h₀ env.locals s.heap news) (hj : J 0 m₀ news)
    (turn : ∀ i v m₁ news₁ h tk own, vs[i]? = some v → news₁.map (·.1) = news.map (·.1) → OwnOff own (news.map (·.1)) → J i m₁ news₁ → Fr h₀ env.locals h (fun y => if y = x then some v else m₁ y) → News h₀ env.locals h (news₁ ++ own) →
      wpAny (model prog w) A (execs body env) (InvPostN h₀ env.locals (J (i + 1)) own (news.map (·.1)) { s with heap := h, toks := tk } Q) E { s with heap := h, toks := tk })
    (done : ∀ m₁ news₁ h tk, J vs.length m₁ news₁ → Fr h₀ env.locals h m₁ → News h₀ env.locals h news₁ → Q .next { s with heap := h, toks := tk }) :
    wpAny (model prog w) A (pyIter (.ref l)) (fun it s₂ => LoopAtV prog w A h₀ env x body Q E it s₂) E s := by
  obtain ⟨ol, hol, rl⟩ := id hl
  have hne : l ≠ s.heap.objs.size := Nat.ne_of_lt (Heap.lt_size hol)
  refine wpAny_pyIter_list hl ?_
  have W := Walks.list (prog := prog) (w := w) hh s.heap.objs.size l hne vs.toArray
  have hlen : vs.toArray.size = vs.length := by simp
  rw [hlen] at W
  refine loop_invN J W ?_ ?_ ?_ ?_ ⟨⟨_, Heap.get?_push_size _ rfl, rfl, rfl⟩, ⟨ol, Heap.get?_push_of_some _ hol, rl⟩⟩ (F.push _) (fun p hp => ⟨Heap.get?_push_of_some _ (N p hp).1, (N p hp).2⟩) hj ?_ done
  · intro hm
    rcases List.mem_cons.mp hm with e | hm
    · exact absurd F.ns.lt (e ▸ Nat.lt_irrefl _)
    · exact hlL (List.mem_singleton.mp hm).symm
  · intro b hb
    rw [List.mem_singleton.mp hb]
    exact next_is_new F
  · intro p hp hI
    exact absurd (Heap.lt_size (N p hp).1) ((List.mem_singleton.mp hI) ▸ Nat.lt_irrefl _)
  · intro p hp hI
    rcases List.mem_cons.mp hI with e | hI
    · exact absurd (Heap.lt_size (N p hp).1) (e ▸ Nat.lt_irrefl _)
    · exact hln p hp (List.mem_singleton.mp hI)
  · intro i v m₁ nx h tk own hi hP ha hoff hj' F₁ N₁
    exact turn i v m₁ nx h tk own (by simpa using hP) ha hoff hj' F₁ N₁
end
theorem strsGet {vs : List Value} {xs : List Str} (h : StrsAre vs xs) : ∀ {i : Nat} {v : Value}, vs[i]? = some v → ∃ z u, v = .str z u ∧ xs[i]? = some z := by
  induction h with
  | nil => intro i v e; simp at e
  | cons y t _ ih =>
    intro i v e
    cases i with
    | zero => exact ⟨y, t, by simpa using e.symm, rfl⟩
    | succ i => exact ih (by simpa using e)
end Mine
set_option Elab.async false
set_option maxRecDepth 100000
set_option maxHeartbeats 2000000
set_option compiler.extract_closed false
namespace Mine
local macro_rules | `(tactic| walk_at $s:str) => `(tactic| k_extra $s)
theorem fillP11 : r = r ∧ K = K := by k_fill; exact ⟨rfl, rfl⟩
noncomputable def lowOf (z : Str) : Int := wholeOf (Txt.partition z (Str.ofString "-")).1
noncomputable def highOf (z : Str) : Int := if ((Txt.partition z (Str.ofString "-")).2.1 != Str.ofString "") = true then wholeOf (Txt.partition z (Str.ofString "-")).2.2 else lowOf z
noncomputable def span (a b : Int) : List Int := rangeKs a (b + 1 - a).toNat
theorem digitsVal_le : ∀ (l : List Nat) (a : Nat), (∀ c ∈ l, c ≤ 57) → l.foldl (fun acc c => acc * 10 + (c - 48)) a < (a + 1) * 10 ^ l.length
  | [], a, _ => by simp
  | c :: r, a, h => by
    have ih := digitsVal_le r (a * 10 + (c - 48)) (fun d hd => h d (.tail _ hd))
    have hc := h c (.head _)
    rw [List.foldl_cons, List.length_cons, Nat.pow_succ]
    refine Nat.lt_of_lt_of_le ih ?_
    rw [Nat.mul_comm (10 ^ r.length) 10, ← Nat.mul_assoc]
    exact Nat.mul_le_mul_right _ (by omega)
theorem wholeOf_lt (x : Str) : wholeOf x < 1000000000 := by
  unfold wholeOf
  split
  · rename_i h
    unfold isNum at h
    simp only [Bool.and_eq_true, decide_eq_true_eq, List.all_eq_true] at h
    obtain ⟨⟨h1, -⟩, h9⟩ := h
    have h2 := digitsVal_le x.cps.toList 0 (fun c hc => (h1 c hc).2)
    have h3 : x.cps.toList.length ≤ 9 := by rw [show x.cps.toList.length = x.length from by simp [Str.length]]; exact h9
    have h4 : (10 : Nat) ^ x.cps.toList.length ≤ 10 ^ 9 := Nat.pow_le_pow_right (by omega) h3
    have h5 : NumText.digitsVal x.cps.toList < 1000000000 := by
      unfold NumText.digitsVal
      omega
    omega
  · omega
theorem highOf_lt (z : Str) : highOf z < 1000000000 := by
  unfold highOf
  split <;> exact wholeOf_lt _
noncomputable def wordNums (z : Str) : Option (List Int) := if lowOf z < 0 ∨ highOf z < 0 ∨ highOf z < lowOf z ∨ 999 < highOf z - lowOf z then none else some (span (lowOf z) (highOf z))
noncomputable def numsOf : List Str → Option (List Int)
  | [] => some []
  | z :: r => match wordNums z, numsOf r with | some a, some b => some (a ++ b) | _, _ => none
theorem numsOf_snoc (z : Str) : ∀ (l : List Str) (ns : List Int), numsOf l = some ns → numsOf (l ++ [z]) = (wordNums z).map (ns ++ ·)
  | [], ns, h => by
    cases h
    show (match wordNums z, some [] with | some a, some b => some (a ++ b) | _, _ => none) = _
    cases wordNums z <;> simp
  | y :: r, ns, h => by
    rw [List.cons_append]
    unfold numsOf at h ⊢
    cases hy : wordNums y with
    | none => rw [hy] at h; cases h
    | some a =>
      cases hr : numsOf r with
      | none => rw [hy, hr] at h; cases h
      | some b =>
        rw [hy, hr] at h; cases h
        rw [numsOf_snoc z r b hr]
        cases wordNums z <;> simp
theorem numsOf_bad {z : Str} (hz : wordNums z = none) : ∀ l : List Str, z ∈ l → numsOf l = none
  | y :: r, h => by
    unfold numsOf
    rcases List.mem_cons.mp h with rfl | h
    · rw [hz]
    · rw [numsOf_bad hz r h]
      cases wordNums y <;> rfl
theorem nums_take {l : List Str} {i : Nat} {z : Str} {ns : List Int} (hz : l[i]? = some z) (h : numsOf (l.take i) = some ns) {a : List Int} (ha : wordNums z = some a) : numsOf (l.take (i + 1)) = some (ns ++ a) := by
  rw [List.take_add_one, hz]
  show numsOf (l.take i ++ [z]) = _
  rw [numsOf_snoc z _ _ h, ha]; rfl
section
set_option maxHeartbeats 8000000
end
inductive NumsL (news : Led) (x : Str) (i : Nat) (m₁ : Str → Option Value) (nx : Led) : Prop
  | mk (fa : Addr) (vs : List Value) (n : Nat) (ns : List Int) (hnx : nx = (fa, W.listOf (List.toArray vs) n) :: news) (hfo : m₁ ("found" : Str) = some (.ref fa)) (hns : numsOf ((Txt.words x).take i) = some ns) (hI : IntsAre vs ns) (hl : ns.length ≤ 1000 * i) (hfa : ∀ q ∈ news, q.1 ≠ fa) : NumsL news x i m₁ nx
inductive SpanQ (g1 : Heap) (L1 fa : Addr) (nw : Led) (s : Shared) (z : Str) (u : Tok) (f : Flow) (s' : Shared) : Prop
  | mk (h' : Heap) (tk : Nat) (t1 t2 : Tok) (m₂ : Str → Option Value) (hf : f = .next) (hs : s' = { s with heap := h', toks := tk }) (e1 : m₂ ("word" : Str) = some (.str z u)) (e2 : m₂ ("found" : Str) = some (.ref fa)) (F : Fr g1 L1 h' (fun q => if q = ("first" : Str) then some (Value.int (lowOf z) t1) else if q = ("last" : Str) then some (Value.int (highOf z) t2) else m₂ q)) (N : News g1 L1 h' nw) : SpanQ g1 L1 fa nw s z u f s'
theorem SpanQ.elim {g1 : Heap} {L1 fa : Addr} {nw : Led} {s : Shared} {z : Str} {u : Tok} {k : Flow → Shared → Prop} {Q9 : Flow → Shared → Prop} (hQ : Q9 = fun f s' => SpanQ g1 L1 fa nw s z u f s')
    (h : ∀ (h' : Heap) (tk : Nat) (t1 t2 : Tok) (m₂ : Str → Option Value), Fr g1 L1 h' (fun q => if q = ("word" : Str) then some (.str z u) else if q = ("found" : Str) then some (.ref fa) else if q = ("first" : Str) then some (Value.int (lowOf z) t1) else if q = ("last" : Str) then some (Value.int (highOf z) t2) else m₂ q) →
      News g1 L1 h' nw → k .next { s with heap := h', toks := tk }) (f : Flow) (s' : Shared) (q9 : Q9 f s') : k f s' := by
  subst hQ
  obtain ⟨h5, tk5, t1, t2, m₂, rfl, rfl, hm1, hm2, F5, N5⟩ := q9
  exact h _ _ _ _ _ (Fr.known0 (n := ("word" : Str)) (Fr.known0 (n := ("found" : Str)) F5 hm2) hm1) N5
section
set_option maxHeartbeats 8000000
theorem c_numbers (w : World) (news : Led) (x : Str) (t : Tok) (hx : x.length ≤ 1000) : Ctr w 141 [.str x t] news 3 20
    (fun r n => ∃ (fa : Addr) (vs : List Value) (k : Nat) (ns : List Int), numsOf (Txt.words x) = some ns ∧ IntsAre vs ns ∧ r = .ref fa ∧ n = (fa, W.listOf (List.toArray vs) k) :: news) (numsOf (Txt.words x) = none) := by
  intro loose mean mg mb dp un gd cn cs a ccd cl outer A₀ base h₀ L m s Q E B F X N T hk hd hu hret herr
  k_with_none
  refine wpAny_call ?_
  k_dflt (refine' code_def ?k1 ?k2 ?k3 ?k4 ?k5 ?kA ?kF ?kK ?k6 ?k7 ?k8 ?k9 ?kB ?_ ?c2 ?c3 ?c4 ?c5; (case kA => exact rfl); (case kF => exact rfl); (case kK => assumption); (case k1 => k_asm); (case k2 => k_asm); (case k3 => k_asm); (case k4 => k_asm); (case k5 => k_asm); (case k6 => k_is); (case k7 => k_is); (case k8 => ktr_room); (case k9 => exact BindsTo.of_eq rfl); (case c5 => decide); (case kB => exact locs rfl); (case c2 => exact rfl); (case c3 => exact rfl); (case c4 => exact rfl); k_whole)
  intro g1 L1 h1 FG F1 N1 B1 X1 T1
  replace F1 : Fr g1 L1 h1 (fun y9 => List.lookup y9 [(("text" : Str), .str x t)]) := F1
  clear F N
  dsimp only
  k_unmd
  k_fold
  k_with "exec Raise some none" => (k_here; k_dflt (refine' raise_fault ?hh ?_; (case hh => first | exact rfl | assumption)))
  k_with "call ref" => (k_here; k_dflt (refine' new_fault ?B ?F ?X ?N ?T ?hk ?hd ?hu ?_; (case B => k_asm); (case F => k_asm); (case X => k_asm); (case N => k_asm); (case T => k_asm); (case hk => first | exact rfl | assumption); (case hd => ktr_room); (case hu => ktr_units); k_whole); intro e9 d9 t9 h9 tk9 F9 N9 ne9 nn9)
  k_with "RaisedNow" => (refine ⟨_, _, _, rfl, (Frag.In.keeps (by k_asm) (Fr.keep (by k_asm))) 44 _ (cls44 _), (News.get (by k_asm) (List.Mem.head _)), ?_⟩)
  k_with "leaving ref" => (k_here; k_dflt (refine' leave_fault ?K ?F ?N ?ne ?nn ?_ ?hk; (case K => assumption); (case F => k_asm); (case N => k_asm); (case ne => assumption); (case nn => assumption); (case hk => exact rfl)); intro h9 R9 RK9 U9)
  k_with "pyIter ref" => (refine Stop.out ?_)
  k_with "exec Assign cons Tuple" => ((fail_if_success (have inq9 : InCut := by assumption)); refine Stop.out ?_)
  k_with "call ref" => (k_here; k_dflt (refine' Ctr.useK (ck_whole_of _ _ _ _ (by have := fact_partition z (Str.ofString "-"); omega)) ?B ?F ?X ?N ?T ?hk ?hd ?hu ?_ (fun f => f.elim); (case B => k_asm); (case F => k_asm); (case X => k_asm); (case N => k_asm); (case T => k_asm); (case hk => first | exact rfl | assumption); (case hd => ktr_room); (case hu => ktr_units)); intro t9 h9 tk9 F9 N9; try dsimp only)
  k_steps
  refine Stop.in ?_
  (rename List.map _ _ = Txt.words x => hw); (rename StrsAre _ _ => hS); (rename ∀ a ∈ List.map _ _, Str.length a ≤ _ => hlen); (rename Heap.IsList _ _ _ => hL)
  (rename ∀ p ∈ news, p.1 < _ => hnew); replace hnew := fun q hq => Nat.ne_of_lt (hnew q hq)
  (rename News g1 _ _ _ => N3); (rename Fr g1 _ _ _ => F3)
  refine iter_listL (NumsL news x) rfl hL (N3 _ (.head _)).2.1 ?hln F3 (fun q hq => N3 q (.tail _ hq)) (.mk _ _ _ _ rfl rfl rfl .nil (Nat.zero_le _) hnew) ?turn ?done
  case hln =>
    intro q hq
    (rename News g1 _ _ _ => N2)
    repeat (first | exact Nat.ne_of_lt (Heap.lt_size (N2 q hq).1) | (clear N2; rename News g1 _ _ _ => N2))
  case turn =>
    clear N3 F3 hL
    repeat (rename News g1 _ _ _ => N2; clear N2)
    repeat (rename Fr g1 _ _ _ => F2; clear F2)
    rintro i v m₁ news₁ h4 tk4 own hv hadr hoff ⟨fa, vs, n, ns, rfl, hfo, hns, hI, hnl, hfa⟩ F4 N4
    simp only [List.map_cons, List.cons.injEq, and_true] at hadr
    subst hadr
    obtain ⟨z, u, rfl, hz⟩ := strsGet hS hv
    have hzl := hlen z (List.mem_of_getElem? hz)
    replace F4 := Fr.known (n := ("found" : Str)) F4 hfo
    k_steps
    refine Stop.in ?_
    obtain ⟨Q9, hQ9⟩ : ∃ Q9 : Flow → Shared → Prop, Q9 = fun f s' => SpanQ g1 L1 fa ((fa, W.listOf (List.toArray vs) n) :: news ++ own) s z u f s' := ⟨_, rfl⟩
    refine wpAny_mono (Q := Q9) ?one ?nx (fun _ _ e => e)
    case one =>
      have inq : InCut := ⟨⟩
      k_steps
      · (rename (_ != _) = true => hb); (rename Fr g1 _ _ _ => F6); (rename News g1 _ _ _ => N6)
        have e : highOf z = wholeOf (Txt.partition z (Str.ofString "-")).2.2 := by unfold highOf; rw [if_pos hb]
        rw [← e] at F6
        rw [hQ9]
        exact .mk _ _ _ _ _ rfl rfl (by exact rfl) (by exact rfl) F6 (fun q hq => N6 q (.tail _ (.tail _ hq)))
      · (rename (_ != _) = false => hb); (rename Fr g1 _ _ _ => F6); (rename News g1 _ _ _ => N6)
        have e : highOf z = lowOf z := by unfold highOf; rw [hb]; rfl
        rw [hQ9]
        refine .mk _ _ _ _ _ rfl rfl ?_ ?_ (by rw [e]; exact F6) (fun q hq => N6 q (.tail _ (.tail _ hq))) <;> rfl
    case nx =>
      (rename Fr g1 _ _ _ => Fo); (rename News g1 _ _ _ => No); clear Fo No
      repeat (rename News g1 _ _ _ => N2; clear N2)
      repeat (rename Fr g1 _ _ _ => F2; clear F2)
      refine SpanQ.elim hQ9 ?_
      clear hQ9 Q9
      intro h5 tk5 t1 t2 m₂ F5 N5
      have inq : InCut := ⟨⟩
      have hlo : lowOf z < 1000000000 := wholeOf_lt _
      have hhi := highOf_lt z
      have hzw : z ∈ Txt.words x := hw ▸ List.mem_of_getElem? hz
      have sub : ∀ q ∈ news, q ∈ (fa, W.listOf (List.toArray vs) n) :: news ++ own := fun q hq => List.mem_append_left _ (.tail _ hq)
      have hil : i < (Txt.words x).length := by rw [← hw]; exact (List.getElem?_eq_some_iff.mp hz).1
      have hwl := fact_words x
      have hIl := hI.length
      k_steps
      · have e : wordNums z = none := by unfold wordNums; rw [if_pos (by omega)]
        exact herr (numsOf_bad e _ hzw) _ _ _ g1 _ _ FG (raisedSub R9 sub) (raisedSub R9 sub).toK U9
      · have e : wordNums z = none := by unfold wordNums; rw [if_pos (by omega)]
        exact herr (numsOf_bad e _ hzw) _ _ _ g1 _ _ FG (raisedSub R9 sub) (raisedSub R9 sub).toK U9
      · have e : wordNums z = none := by unfold wordNums; rw [if_pos (by omega)]
        exact herr (numsOf_bad e _ hzw) _ _ _ g1 _ _ FG (raisedSub R9 sub) (raisedSub R9 sub).toK U9
      · have e : wordNums z = none := by unfold wordNums; rw [if_pos (by omega)]
        exact herr (numsOf_bad e _ hzw) _ _ _ g1 _ _ FG (raisedSub R9 sub) (raisedSub R9 sub).toK U9
      · have e : wordNums z = some (span (lowOf z) (highOf z)) := by unfold wordNums; rw [if_neg (by omega)]
        (rename News g1 _ _ _ => NX); (rename Fr g1 _ _ _ => FX); (rename IntsAre _ (rangeKs _ _) => iX); (rename (∀ p : Addr × Obj, p ∈ _ → p.1 < _) => lX)
        have iXl := iX.length
        rw [rangeKs_length] at iXl
        refine extend_in_ints (own := [_]) FX NX ?ho ?hr (NX _ (.head _)).1 hI iX (fun h6 n6 F6 N6 I6 => ?_) ?hs
        case ho => intro q hq; rw [List.mem_singleton.mp hq]; exact Nat.ne_of_gt (lX _ (.head _))
        case hr =>
          intro q hq
          rcases List.mem_append.mp hq with h | h
          · exact hfa q h
          · exact hoff q h fa (.head _)
        case hs => (rw [sizeLine_eq]; simp only [List.size_toArray, List.length_map] at *; omega)
        k_steps
        exact InvEndN.intro (nx := (fa, _) :: news) F6 N6 (.mk fa _ _ _ rfl rfl (nums_take (hw ▸ hz) hns e) I6 (by rw [List.length_append]; simp only [span, rangeKs_length]; omega) hfa) rfl (fun p hp => .tail _ ((List.mem_cons.mp hp).elim (fun h => h ▸ .head _) fun h => .tail _ (List.mem_append_left _ h))) (fun p hp => .tail _ (.tail _ (List.mem_append_right _ hp)))
  case done =>
    clear N3 F3 hL
    repeat (rename News g1 _ _ _ => N2; clear N2)
    repeat (rename Fr g1 _ _ _ => F2; clear F2)
    rintro m₁ news₁ h4 tk4 ⟨fa, vs, n, ns, rfl, hfo, hns, hI, hnl, hfa⟩ F4 N4
    replace F4 := Fr.known0 (n := ("found" : Str)) F4 hfo
    k_steps
    have hl9 : (strValues _).length = (Txt.words x).length := (strsLen hS).trans (by rw [hw])
    rw [List.take_of_length_le (by omega)] at hns
    exact hret _ _ _ _ ⟨fa, vs, n, ns, hns, hI, rfl, rfl⟩ (by assumption) (by assumption)
end

end Mine
set_option Elab.async false
set_option maxRecDepth 100000
set_option maxHeartbeats 2000000
set_option compiler.extract_closed false
namespace Mine
/-- the shape of the law's well: a list of an object and two ints -/
noncomputable def isW (o : Obj) : Bool := match o.data with
  | .seq vs _ => (match vs.toList with | [.ref _, .int _ _, .int _ _] => true | _ => false)
  | _ => false
noncomputable abbrev wellO (ca : Addr) (sp : Int) (t1 : Tok) (sd : Int) (t2 : Tok) (n : Nat) : Obj := W.listOf (List.toArray [.ref ca, .int sp t1, .int sd t2]) n
noncomputable def NoW (wa : Addr) (rest : Led) : Prop := ∀ q ∈ rest, isW q.2 = false ∨ q.1 ≠ wa
theorem NoW.nil {wa : Addr} : NoW wa [] := fun _ h => (nomatch h)
theorem NoW.cons {wa : Addr} {q : Addr × Obj} {r : Led} (h : isW q.2 = false) (N : NoW wa r) : NoW wa (q :: r) := fun x hx => by
  rcases List.mem_cons.mp hx with rfl | hx
  · exact .inl h
  · exact N _ hx
theorem NoW.append {wa : Addr} {r r' : Led} (N : NoW wa r) (N' : NoW wa r') : NoW wa (r ++ r') := fun x hx => by
  rcases List.mem_append.mp hx with hx | hx
  · exact N _ hx
  · exact N' _ hx
theorem NoW.off {wa : Addr} {own : Led} {adr : List Addr} (h : OwnOff own adr) (hm : wa ∈ adr) : NoW wa own := fun x hx => .inr (h x hx _ hm)
/-- the law's cells stand in the ledger -/
noncomputable def CellsIn (rest : Led) (ca : Addr) : Prop := ∃ cvs cns nc, (ca, W.listOf (List.toArray cvs) nc) ∈ rest ∧ IntsAre cvs cns ∧ cns.length ≤ 48 ∧ ∀ c ∈ cns, 0 ≤ c ∧ c < 2147483647
theorem CellsIn.mono {r r' : Led} {ca : Addr} (h : CellsIn r ca) (s : ∀ q ∈ r, q ∈ r') : CellsIn r' ca := by
  obtain ⟨a, b, c, d, e⟩ := h
  exact ⟨a, b, c, s _ d, e⟩
theorem CellsIn.cons {q : Addr × Obj} {r : Led} {ca : Addr} (h : CellsIn r ca) : CellsIn (q :: r) ca := h.mono fun _ => .tail _
theorem CellsIn.left {r r' : Led} {ca : Addr} (h : CellsIn r ca) : CellsIn (r ++ r') ca := h.mono fun _ hx => List.mem_append_left _ hx
theorem noAddr {h₀ h : Heap} {L wa ca : Addr} {sp sd : Int} {t1 t2 : Tok} {n : Nat} {rest : Led} (N : News h₀ L h ((wa, wellO ca sp t1 sd t2 n) :: rest)) (hn : NoW wa rest) : ∀ q ∈ rest, q.1 ≠ wa := fun q hq e => by
  have h1 := (N _ (.head _)).1
  have h2 := (N q (.tail _ hq)).1
  rw [e, h1] at h2
  rcases hn q hq with h3 | h3
  · rw [← Option.some.inj h2] at h3
    cases h3
  · exact h3 e
section
variable {prog : Program} {w : World} {A : Around} {E : Value → Shared → Prop} {s : Shared} {h₀ : Heap} {L wa ca : Addr} {m : Str → Option Value} {rest : Led} {sp sd : Int} {t1 t2 : Tok} {n : Nat}
theorem wellSet1 {x : Int} {t u : Tok} {Q : Unit → Shared → Prop} (F : Fr h₀ L s.heap m) (N : News h₀ L s.heap ((wa, wellO ca sp t1 sd t2 n) :: rest)) (hn : NoW wa rest)
    (h : ∀ h', Fr h₀ L h' m → News h₀ L h' ((wa, wellO ca x u sd t2 n) :: rest) → Q () { s with heap := h' }) : wpAny (model prog w) A (setItem (.ref wa) (.int 1 t) (.int x u)) Q E s := by
  have z := N _ (.head _)
  exact ki_setAt z.1 (by decide) (by decide) (by simp) (h _ (F.change (Heap.SameBut.update ..) z.2.1 z.2.2) (ki_turn (pre := []) _ N (fun _ h => (nomatch h)) (noAddr N hn) rfl rfl))
theorem wellSet2 {x : Int} {t u : Tok} {Q : Unit → Shared → Prop} (F : Fr h₀ L s.heap m) (N : News h₀ L s.heap ((wa, wellO ca sp t1 sd t2 n) :: rest)) (hn : NoW wa rest)
    (h : ∀ h', Fr h₀ L h' m → News h₀ L h' ((wa, wellO ca sp t1 x u n) :: rest) → Q () { s with heap := h' }) : wpAny (model prog w) A (setItem (.ref wa) (.int 2 t) (.int x u)) Q E s := by
  have z := N _ (.head _)
  exact ki_setAt z.1 (by decide) (by decide) (by simp) (h _ (F.change (Heap.SameBut.update ..) z.2.1 z.2.2) (ki_turn (pre := []) _ N (fun _ h => (nomatch h)) (noAddr N hn) rfl rfl))
end
/-- the well: its cells, its spot, its seed -/
noncomputable def Well (ca : Addr) (o : Obj) : Prop := ∃ sp t1 sd t2 n, o = wellO ca sp t1 sd t2 n ∧ 0 ≤ sp ∧ 0 ≤ sd ∧ sd < 2147483647
/-- the ledger with one entry drawn to its head -/
inductive Pull (q : Addr × Obj) : Led → Led → Prop
  | head {r : Led} : Pull q (q :: r) r
  | tail {x : Addr × Obj} {r r' : Led} : Pull q r r' → Pull q (x :: r) (x :: r')
theorem Pull.mem {q : Addr × Obj} {l r : Led} (P : Pull q l r) : ∀ x ∈ q :: r, x ∈ l := by
  induction P with
  | head => exact fun _ h => h
  | tail _ ih =>
    intro x hx
    rcases List.mem_cons.mp hx with rfl | hx
    · exact .tail _ (ih _ (.head _))
    · rcases List.mem_cons.mp hx with rfl | hx
      · exact .head _
      · exact .tail _ (ih _ (.tail _ hx))
theorem Pull.news {q : Addr × Obj} {l r : Led} (P : Pull q l r) {h₀ h : Heap} {L : Addr} (N : News h₀ L h l) : News h₀ L h (q :: r) := fun x hx => N x (P.mem x hx)
/-- a tuple in the ledger or among the text's own -/
noncomputable def TupIn (w : World) (rest : Led) (ta : Addr) (vs : List Value) : Prop := (ta, tupO vs) ∈ rest ∨ (K w.params).lookup ta = some (tupO vs)
theorem TupIn.at {w : World} {rest : Led} {ta : Addr} {vs : List Value} (T : TupIn w rest ta vs) {h₀ h : Heap} {L : Addr} {m : Str → Option Value} (X : (K w.params).In h₀) (F : Fr h₀ L h m) {q : Addr × Obj} (N : News h₀ L h (q :: rest)) : IsTup h ta (List.toArray vs) := by
  rcases T with hm | hm
  · have := (N _ (.tail _ hm)).1
    exact ⟨_, this, rfl, _, rfl⟩
  · exact ⟨_, X.keeps F.keep _ _ hm, rfl, _, rfl⟩
end Mine
set_option Elab.async false
set_option maxRecDepth 100000
set_option maxHeartbeats 2000000
set_option compiler.extract_closed false
namespace Mine
local macro_rules | `(tactic| walk_at $s:str) => `(tactic| k_extra $s)
theorem fillP12 : r = r ∧ K = K := by k_fill; exact ⟨rfl, rfl⟩
section
set_option maxHeartbeats 8000000
theorem c_draw (w : World) (rest : Led) (wa ca : Addr) (o : Obj) (k : Int) (tz : Tok) (hw : Well ca o) (hn : NoW wa rest) (hc : CellsIn rest ca) (kp : 0 < k) (kq : k ≤ 1000000) :
    Ctr w 179 [.ref wa, .int k tz] ((wa, o) :: rest) 1 8 (fun r n => ∃ (j : Nat) (t : Tok) (o' : Obj), r = .int (j : Int) t ∧ (j : Int) < k ∧ Well ca o' ∧ n = (wa, o') :: rest) False := by
  obtain ⟨cvs, cns, nc, hcm, hcI, hcl, hcb⟩ := hc
  obtain ⟨sp, t1, sd, t2, n, rfl, h0, h1, h2⟩ := hw
  intro loose mean mg mb dp un gd cn cs a ccd cl outer A₀ base h₀ L m s Q E B F X N T hk hd hu hret herr
  k_with_none
  refine wpAny_call ?_
  k_dflt (refine' code_def ?k1 ?k2 ?k3 ?k4 ?k5 ?kA ?kF ?kK ?k6 ?k7 ?k8 ?k9 ?kB ?_ ?c2 ?c3 ?c4 ?c5; (case kA => exact rfl); (case kF => exact rfl); (case kK => assumption); (case k1 => k_asm); (case k2 => k_asm); (case k3 => k_asm); (case k4 => k_asm); (case k5 => k_asm); (case k6 => k_is); (case k7 => k_is); (case k8 => ktr_room); (case k9 => exact BindsTo.of_eq rfl); (case c5 => decide); (case kB => exact locs rfl); (case c2 => exact rfl); (case c3 => exact rfl); (case c4 => exact rfl); k_whole)
  intro g1 L1 h1 FG F1 N1 B1 X1 T1
  replace F1 : Fr g1 L1 h1 (fun y9 => List.lookup y9 [(("size" : Str), .int k tz), (("well" : Str), .ref wa)]) := F1
  clear F N
  dsimp only
  k_unmd
  k_fold
  have hbig : (2 : Int) ^ 63 = 9223372036854775808 := by decide
  k_with "call builtin:len" => (k_here; k_dflt (refine' PyProof.Rows.len_list (News.isList ?N ?m) ?f ?_; (case N => k_asm); (case m => exact .tail _ (.tail _ hcm)); (case f => (rw [List.size_toArray, hcI.length]; omega))); rw [List.size_toArray, hcI.length])
  k_with "subscriptTail" => (k_here; (with_reducible show wpAny _ _ (subscriptTail _ _ _ (Value.int sp t1)) _ _ _); k_dflt (refine' item_list_ints (News.isList ?N ?m) hcI h0 ?f ?g ?_ ?hs ?hg; (case N => k_asm); (case m => exact .tail _ (.tail _ hcm)); (case f => omega); (case g => omega); rotate_left; (with_unfolding_all exact rfl); (intro _; with_unfolding_all exact rfl)); intro t9)
  k_with "setItem ref int" => (k_here; (try dsimp only); first | ((with_reducible show wpAny _ _ (PySem.setItem (Value.ref _) (Value.int 1 _) (Value.int _ _)) _ _ _); k_dflt (refine' wellSet1 ?F ?N hn ?_; (case F => k_asm); (case N => k_asm)); intro h' F' N'; k_sweep) | ((with_reducible show wpAny _ _ (PySem.setItem (Value.ref _) (Value.int 2 _) (Value.int _ _)) _ _ _); k_dflt (refine' wellSet2 ?F ?N hn ?_; (case F => k_asm); (case N => k_asm)); intro h' F' N'; k_sweep))
  k_with "exec Assign cons IfExp" => ((fail_if_success (with_reducible show wpAny _ _ _ (fun _ _ => Cut _) _ _)); refine Stop.out ?_)
  k_steps
  refine Stop.in ?_
  refine wpAny_mono (Q := fun f s' => Cut (f = .next ∧ ∃ (h' : Heap) (tt : Nat) (c : Int) (tc : Tok), s' = { s with heap := h', toks := tt } ∧ 0 ≤ c ∧ c < 2147483647 ∧ Fr g1 L1 h' (fun q => if q = ("cell" : Str) then some (Value.int c tc) else if q = ("cells" : Str) then some (.ref ca) else if q = ("spot" : Str) then some (.int sp t1) else List.lookup q [(("size" : Str), Value.int k tz), (("well" : Str), Value.ref wa)]) ∧ News g1 L1 h' ((wa, wellO ca sp t1 sd t2 n) :: rest))) ?one ?nx (fun _ _ e => e)
  case one =>
    k_steps
    · (rename sp < _ => hlt); (rename Fr g1 _ _ _ => F6); (rename News g1 _ _ _ => N6)
      have hm : cns.getD sp.toNat 0 ∈ cns := List.mem_of_getElem? (ints_getD h0 hlt)
      dsimp only
      exact ⟨by trivial, _, _, _, _, rfl, (hcb _ hm).1, (hcb _ hm).2, F6, fun q hq => N6 q (.tail _ hq)⟩
    · (rename Fr g1 _ _ _ => F6); (rename News g1 _ _ _ => N6)
      dsimp only
      exact ⟨by trivial, _, _, _, _, rfl, (by rw [Int.fdiv_eq_ediv_of_nonneg _ (by decide)]; omega), (by rw [Int.fdiv_eq_ediv_of_nonneg _ (by decide)]; omega), F6, fun q hq => N6 q (.tail _ hq)⟩
  case nx =>
    (rename Fr g1 _ _ _ => Fo); (rename News g1 _ _ _ => No); clear Fo No
    repeat (rename News g1 _ _ _ => N2; clear N2)
    repeat (rename Fr g1 _ _ _ => F2; clear F2)
    rintro f s' ⟨rfl, h5, tk5, c, tc, rfl, hc0, hc1, F5, N5⟩
    k_steps
    (rename News h₀ _ _ _ => NN); (rename Fr h₀ _ _ _ => FF)
    refine hret _ _ _ _ ?_ FF NN
    have e : ((c.fmod k).toNat : Int) = c.fmod k := Int.toNat_of_nonneg (Int.fmod_nonneg_of_pos _ kp)
    exact ⟨(c.fmod k).toNat, _, _, by rw [e], by rw [e]; exact Int.fmod_lt_of_pos _ kp, ⟨_, _, _, _, _, rfl, by omega, Int.fmod_nonneg_of_pos _ (by decide), Int.fmod_lt_of_pos _ (by decide)⟩, rfl⟩
theorem ck_draw (w : World) (rest : Led) (wa ca : Addr) (o : Obj) (k : Int) (tz : Tok) (hw : Well ca o) (hn : NoW wa rest) (hc : CellsIn rest ca) (kp : 0 < k) (kq : k ≤ 1000000) :
    Ctr w 179 [.ref wa, .int k tz] ((wa, o) :: rest) 1 8 (KOk fun Z9 => ∀ (j : Nat) (t : Tok) (o' : Obj), (j : Int) < k → Well ca o' → Z9 (.int (j : Int) t) ((wa, o') :: rest)) False :=
  (c_draw w rest wa ca o k tz hw hn hc kp kq).mono fun _ _ h Z9 hk => by
    obtain ⟨j, t, o', rfl, h1, h2, rfl⟩ := h
    exact hk j t o' h1 h2
end

end Mine
set_option Elab.async false
set_option maxRecDepth 100000
set_option maxHeartbeats 2000000
set_option compiler.extract_closed false
namespace Mine
local macro_rules | `(tactic| walk_at $s:str) => `(tactic| k_extra $s)
theorem fillP13 : r = r ∧ K = K := by k_fill; exact ⟨rfl, rfl⟩
theorem getTup {l : List Value} {j : Int} (h0 : 0 ≤ j) (h1 : j < l.length) : ∃ v, v ∈ l ∧ seqIndex? j l.length = some j.toNat ∧ l[j.toNat]? = some v := by
  have hj : j.toNat < l.length := by omega
  refine ⟨l[j.toNat], List.getElem_mem hj, ?_, List.getElem?_eq_getElem hj⟩
  unfold PySem.seqIndex?
  have e : (decide ((0 : Int) ≤ j) && decide (j < (l.length : Int))) = true := by rw [Bool.and_eq_true]; exact ⟨decide_eq_true h0, decide_eq_true h1⟩
  simp only [if_neg (show ¬ (j < 0) by omega), e, if_true]
theorem memStr {vs : List Value} {xs : List Str} (h : StrsAre vs xs) : ∀ {v : Value}, v ∈ vs → ∃ x u, v = .str x u ∧ x ∈ xs := by
  induction h with
  | nil => intro v e; simp at e
  | cons y t _ ih =>
    intro v e
    rcases List.mem_cons.mp e with rfl | e
    · exact ⟨y, t, rfl, .head _⟩
    · obtain ⟨x, u, e1, e2⟩ := ih e
      exact ⟨x, u, e1, .tail _ e2⟩
section
set_option maxHeartbeats 8000000
theorem c_pick (w : World) (rest : Led) (wa ca : Addr) (o : Obj) (ta : Addr) (vs : List Value) (hw : Well ca o) (hn : NoW wa rest) (hc : CellsIn rest ca) (ht : TupIn w rest ta vs) (l0 : 0 < vs.length) (l1 : vs.length ≤ 1000) :
    Ctr w 186 [.ref wa, .ref ta] ((wa, o) :: rest) 2 12 (fun r n => ∃ v o', r = v ∧ v ∈ vs ∧ Well ca o' ∧ n = (wa, o') :: rest) False := by
  intro loose mean mg mb dp un gd cn cs a ccd cl outer A₀ base h₀ L m s Q E B F X N T hk hd hu hret herr
  k_with_none
  refine wpAny_call ?_
  k_dflt (refine' code_def ?k1 ?k2 ?k3 ?k4 ?k5 ?kA ?kF ?kK ?k6 ?k7 ?k8 ?k9 ?kB ?_ ?c2 ?c3 ?c4 ?c5; (case kA => exact rfl); (case kF => exact rfl); (case kK => assumption); (case k1 => k_asm); (case k2 => k_asm); (case k3 => k_asm); (case k4 => k_asm); (case k5 => k_asm); (case k6 => k_is); (case k7 => k_is); (case k8 => ktr_room); (case k9 => exact BindsTo.of_eq rfl); (case c5 => decide); (case kB => exact locs rfl); (case c2 => exact rfl); (case c3 => exact rfl); (case c4 => exact rfl); k_whole)
  intro g1 L1 h1 FG F1 N1 B1 X1 T1
  replace F1 : Fr g1 L1 h1 (fun y9 => List.lookup y9 [(("menu" : Str), .ref ta), (("well" : Str), .ref wa)]) := F1
  clear F N
  dsimp only
  k_unmd
  k_fold
  have hbig : (2 : Int) ^ 63 = 9223372036854775808 := by decide
  k_with "call ref" => (k_here; k_dflt (refine' Ctr.useK (ck_draw _ _ _ _ _ _ _  ?hw ?hn ?hc  ?kp ?kq) ?B ?F ?X (Pull.news ?P ?N) ?T ?hk ?hd ?hu ?_ (fun f => f.elim); (case B => k_asm); (case F => k_asm); (case X => k_asm); (case N => k_asm); (case T => k_asm); (case hk => first | exact rfl | assumption); (case hd => ktr_room); (case hu => ktr_units); (case P => repeat (first | exact Pull.head | apply Pull.tail)); (case hw => assumption); (case hn => repeat (first | assumption | exact NoW.nil | exact NoW.off (by assumption) (.head _) | refine NoW.append ?_ ?_ | refine NoW.cons (by first | exact rfl | assumption | exact isW_strs (by assumption) rfl) ?_)); (case hc => repeat (first | assumption | refine CellsIn.left ?_ | refine CellsIn.cons ?_)); (case kp => (simp only [List.size_toArray]; omega)); (case kq => (simp only [List.size_toArray]; omega))); intro j9 t9 o9 hj1 hw9 h9 tk9 F9 N9; (try dsimp only); (try k_sweep))
  k_with "call builtin:len" => (k_here; k_dflt (refine' PyProof.Rows.len_tuple (TupIn.at ht ?X ?F ?N) ?f ?_; (case X => k_asm); (case F => k_asm); (case N => k_asm); (case f => (rw [List.size_toArray]; omega))))
  k_with "subscriptTail" => (k_here; (obtain ⟨v9, hv9, hj9, hx9⟩ := getTup (Int.natCast_nonneg j9) (by simpa using hj1)); k_dflt (refine' PyProof.Rows.item_tuple (TupIn.at ht ?X ?F ?N) ?a ?b ?c ?d ?_ ?hs ?hg; (case X => k_asm); (case F => k_asm); (case N => k_asm); (case a => omega); (case b => (simp only [List.size_toArray] at hj1; omega)); (case c => simpa using hj9); (case d => simpa using hx9); rotate_left; (with_unfolding_all exact rfl); (intro _; with_unfolding_all exact rfl)))
  k_steps
  (rename News h₀ _ _ _ => NN); (rename Fr h₀ _ _ _ => FF); refine hret _ _ _ _ ?_ FF NN; exact ⟨_, _, rfl, hv9, hw9, rfl⟩
theorem ck_pick (w : World) (rest : Led) (wa ca : Addr) (o : Obj) (ta : Addr) (vs : List Value) (hw : Well ca o) (hn : NoW wa rest) (hc : CellsIn rest ca) (ht : TupIn w rest ta vs) (l0 : 0 < vs.length) (l1 : vs.length ≤ 1000) :
    Ctr w 186 [.ref wa, .ref ta] ((wa, o) :: rest) 2 12 (KOk fun Z9 => ∀ v o', v ∈ vs → Well ca o' → Z9 v ((wa, o') :: rest)) False :=
  (c_pick w rest wa ca o ta vs hw hn hc ht l0 l1).mono fun _ _ h Z9 hk => by
    obtain ⟨v, o', rfl, h1, h2, rfl⟩ := h
    exact hk _ o' h1 h2
theorem c_pickL (w : World) (rest : Led) (wa ca : Addr) (o : Obj) (la : Addr) (vs : List Value) (kk : Nat) (hw : Well ca o) (hn : NoW wa rest) (hc : CellsIn rest ca) (ht : (la, W.listOf (List.toArray vs) kk) ∈ rest) (l0 : 0 < vs.length) (l1 : vs.length ≤ 1000) :
    Ctr w 186 [.ref wa, .ref la] ((wa, o) :: rest) 2 12 (fun r n => ∃ v o', r = v ∧ v ∈ vs ∧ Well ca o' ∧ n = (wa, o') :: rest) False := by
  intro loose mean mg mb dp un gd cn cs a ccd cl outer A₀ base h₀ L m s Q E B F X N T hk hd hu hret herr
  k_with_none
  refine wpAny_call ?_
  k_dflt (refine' code_def ?k1 ?k2 ?k3 ?k4 ?k5 ?kA ?kF ?kK ?k6 ?k7 ?k8 ?k9 ?kB ?_ ?c2 ?c3 ?c4 ?c5; (case kA => exact rfl); (case kF => exact rfl); (case kK => assumption); (case k1 => k_asm); (case k2 => k_asm); (case k3 => k_asm); (case k4 => k_asm); (case k5 => k_asm); (case k6 => k_is); (case k7 => k_is); (case k8 => ktr_room); (case k9 => exact BindsTo.of_eq rfl); (case c5 => decide); (case kB => exact locs rfl); (case c2 => exact rfl); (case c3 => exact rfl); (case c4 => exact rfl); k_whole)
  intro g1 L1 h1 FG F1 N1 B1 X1 T1
  replace F1 : Fr g1 L1 h1 (fun y9 => List.lookup y9 [(("menu" : Str), .ref la), (("well" : Str), .ref wa)]) := F1
  clear F N
  dsimp only
  k_unmd
  k_fold
  have hbig : (2 : Int) ^ 63 = 9223372036854775808 := by decide
  k_with "call ref" => (k_here; k_dflt (refine' Ctr.useK (ck_draw _ _ _ _ _ _ _  ?hw ?hn ?hc  ?kp ?kq) ?B ?F ?X (Pull.news ?P ?N) ?T ?hk ?hd ?hu ?_ (fun f => f.elim); (case B => k_asm); (case F => k_asm); (case X => k_asm); (case N => k_asm); (case T => k_asm); (case hk => first | exact rfl | assumption); (case hd => ktr_room); (case hu => ktr_units); (case P => repeat (first | exact Pull.head | apply Pull.tail)); (case hw => assumption); (case hn => repeat (first | assumption | exact NoW.nil | exact NoW.off (by assumption) (.head _) | refine NoW.append ?_ ?_ | refine NoW.cons (by first | exact rfl | assumption | exact isW_strs (by assumption) rfl) ?_)); (case hc => repeat (first | assumption | refine CellsIn.left ?_ | refine CellsIn.cons ?_)); (case kp => (simp only [List.size_toArray]; omega)); (case kq => (simp only [List.size_toArray]; omega))); intro j9 t9 o9 hj1 hw9 h9 tk9 F9 N9; (try dsimp only); (try k_sweep))
  k_with "call builtin:len" => (k_here; k_dflt (refine' PyProof.Rows.len_list (News.isList ?N ?m) ?f ?_; (case N => k_asm); (case m => exact .tail _ ht); (case f => (rw [List.size_toArray]; omega))))
  k_with "subscriptTail" => (k_here; (obtain ⟨v9, hv9, hj9, hx9⟩ := getTup (Int.natCast_nonneg j9) (by simpa using hj1)); k_dflt (refine' PyProof.Rows.item_list (News.isList ?N ?m) (Int.natCast_nonneg j9) ?b ?d ?_ ?hs ?hg; (case N => k_asm); (case m => exact .tail _ ht); (case b => (simp only [List.size_toArray] at hj1; omega)); (case d => simpa using hx9); rotate_left; (with_unfolding_all exact rfl); (intro _; with_unfolding_all exact rfl)))
  k_steps
  (rename News h₀ _ _ _ => NN); (rename Fr h₀ _ _ _ => FF); refine hret _ _ _ _ ?_ FF NN; exact ⟨_, _, rfl, hv9, hw9, rfl⟩
theorem c_pickS (w : World) (rest : Led) (wa ca : Addr) (o : Obj) (y : Str) (ty : Tok) (hw : Well ca o) (hn : NoW wa rest) (hc : CellsIn rest ca) (l0 : 0 < y.length) (l1 : y.length ≤ 1000) :
    Ctr w 186 [.ref wa, .str y ty] ((wa, o) :: rest) 2 12 (fun r n => ∃ (j : Nat) (t : Tok) (o' : Obj), r = .str (Txt.item y j) t ∧ j < y.length ∧ Well ca o' ∧ n = (wa, o') :: rest) False := by
  intro loose mean mg mb dp un gd cn cs a ccd cl outer A₀ base h₀ L m s Q E B F X N T hk hd hu hret herr
  k_with_none
  refine wpAny_call ?_
  k_dflt (refine' code_def ?k1 ?k2 ?k3 ?k4 ?k5 ?kA ?kF ?kK ?k6 ?k7 ?k8 ?k9 ?kB ?_ ?c2 ?c3 ?c4 ?c5; (case kA => exact rfl); (case kF => exact rfl); (case kK => assumption); (case k1 => k_asm); (case k2 => k_asm); (case k3 => k_asm); (case k4 => k_asm); (case k5 => k_asm); (case k6 => k_is); (case k7 => k_is); (case k8 => ktr_room); (case k9 => exact BindsTo.of_eq rfl); (case c5 => decide); (case kB => exact locs rfl); (case c2 => exact rfl); (case c3 => exact rfl); (case c4 => exact rfl); k_whole)
  intro g1 L1 h1 FG F1 N1 B1 X1 T1
  replace F1 : Fr g1 L1 h1 (fun y9 => List.lookup y9 [(("menu" : Str), .str y ty), (("well" : Str), .ref wa)]) := F1
  clear F N
  dsimp only
  k_unmd
  k_fold
  k_with "call ref" => (k_here; k_dflt (refine' Ctr.useK (ck_draw _ _ _ _ _ _ _  ?hw ?hn ?hc  ?kp ?kq) ?B ?F ?X (Pull.news ?P ?N) ?T ?hk ?hd ?hu ?_ (fun f => f.elim); (case B => k_asm); (case F => k_asm); (case X => k_asm); (case N => k_asm); (case T => k_asm); (case hk => first | exact rfl | assumption); (case hd => ktr_room); (case hu => ktr_units); (case P => repeat (first | exact Pull.head | apply Pull.tail)); (case hw => assumption); (case hn => repeat (first | assumption | exact NoW.nil | exact NoW.off (by assumption) (.head _) | refine NoW.append ?_ ?_ | refine NoW.cons (by first | exact rfl | assumption | exact isW_strs (by assumption) rfl) ?_)); (case hc => repeat (first | assumption | refine CellsIn.left ?_ | refine CellsIn.cons ?_)); (case kp => omega); (case kq => omega)); intro j9 t9 o9 hj1 hw9 h9 tk9 F9 N9; (try dsimp only); (try k_sweep))
  k_with "subscriptTail" => (k_here; refine item_str (fitsSsize_of (N := 9223372036854775808) (by omega) (by omega) (Int.le_refl _)) (by omega) (by omega) ?_; intro _)
  k_steps
  (rename News h₀ _ _ _ => NN); (rename Fr h₀ _ _ _ => FF); refine hret _ _ _ _ ?_ FF NN; exact ⟨j9, _, _, rfl, by omega, hw9, rfl⟩
noncomputable def blanks : List Str := [Str.ofString "", Str.ofString " ", Str.ofString "  ", Str.ofString "\t"]
theorem c_blanks (w : World) (rest : Led) (wa ca : Addr) (o : Obj) (hw : Well ca o) (hn : NoW wa rest) (hc : CellsIn rest ca) :
    Ctr w 193 [.ref wa] ((wa, o) :: rest) 3 16 (fun r n => ∃ b t o', r = .str b t ∧ b ∈ blanks ∧ Well ca o' ∧ n = (wa, o') :: rest) False := by
  intro loose mean mg mb dp un gd cn cs a ccd cl outer A₀ base h₀ L m s Q E B F X N T hk hd hu hret herr
  k_with_none
  refine wpAny_call ?_
  k_dflt (refine' code_def ?k1 ?k2 ?k3 ?k4 ?k5 ?kA ?kF ?kK ?k6 ?k7 ?k8 ?k9 ?kB ?_ ?c2 ?c3 ?c4 ?c5; (case kA => exact rfl); (case kF => exact rfl); (case kK => assumption); (case k1 => k_asm); (case k2 => k_asm); (case k3 => k_asm); (case k4 => k_asm); (case k5 => k_asm); (case k6 => k_is); (case k7 => k_is); (case k8 => ktr_room); (case k9 => exact BindsTo.of_eq rfl); (case c5 => decide); (case kB => exact locs rfl); (case c2 => exact rfl); (case c3 => exact rfl); (case c4 => exact rfl); k_whole)
  intro g1 L1 h1 FG F1 N1 B1 X1 T1
  replace F1 : Fr g1 L1 h1 (fun y9 => List.lookup y9 [(("well" : Str), .ref wa)]) := F1
  clear F N
  dsimp only
  k_unmd
  k_fold
  k_with "call ref" => (k_here; k_dflt (refine' Ctr.useK (ck_pick _ _ _ _ _ ?ta ?vs  ?hw ?hn ?hc  ?ht ?l0 ?l1) ?B ?F ?X (Pull.news ?P ?N) ?T ?hk ?hd ?hu ?_ (fun f => f.elim); (case B => k_asm); (case F => k_asm); (case X => k_asm); (case N => k_asm); (case T => k_asm); (case hk => first | exact rfl | assumption); (case hd => ktr_room); (case hu => ktr_units); (case P => repeat (first | exact Pull.head | apply Pull.tail)); (case hw => assumption); (case hn => repeat (first | assumption | exact NoW.nil | exact NoW.off (by assumption) (.head _) | refine NoW.append ?_ ?_ | refine NoW.cons (by first | exact rfl | assumption | exact isW_strs (by assumption) rfl) ?_)); (case hc => repeat (first | assumption | refine CellsIn.left ?_ | refine CellsIn.cons ?_)); (case ht => exact .inl (by k_mem)); (case l0 => exact Nat.succ_pos _); (case l1 => exact Nat.le_of_ble_eq_true rfl)); intro v9 o9 hv9 hw9 h9 tk9 F9 N9; (try dsimp only); (try k_sweep))
  k_steps
  obtain ⟨b, u, rfl, hb⟩ := memStr (xs := blanks) (.cons _ _ (.cons _ _ (.cons _ _ (.cons _ _ .nil)))) hv9
  (rename News h₀ _ _ _ => NN); (rename Fr h₀ _ _ _ => FF)
  exact hret _ _ _ _ ⟨_, _, _, rfl, hb, hw9, rfl⟩ FF (newsDrop2 NN)
end

end Mine
set_option Elab.async false
set_option maxRecDepth 100000
set_option maxHeartbeats 2000000
set_option compiler.extract_closed false
namespace Mine
noncomputable abbrev fsOf (outer : List Env) : List Addr := outer.filterMap (·.frame)
theorem upTurn {fs : List Addr} {g g' h : Heap} (T : KtsTurn fs g g') (k : ∀ b o, g'.get? b = some o → h.get? b = some o) : g.UpToSlots h := fun b o e _ => by
  obtain ⟨sl, hs⟩ := T.up e
  exact ⟨sl, k _ _ hs⟩
theorem fsMem {env : Env} {outer : List Env} {L b : Addr} (hf : env.frame = some L) (hm : b ∈ fsOf (env :: outer)) : b = L ∨ b ∈ fsOf outer := by
  obtain ⟨e, he, hb⟩ := List.mem_filterMap.mp hm
  rcases List.mem_cons.mp he with rfl | he
  · exact .inl (Option.some.inj (hf.symm.trans hb)).symm
  · exact .inr (List.mem_filterMap.mpr ⟨e, he, hb⟩)
/-- behind a def in which a fault was caught: the caller's heap, its frames' slots turned -/
theorem turnBack {A₀ : Around} {base h₀ g g' h : Heap} {env : Env} {outer : List Env} {L L' : Addr} {m m' : Str → Option Value} {news : Led} (B : Below A₀ base outer h₀) (FG : Fr h₀ L g m) (D : KtsDicts (fsOf outer) h₀)
    (T : KtsTurn (fsOf (env :: outer)) g g') (hf : env.frame = some L) (F : Fr g' L' h m') (N : News g' L' h news) :
    ∃ h₀', KtsTurn (fsOf outer) h₀ h₀' ∧ Fr h₀' L h m ∧ News h₀' L h news ∧ Below A₀ base outer h₀' ∧ KtsDicts (fsOf outer) h₀' := by
  have none_ : h₀.get? L = none := kts_self FG
  obtain ⟨T₁, S₁⟩ := kts_turn_at (h := h) (fs := fsOf outer) (g := h₀) (fun b hb => (B.frames.mem hb).2.imp fun o ho => ho.1)
    (fun b o e nb => F.keep b o (T.other b o (FG.keep b o e) fun hm => (fsMem hf hm).elim (fun z => by rw [z, none_] at e; cases e) nb))
    (fun b o e _ => by
      obtain ⟨sl, hs⟩ := T.up (FG.keep b o e)
      exact ⟨sl, F.keep _ _ hs⟩)
  refine ⟨_, T₁, ⟨(upTurn T F.keep).ns FG.ns, S₁, by rw [T₁.size]; exact Nat.le_trans FG.above (Nat.le_refl _)⟩, fun q hq => ⟨(N q hq).1, fun z => ?_, T₁.none_ _ ?_⟩, ⟨B.stack, fun b o e => T₁.other b o (B.stays b o e) fun hm => ?_, B.frames.of_keeps fun b o e _ => ?_⟩, D.turn T₁⟩
  · obtain ⟨oL, _, _, ho, _⟩ := FG.ns
    obtain ⟨sl, hs⟩ := T.up ho
    have := (N q hq).2.2
    rw [z, hs] at this
    cases this
  · cases e : h₀.get? q.1 with
    | none => rfl
    | some o =>
      obtain ⟨sl, hs⟩ := T.up (FG.keep _ _ e)
      have := (N q hq).2.2
      rw [hs] at this
      cases this
  · rw [(B.frames.mem hm).1] at e
    cases e
  · obtain ⟨sl, hs⟩ := T₁.up e
    exact ⟨_, hs, rfl⟩
/-- the end of a def in which a fault may have been caught -/
noncomputable def LeaveT (A₀ : Around) (base : Heap) (env : Env) (outer : List Env) (h₀ : Heap) (L : Addr) (m : Str → Option Value) (g : Heap) (R : Result → Shared → Prop) (v : Value) (s' : Shared) : Prop :=
  ∃ g' L' m' news', KtsTurn (fsOf (env :: outer)) g g' ∧ Fr g' L' s'.heap m' ∧ News g' L' s'.heap news' ∧
    (∀ h₀', KtsTurn (fsOf outer) h₀ h₀' → Fr h₀' L s'.heap m → News h₀' L s'.heap news' → Below A₀ base outer h₀' → KtsDicts (fsOf outer) h₀' → R (.ok (.ret v)) s')
theorem dictsIn {env : Env} {outer : List Env} {h₀ g : Heap} {L : Addr} {m : Str → Option Value} (D : KtsDicts (fsOf outer) h₀) (F : Fr h₀ L g m) (hf : env.frame = some L) : KtsDicts (fsOf (env :: outer)) g := fun b hb => by
  rcases fsMem hf hb with rfl | hb
  · obtain ⟨o, es, n, ho, hd, _⟩ := F.ns
    exact ⟨o, es, n, ho, hd⟩
  · obtain ⟨o, es, n, ho, hd⟩ := D b hb
    exact ⟨o, es, n, F.keep _ _ ho, hd⟩
section
variable {prog : Program} {w : World} {A₀ A : Around} {s : Shared} {base h₀ : Heap} {outer : List Env} {L : Addr} {m : Str → Option Value} {env : Env} {news : Led} {Kf : Frag} {p : Program} {loose : List Str} {mean : ExcName → Option Value} {mg mb : Str → Option Value}
  {R : Result → Shared → Prop} {name qual : Str} {params : Arguments} {body : List Stmt} {scope : Scope} {dV kV doc pm cdv ct oc : Value} {an od : Option Addr} {osl : Array (Option Value)} {f : Addr} {args : Args} {binds : List (Str × Value)}
theorem enterT (B : Below A₀ base outer h₀) (F : Fr h₀ L s.heap m) (XB : Kf.In base) (N : News h₀ L s.heap news) (TB : Top p loose mean mg mb base) (D : KtsDicts (fsOf outer) h₀) (hA : A.frames = some (env :: outer)) (hf : env.frame = some L) (hke : env.scope.kind = .function)
    (ho : Kf.lookup f = some ⟨oc, od, .func (fnOf name qual params body scope dV kV doc pm an cdv ct), osl⟩) (hcd : codeIn Kf cdv qual = true) (hroom : A.depth < recursionLimit)
    (hbind : BindsTo s (fnOf name qual params body scope dV kV doc pm an cdv ct) args binds) (hloc : ∀ y ∈ binds, scope.names.lookup y.1 = some .local)
    (h : ∀ g L' h₁, Fr g L' h₁ (fun y => binds.reverse.lookup y) → News g L' h₁ news → Below A base (env :: outer) g → Kf.In g → Top p loose mean mg mb g → KtsDicts (fsOf (env :: outer)) g →
      wpAny (model prog w) (A.deeper (envOf qual scope L' f cdv)) (execs body (envOf qual scope L' f cdv))
        (fun fl s' => LeaveT A₀ base env outer h₀ L m g R (match fl with | .ret v => v | _ => .none) s')
        (fun e s' => wpAny (model prog w) (A.deeper (envOf qual scope L' f cdv)) (leaving (envOf qual scope L' f cdv) e) (fun _ s'' => R (.error e) s'') (fun e' s'' => R (.error e') s'') s')
        { s with heap := h₁, toks := s.toks + binds.length })
    (hco : scope.isCoroutine = false) (hgen : scope.isGenerator = false) (hk : scope.kind = .function) (hcell : ∀ x ∈ scope.names, x.2 ≠ .cell) : codeAny (model prog w) A (.call (.ref f) args) R s := by
  obtain ⟨FG, BG, st, -⟩ := groundX (R := R) B F N hA hf hke
  have X : Kf.In s.heap := (XB.keeps B.stays).keeps F.keep
  refine codeAny_call_def (fd := fnOf name qual params body scope dV kV doc pm an cdv ct) (body := body) (binds := binds) hroom (X _ _ ho) rfl ((TB.nolimit.keeps B.stays).keeps F.keep) (codeRec_of X hcd) rfl hbind hcell hloc (fun h₁ hns hk₁ => ?_) hco hgen hk
  refine wpAny_mono (h _ s.heap.objs.size h₁ ⟨hns, fun b o e => hk₁ b o (of_hideAll _ e), Nat.le_of_eq (hideAll_size _ _)⟩
    (fun q hq => ⟨hk₁ _ _ (N q hq).1, Nat.ne_of_lt (Heap.lt_size (N q hq).1), hideAll_none _ (List.mem_map_of_mem hq)⟩) BG (XB.keeps BG.stays) (TB.keeps BG.stays) (dictsIn D FG hf)) (fun fl s' hl => ?_) fun _ _ y => y
  obtain ⟨g', L', m', news', T', F', N', k⟩ := hl
  obtain ⟨h₀', a, b, c, d, e⟩ := turnBack B FG D T' hf F' N'
  exact k h₀' a b c d e
theorem enterTC (B : Below A₀ base outer h₀) (F : Fr h₀ L s.heap m) (XB : Kf.In base) (N : News h₀ L s.heap news) (TB : Top p loose mean mg mb base) (D : KtsDicts (fsOf outer) h₀) (hA : A.frames = some (env :: outer)) (hf : env.frame = some L) (hke : env.scope.kind = .function)
    (ho : Kf.lookup f = some ⟨oc, od, .func (fnOf name qual params body scope dV kV doc pm an cdv ct), osl⟩) (hcd : codeIn Kf cdv qual = true) (hroom : A.depth < recursionLimit)
    (hbind : BindsTo s (fnOf name qual params body scope dV kV doc pm an cdv ct) args binds) (hkind : (binds.all fun y => scope.names.lookup y.1 == some .local || scope.names.lookup y.1 == some .cell) = true)
    (hnd : ((cellsFrom 0 scope.names []).map (·.1)).Nodup)
    (h : ∀ g L' h₁ tk cells, Fr g L' h₁ (bindL (envOfC qual scope L' f cdv).kindOf binds fun _ => none) → News g L' h₁ (cells ++ news) →
      CellsAre (bindC (envOfC qual scope L' f cdv).kindOf binds fun _ => none) (cellsFrom (L' + 1) scope.names []) cells → Below A base (env :: outer) g → Kf.In g → Top p loose mean mg mb g → KtsDicts (fsOf (env :: outer)) g → (∀ q ∈ news, q.1 < L') →
      wpAny (model prog w) (A.deeper (envOfC qual scope L' f cdv)) (execs body (envOfC qual scope L' f cdv))
        (fun fl s' => LeaveT A₀ base env outer h₀ L m g R (match fl with | .ret v => v | _ => .none) s')
        (fun e s' => wpAny (model prog w) (A.deeper (envOfC qual scope L' f cdv)) (leaving (envOfC qual scope L' f cdv) e) (fun _ s'' => R (.error e) s'') (fun e' s'' => R (.error e') s'') s')
        { s with heap := h₁, toks := tk })
    (hco : scope.isCoroutine = false) (hgen : scope.isGenerator = false) (hk : scope.kind = .function) : codeAny (model prog w) A (.call (.ref f) args) R s := by
  obtain ⟨FG, BG, st, -⟩ := groundX (R := R) B F N hA hf hke
  have X : Kf.In s.heap := (XB.keeps B.stays).keeps F.keep
  refine codeAny_call_function hroom (X _ _ ho) rfl hco hgen rfl (codeRec_of X hcd) (hbind _ _ _ _ ?_)
  refine wpAny_newFunctionEnv_cells hk (kindsX hkind _) fun env' he s' x => ?_
  subst he
  refine ⟨((TB.nolimit.keeps B.stays).keeps F.keep).keeps x.toInCall.keep, codeAny_func ?_⟩
  obtain ⟨h₁, tk, rfl, _⟩ := x.done
  have up := x.toInCall.keep
  obtain ⟨cells, NC, Y⟩ := Cl.news (h₀ := s.heap) (Nat.le_refl _) fun n c hm => ⟨x.cell n c (lookup_of_mem_nodup (cellsFrom_names scope.names 0 (s.heap.objs.size + 1) [] [] rfl ▸ hnd) hm), x.above n c hm⟩
  refine wpAny_mono (h _ s.heap.objs.size h₁ tk cells ⟨x.toInCall.ns, fun b o e => up b o (of_hideAll _ e), Nat.le_of_eq (hideAll_size _ _)⟩ (fun q hq => ?_) Y BG (XB.keeps BG.stays) (TB.keeps BG.stays) (dictsIn D FG hf) (fun q hq => Heap.lt_size (N q hq).1)) (fun fl s' hl => ?_) fun _ _ y => y
  · rcases List.mem_append.mp hq with hq | hq
    · refine ⟨(NC q hq).1, (NC q hq).2.1, ?_⟩
      cases e : (hideAll s.heap (news.map (·.1))).get? q.1 with
      | none => rfl
      | some o => have := of_hideAll _ e; rw [(NC q hq).2.2] at this; cases this
    · exact ⟨up _ _ (N q hq).1, Nat.ne_of_lt (Heap.lt_size (N q hq).1), hideAll_none _ (List.mem_map_of_mem hq)⟩
  · obtain ⟨g', L', m', news', T', F', N', k⟩ := hl
    obtain ⟨h₀', a, b, c, d, e⟩ := turnBack B FG D T' hf F' N'
    exact k h₀' a b c d e
end
end Mine
set_option Elab.async false
set_option maxRecDepth 100000
set_option maxHeartbeats 2000000
set_option compiler.extract_closed false
namespace Mine
local macro_rules | `(tactic| walk_at $s:str) => `(tactic| k_extra $s)
theorem fillP14 : r = r ∧ K = K := by k_fill; exact ⟨rfl, rfl⟩
noncomputable abbrev RetT (A₀ : Around) (base : Heap) (outer : List Env) (h₀ : Heap) (L : Addr) (m : Str → Option Value) (s : Shared) (Q : Value → Shared → Prop) (Ok : Value → Led → Prop) : Prop :=
  ∀ (r : Value) (news' : Led) (h₀' h' : Heap) (tk' : Nat), Ok r news' → KtsTurn (fsOf outer) h₀ h₀' → Fr h₀' L h' m → News h₀' L h' news' → Below A₀ base outer h₀' → KtsDicts (fsOf outer) h₀' → Q r { s with heap := h', toks := tk' }
/-- a contract of a def that may catch a fault: the caller's heap may come back turned -/
noncomputable def CtrS (w : World) (f : Addr) (vs : List Value) (news : Led) (dD dU : Nat) (Ok : Value → Led → Prop) : Prop :=
  ∀ (loose : List Str) (mean : ExcName → Option Value) (mg mb : Str → Option Value) (dp un : Nat) (gd : Option (List Code)) (cn : Str) (cs : Scope) (a : Addr) (ccd : Value) (cl : List (Str × Addr)) (outer : List Env) (A₀ : Around) (base h₀ : Heap) (L : Addr) (m : Str → Option Value) (s : Shared) (Q E : Value → Shared → Prop),
    Below A₀ base outer h₀ → Fr h₀ L s.heap m → (K w.params).In base → News h₀ L s.heap news → Top vw loose mean mg mb base → KtsDicts (fsOf outer) h₀ → cs.kind = .function →
    dp + dD < recursionLimit → un + dU < cLine → RetT A₀ base outer h₀ L m s Q Ok →
    wpAny (model p w) (ktrTop dp un gd cn cs L a ccd cl outer) (call (.ref f) vs) Q E s
/-- what a call looks up of the called -/
noncomputable def Kept (w : World) (f : Addr) (news : Led) : Prop := ∀ (h₀ h : Heap) (L : Addr), News h₀ L h news → (K w.params).In h → ∃ k, (k = Keeper.frame ∨ k = Keeper.machine ∨ k = Keeper.boundFrame) ∧ Looks (model p w) h (keeperOf (.ref f)) k
theorem Kept.ofK {w : World} {f : Addr} {news : Led} (hk : keepIn (K w.params) (.ref f) = true) : Kept w f news := fun _ _ _ _ X => keeps_K hk _ X
section
variable {w : World} {A : Around} {E : Value → Shared → Prop} {s : Shared} {h₀ : Heap} {L f : Addr} {news : Led} {env : Env}
theorem callWithN {pos : Pos} {e : Expr} {rest : List Expr} {Q : Value → Shared → Prop} (Kf : Kept w f news)
    (h : wpAny (model p w) A (spliced (backTo pos (starEach (e :: rest) env))) (fun vs s₁ => (News h₀ L s₁.heap news ∧ (K w.params).In s₁.heap) ∧ wpAny (model p w) A (call (.ref f) vs) Q E s₁) E s)
    (he : starEach (e :: rest) env = (false, eval e env) :: starEach rest env := by rfl) (hplain : (backTo pos (starEach rest env)).any (·.1) = false := by rfl) :
    wpAny (model p w) A (callWith pos (.ref f) [] (backTo pos (starEach (e :: rest) env)) []) Q E s := by
  rw [he] at h ⊢
  exact callWith_of (P := fun hp => News h₀ L hp news ∧ (K w.params).In hp) (by show ((false || (backTo pos (starEach rest env)).any (·.1)) || false) = false; rw [hplain]; rfl) (fun hp x => Kf _ _ _ x.1 x.2) (evalArgs_plain h)
end
section
set_option maxHeartbeats 8000000
theorem c_heard (w : World) (f : Addr) (x : Str) (t : Tok) (news : Led) (dD dU : Nat) (Ok : Value → Led → Prop) (Err : Prop) (C : Ctr w f [.str x t] news dD dU Ok Err) (Kf : Kept w f news) :
    CtrS w 200 [.ref f, .str x t] news (dD + 2) (dU + 20) (fun r n => Ok r n ∨ (Err ∧ n = news ∧ ∃ t', r = .str (Str.ofString "refused") t')) := by
  intro loose mean mg mb dp un gd cn cs a ccd cl outer A₀ base h₀ L m s Q E B F X N T D hk hd hu hret
  k_with_none
  refine wpAny_call ?_
  k_dflt (refine' enterT ?k1 ?k2 ?k3 ?k4 ?k5 ?kD ?kA ?kF ?kK ?k6 ?k7 ?k8 ?k9 ?kB ?_ ?c2 ?c3 ?c4 ?c5; (case kA => exact rfl); (case kF => exact rfl); (case kK => assumption); (case k1 => assumption); (case k2 => assumption); (case k3 => assumption); (case k4 => assumption); (case k5 => assumption); (case kD => assumption); (case k6 => k_is); (case k7 => k_is); (case k8 => ktr_room); (case k9 => exact BindsTo.of_eq rfl); (case c5 => decide); (case kB => exact locs rfl); (case c2 => exact rfl); (case c3 => exact rfl); (case c4 => exact rfl); k_whole)
  intro g1 L1 h1 F1 N1 B1 X1 T1 D1
  replace F1 : Fr g1 L1 h1 (fun y9 => List.lookup y9 [(("text" : Str), .str x t), (("work" : Str), .ref f)]) := F1
  have T0 : KtsTurn (fsOf (envX cn cs L a ccd cl :: outer)) g1 g1 := KtsTurn.refl
  clear F N D
  dsimp only
  k_unmd
  k_fold
  k_with "LeaveT" => (refine Stop.out ?_)
  k_with "call ref" => (k_here; k_dflt (refine' Ctr.use (C) ?B ?F ?X ?N ?T ?hk ?hd ?hu ?_ ?_; (case B => k_asm); (case F => k_asm); (case X => k_asm); (case N => k_asm); (case T => k_asm); (case hk => first | exact rfl | assumption); (case hd => ktr_room); (case hu => ktr_units)); rotate_left; (intro _ e9 t9 vs9 g9 h9 tk9 FG9 R9 RK9 U9; refine Passed.out ?_); rotate_right; (intro r9 n9 h9 tk9 ok9 F9 N9; obtain okC := ok9; try dsimp only))
  k_with "callWith ref" => (k_here; k_dflt (refine' callWithN (h₀ := g1) (L := L1) Kf ?_ ?he ?hp; rotate_left; exact rfl; exact rfl))
  k_with "And" => ((with_reducible show (News _ _ _ _ ∧ Frag.In _ _) ∧ _); refine ⟨⟨by k_asm, by first | assumption | exact Frag.In.keeps (by k_asm) (Fr.keep (by k_asm))⟩, ?_⟩; try dsimp only [List.nil_append, List.cons_append])
  k_steps
  · (rename Ok _ _ => okC)
    refine Stop.in ?_
    exact ⟨g1, L1, _, n9, T0, F9, N9, fun h0' a b c d e => hret _ _ _ _ _ (.inl okC) a b c d e⟩
  · (rename Err => hE)
    refine Passed.in ?_
    refine caught_SO0 R9 FG9 B1 U9 X T D1 T0 ?ex ?q (fun h2 g2 n2 T2 F2 N2 G2 M2 B2 X2 P2 D2 => ?_)
    case ex => k_is
    case q => kts_isx
    clear F1 N1 FG9 R9 RK9 U9
    k_steps
    refine Stop.in ?_
    exact ⟨g2, L1, _, news, T2, F2, M2, fun h0' a b c d e => hret _ _ _ _ _ (.inr ⟨hE, rfl, _, rfl⟩) a b c d e⟩
end

end Mine
set_option Elab.async false
set_option maxRecDepth 100000
set_option maxHeartbeats 2000000
set_option compiler.extract_closed false
namespace Mine
open PyProof.Rows.LCg (NsObj ns_obj lst lst_snoc fr_but news_but)
/-- the comprehension's own three objects stand apart -/
structure Apart3 (I C D : Addr) (adr : List Addr) : Prop where
  ic : I ≠ C
  id : I ≠ D
  cd : C ≠ D
  off : ∀ b ∈ adr, b ≠ I ∧ b ≠ C ∧ b ≠ D
/-- a turn's end: the frame, the comprehension's objects, what is kept -/
noncomputable def TEnd (L : Addr) (m : Str → Option Value) (s₂ : Shared) (I : Addr) (oI : Obj) (C : Addr) (oC : Obj) (D : Addr) (oD : Obj) (J : Heap → Led → Prop) (s' : Shared) : Prop :=
  ∃ h' tk g nw, s' = { s₂ with heap := h', toks := tk } ∧ Fr g L h' m ∧ News g L h' ((I, oI) :: (C, oC) :: (D, oD) :: nw) ∧ (∀ q ∈ nw, q.1 ≠ I ∧ q.1 ≠ C ∧ q.1 ≠ D) ∧ J g nw
@[elab_as_elim] theorem TEnd.elim {L : Addr} {m : Str → Option Value} {s₂ : Shared} {I : Addr} {oI : Obj} {C : Addr} {oC : Obj} {D : Addr} {oD : Obj} {J : Heap → Led → Prop} {s' : Shared} {k : Shared → Prop} (h : TEnd L m s₂ I oI C oC D oD J s')
    (q : ∀ h' tk g nw, Fr g L h' m → News g L h' ((I, oI) :: (C, oC) :: (D, oD) :: nw) → (∀ q ∈ nw, q.1 ≠ I ∧ q.1 ≠ C ∧ q.1 ≠ D) → J g nw → k { s₂ with heap := h', toks := tk }) : k s' := by
  obtain ⟨h', tk, g, nw, rfl, F, N, off, hJ⟩ := h
  exact q h' tk g nw F N off hJ
theorem TEnd.of {L : Addr} {m : Str → Option Value} {s₂ : Shared} {I : Addr} {oI : Obj} {C : Addr} {oC : Obj} {D : Addr} {oD : Obj} {J : Heap → Led → Prop} {s' : Shared} {h' : Heap} {tk : Nat} {g : Heap} {nw : Led} (e : s' = { s₂ with heap := h', toks := tk }) (F : Fr g L h' m) (N : News g L h' ((I, oI) :: (C, oC) :: (D, oD) :: nw)) (off : ∀ q ∈ nw, q.1 ≠ I ∧ q.1 ≠ C ∧ q.1 ≠ D) (hJ : J g nw) : TEnd L m s₂ I oI C oC D oD J s' := ⟨h', tk, g, nw, e, F, N, off, hJ⟩
/-- what holds between the turns -/
inductive BlkI (St : Nat → Heap → Prop) (J : Nat → List Value → Heap → Led → Prop) (s₂ : Shared) (n : Nat) (L I C D : Addr) (m : Str → Option Value) : Nat → Shared → Prop
  | mk (h' : Heap) (tk i : Nat) (ys : List Value) (m' : Str → Option Value) (g : Heap) (nw : Led) (oI oC : Obj) (hi : i ≤ n) (hyl : ys.length ≤ i) (hst : St i h') (hoC : NsObj oC m') (F : Fr g L h' m) (N : News g L h' ((I, oI) :: (C, oC) :: (D, lst ys) :: nw))
      (ha : ∀ q ∈ nw, q.1 ≠ I ∧ q.1 ≠ C ∧ q.1 ≠ D) (hJ : J i ys g nw) : BlkI St J s₂ n L I C D m (n + 1 - i) { s₂ with heap := h', toks := tk }
theorem BlkI.elim {St : Nat → Heap → Prop} {J : Nat → List Value → Heap → Led → Prop} {s₂ : Shared} {n : Nat} {L I C D : Addr} {m : Str → Option Value} {G : Nat → Shared → Prop}
    (q : ∀ h' tk i ys m' g nw oI oC, i ≤ n → ys.length ≤ i → St i h' → NsObj oC m' → Fr g L h' m → News g L h' ((I, oI) :: (C, oC) :: (D, lst ys) :: nw) → (∀ q ∈ nw, q.1 ≠ I ∧ q.1 ≠ C ∧ q.1 ≠ D) → J i ys g nw → G (n + 1 - i) { s₂ with heap := h', toks := tk }) :
    ∀ k s', BlkI St J s₂ n L I C D m k s' → G k s' := fun _ _ h => by
  cases h with
  | mk h' tk i ys m' g nw oI oC hi hyl hst hoC F N ha hJ => exact q h' tk i ys m' g nw oI oC hi hyl hst hoC F N ha hJ
section
variable {prog : Program} {w : World} {A : Around} {E : Value → Shared → Prop} {env : Env}
theorem blockJ {elt iter : Expr} {x : Str} {px : Pos} {ifs : List Expr} {scope : Scope} {cl : List (Str × Addr)} {pos : Pos} {s₂ : Shared} {h₀ : Heap} {L I : Addr} {m : Str → Option Value} {fp : List Addr} {n : Nat} {P : Nat → Value → Prop} {St : Nat → Heap → Prop} {news : Led}
    {RR : Value → Addr → Result → Shared → Prop} (J : Nat → List Value → Heap → Led → Prop)
    (W : Walks prog w A I fp [I] n P St) (hsz : n ≤ sizeLine) (hIo : ∀ i h, St i h → ∃ o, h.get? I = some o)
    (hSt : ∀ i h h' o ys g nw, St i h → h.get? I = some o → h'.get? I = some o → Fr g L h' m → News g L h' nw → J i ys g nw → St i h')
    (hcell : ∀ y ∈ scope.names, y.2 ≠ .cell) (hkind : scope.kind = .function) (hx : scope.names.lookup x = some .local) (hst : St 0 s₂.heap) (hfp : ∀ b ∈ fp, b < s₂.heap.objs.size)
    (F : Fr h₀ L s₂.heap m) (N : News h₀ L s₂.heap news) (hIL : I ≠ L) (hI₀ : h₀.get? I = none) (off : ∀ q ∈ news, q.1 ≠ I) (hJ : J 0 [] h₀ news)
    (turn : ∀ i v ys g nw h tk oI oC C D m₂ E', i < n → P i v → J i ys g nw → NsObj oC m₂ → m₂ x = some v → Fr g L h m → News g L h ((I, oI) :: (C, oC) :: (D, lst ys) :: nw) → Apart3 I C D (nw.map (·.1)) →
      wpAny (model prog w) A (forIn ifs true fun c r => if r = true then do let ok ← isTrue c (compEnvC scope cl C env) (eval c (compEnvC scope cl C env)); pure (ForInStep.yield ok) else pure (ForInStep.yield r))
        (fun ok s₃ => if ok = true then wpAny (model prog w) A (eval elt (compEnvC scope cl C env)) (fun y s₄ => TEnd L m s₂ I oI C oC D (lst ys) (J (i + 1) (ys ++ [y])) s₄) E' s₃
          else TEnd L m s₂ I oI C oC D (lst ys) (J (i + 1) ys) s₃) E' { s₂ with heap := h, toks := tk })
    (hRR : ∀ D C h tk m' ys g nw, Fr g L h m → News g L h ((D, lst ys) :: nw) → (∀ q ∈ nw, q.1 ≠ D ∧ q.1 ≠ C) → h.Ns C m' → g.get? C = none → C ≠ L → C ≠ D → J n ys g nw → RR (.ref D) C (.ok .next) { s₂ with heap := h, toks := tk }) :
    wpAny (model prog w) A (newList []) (fun acc s₃ => wpAny (model prog w) A (newFunctionEnv scope env.globals cl [] env.qual none .none (some env)) (fun cenv s₄ =>
      codeAny (model prog w) A (.compStart (.ListComp elt [⟨.Name x px, iter, ifs, 0⟩] scope pos) 0 (.ref I) acc { cenv with scope := relabel scope env }) (RR acc cenv.locals) s₄) E s₃) E s₂ := by
  refine wpAny_newObj_type (wpAny_newFunctionEnv hcell (by intro y hy; simp at hy) (fun h₁ hns₁ hsb₁ => ?_) hkind)
  dsimp only at hns₁ hsb₁ ⊢
  generalize hH : s₂.heap.push { cls := .type "list", dict := none, data := .seq ([] : List Value).toArray } = H at hns₁ hsb₁ ⊢
  generalize hDe : s₂.heap.objs.size = D at *
  have hC : H.objs.size = D + 1 := by rw [← hH, Heap.size_push, hDe]
  have hDC : D ≠ H.objs.size := by rw [hC]; exact Nat.ne_of_lt (Nat.lt_succ_self _)
  have low : ∀ b, b < D → b ≠ H.objs.size ∧ b ≠ D := fun b hb => ⟨by rw [hC]; exact Nat.ne_of_lt (Nat.lt_succ_of_lt hb), Nat.ne_of_lt hb⟩
  have hIf : I ∈ fp := W.sub I (List.mem_singleton.mpr rfl)
  have hCf : H.objs.size ∉ fp := fun hm => (low _ (hfp _ hm)).1 rfl
  have hDf : D ∉ fp := fun hm => (low _ (hfp _ hm)).2 rfl
  have lt : ∀ b o, s₂.heap.get? b = some o → b < D := fun b o e => hDe ▸ Heap.lt_size e
  have old : ∀ b o, s₂.heap.get? b = some o → h₁.get? b = some o := fun b o e => hsb₁.extBut b o (low b (lt b o e)).1 (Heap.get?_push_of_some _ (hH ▸ Heap.get?_push_of_some _ e))
  have hacc : h₁.get? D = some (lst []) := hsb₁.extBut _ _ hDC (Heap.get?_push_of_some _ (by rw [← hH, ← hDe]; exact Heap.get?_push_size _ rfl))
  have fresh : ∀ a, D ≤ a → h₀.get? a = none := fun a ha => by
    cases e : h₀.get? a with
    | none => rfl
    | some o' => exact absurd (lt _ _ (F.keep a o' e)) (Nat.not_lt.mpr ha)
  have hL : L < D := hDe ▸ F.ns.lt
  obtain ⟨oI₀, heI₀⟩ := hIo _ _ hst
  obtain ⟨oC₀, heC₀, hoC₀⟩ := ns_obj hns₁
  have ap : Apart3 I H.objs.size D (news.map (·.1)) := ⟨(low I (hfp I hIf)).1, (low I (hfp I hIf)).2, Ne.symm hDC, fun b hb => by
    obtain ⟨q, hq, rfl⟩ := List.mem_map.mp hb
    exact ⟨off q hq, (low _ (lt _ _ (N q hq).1)).1, (low _ (lt _ _ (N q hq).1)).2⟩⟩
  have N₁ : News h₀ L h₁ ((I, oI₀) :: (H.objs.size, oC₀) :: (D, lst []) :: news) := fun q hq => by
    rcases List.mem_cons.mp hq with rfl | hq
    · exact ⟨old _ _ heI₀, hIL, hI₀⟩
    rcases List.mem_cons.mp hq with rfl | hq
    · exact ⟨heC₀, Ne.symm (low L hL).1, fresh _ (by rw [hC]; exact Nat.le_succ _)⟩
    rcases List.mem_cons.mp hq with rfl | hq
    · exact ⟨hacc, Ne.symm (low L hL).2, fresh _ (Nat.le_refl _)⟩
    · exact ⟨old _ _ (N q hq).1, (N q hq).2⟩
  have st₁ : St 0 h₁ := W.frame _ _ _ hst fun b _ o e => old b o e
  have loop : ∀ s₃ : Shared, s₃ = { s₂ with heap := h₁, toks := s₂.toks + ([] : List (Str × Value)).length } →
      codeAny (model prog w) A (.compLoop (.ListComp elt [⟨.Name x px, iter, ifs, 0⟩] scope pos) 0 (.ref I) (.ref D) (compEnvC scope cl H.objs.size env)) (RR (.ref D) H.objs.size) s₃ := by
    rintro s₃ rfl
    refine codeAny_compLoop_tests (BlkI St J s₂ n L I H.objs.size D m) (BlkI.elim ?_) (n + 1) (.mk h₁ _ 0 [] _ h₀ news oI₀ oC₀ (Nat.zero_le _) (Nat.le_refl _) st₁ hoC₀ (F.keeps old) N₁ (fun q hq => ap.off _ (List.mem_map_of_mem hq)) hJ)
    intro h' tk i ys m' g nw oI oC hi hyl hst' hoC F' N' ha hJ'
    have nI := N' _ (.head _)
    have nC := N' _ (.tail _ (.head _))
    have offA : ∀ q ∈ ((H.objs.size, oC) :: (D, lst ys) :: nw), q.1 ≠ I := fun q hq => by
      rcases List.mem_cons.mp hq with rfl | hq
      · exact Ne.symm ap.ic
      rcases List.mem_cons.mp hq with rfl | hq
      · exact Ne.symm ap.id
      · exact (ha q hq).1
    by_cases hlt : i < n
    · refine W.item i _ _ _ hlt hst' fun v h₂ tk₂ hPv hst₂ hk₂ => ?_
      have N₂ := news_but (fun q hq => N' q (.tail _ hq)) hk₂ offA
      have F₂ := fr_but F' hk₂ (Ne.symm hIL) nI.2.2
      refine wpAny_assign_Name (wpAny_storeName_local (lookup_relabel_local hx) (hoC.ns (N₂ _ (.head _)).1) (fun h₃ hn₃ hs₃ => ?_) (by simp [compEnvC, relabel, hkind]))
      have st₃ : St (i + 1) h₃ := W.frame _ _ _ hst₂ fun b hb o e => hs₃.extBut b o (fun q => hCf ((show b = H.objs.size from q) ▸ hb)) e
      obtain ⟨oI₃, heI⟩ := hIo _ _ st₃
      obtain ⟨oC₃, heC, hoC₃⟩ := ns_obj hn₃
      have F₃ := F₂.change hs₃ nC.2.1 nC.2.2
      have N₃ : News g L h₃ ((I, oI₃) :: (H.objs.size, oC₃) :: (D, lst ys) :: nw) := fun q hq => by
        rcases List.mem_cons.mp hq with rfl | hq
        · exact ⟨heI, nI.2⟩
        rcases List.mem_cons.mp hq with rfl | hq
        · exact ⟨heC, nC.2⟩
        · have z := N₂ q (.tail _ hq)
          refine ⟨hs₃.extBut _ _ ?_ z.1, z.2⟩
          rcases List.mem_cons.mp hq with rfl | hq
          · exact hDC
          · exact (ha q hq).2.1
      refine wpAny_mono (turn i v ys g nw h₃ _ oI₃ oC₃ H.objs.size D _ _ hlt hPv hJ' hoC₃ (by simp) F₃ N₃ ⟨ap.ic, ap.id, ap.cd, fun b hb => by obtain ⟨q, hq, rfl⟩ := List.mem_map.mp hb; exact ha q hq⟩) (fun ok s₃ h => ?_) fun _ _ e => e
      cases ok with
      | false =>
        simp only [Bool.false_eq_true, if_false] at h ⊢
        exact TEnd.elim h fun h₄ tk₄ g₄ nw₄ F₄ N₄ ha₄ J₄ => ⟨n + 1 - (i + 1), by omega, .mk h₄ tk₄ (i + 1) ys _ g₄ nw₄ oI₃ oC₃ hlt (by omega) (hSt _ _ _ _ _ _ _ st₃ heI (N₄ _ (.head _)).1 F₄ (fun q hq => N₄ q (.tail _ (.tail _ (.tail _ hq)))) J₄) hoC₃ F₄ N₄ ha₄ J₄⟩
      | true =>
        simp only [if_true] at h ⊢
        refine wpAny_mono h (fun y s₄ h₄ => ?_) fun _ _ e => e
        refine TEnd.elim h₄ fun h₄ tk₄ g₄ nw₄ F₄ N₄ ha₄ J₄ => ?_
        have zD := N₄ _ (.tail _ (.tail _ (.head _)))
        have st₄ := hSt _ _ _ _ _ _ _ st₃ heI (N₄ _ (.head _)).1 F₄ (fun q hq => N₄ q (.tail _ (.tail _ (.tail _ hq)))) J₄
        refine append_at (hsz := by rw [List.size_toArray]; exact Nat.le_trans (Nat.le_trans hyl hi) hsz) zD.1 fun h₅ hs₅ hD₅ => ?_
        refine ⟨n + 1 - (i + 1), by omega, .mk h₅ tk₄ (i + 1) (ys ++ [y]) _ g₄ nw₄ oI₃ oC₃ hlt (by rw [List.length_append, List.length_singleton]; omega) (W.frame _ _ _ st₄ fun b hb o e => hs₅.extBut b o (fun q => hDf ((show b = D from q) ▸ hb)) e) hoC₃ (F₄.change hs₅ zD.2.1 zD.2.2) (fun q hq => ?_) ha₄ J₄⟩
        rcases List.mem_cons.mp hq with rfl | hq
        · exact ⟨hs₅.extBut _ _ ap.id (N₄ _ (.head _)).1, (N₄ _ (.head _)).2⟩
        rcases List.mem_cons.mp hq with rfl | hq
        · exact ⟨hs₅.extBut _ _ (Ne.symm hDC) (N₄ _ (.tail _ (.head _))).1, (N₄ _ (.tail _ (.head _))).2⟩
        rcases List.mem_cons.mp hq with rfl | hq
        · exact ⟨hD₅.trans (congrArg some (lst_snoc ys y)), zD.2⟩
        · have z := N₄ q (.tail _ (.tail _ (.tail _ hq)))
          exact ⟨hs₅.extBut _ _ (ha₄ q hq).2.2 z.1, z.2⟩
    · obtain rfl : i = n := Nat.le_antisymm hi (Nat.not_lt.mp hlt)
      refine W.done _ _ _ hst' fun h₂ tk₂ hk₂ => ?_
      have N₂ := news_but (fun q hq => N' q (.tail _ hq)) hk₂ offA
      exact hRR _ _ h₂ tk₂ _ ys g nw (fr_but F' hk₂ (Ne.symm hIL) nI.2.2) (fun q hq => N₂ q (.tail _ hq)) (fun q hq => ⟨(ha q hq).2.2, (ha q hq).2.1⟩) (hoC.ns (N₂ _ (.head _)).1) nC.2.2 nC.2.1 ap.cd hJ'
  exact codeAny_compStart_list (loop _ rfl) (W.self 0 _ _ _ st₁ (loop _ rfl))
/-- a source that is gone through: a tuple or a list -/
inductive SrcO : Obj → List Value → Prop
  | tup (vs : List Value) : SrcO (tupO vs) vs
  | lst (vs : List Value) (k : Nat) : SrcO (W.listOf (List.toArray vs) k) vs
noncomputable abbrev TurnJ (prog : Program) (w : World) (A : Around) (env : Env) (elt : Expr) (x : Str) (ifs : List Expr) (scope : Scope) (cl : List (Str × Addr)) (L : Addr) (m : Str → Option Value) (s₁ : Shared) (vs : List Value) (J : Nat → List Value → Heap → Led → Prop) : Prop :=
  ∀ i v ys g nw h tk oI oC I C D m₂ E', vs[i]? = some v → J i ys g nw → NsObj oC m₂ → m₂ x = some v → Fr g L h m → News g L h ((I, oI) :: (C, oC) :: (D, lst ys) :: nw) → Apart3 I C D (nw.map (·.1)) →
    wpAny (model prog w) A (forIn ifs true fun c r => if r = true then do let ok ← isTrue c (compEnvC scope cl C env) (eval c (compEnvC scope cl C env)); pure (ForInStep.yield ok) else pure (ForInStep.yield r))
      (fun ok s₃ => if ok = true then wpAny (model prog w) A (eval elt (compEnvC scope cl C env)) (fun y s₄ => TEnd L m s₁ I oI C oC D (lst ys) (J (i + 1) (ys ++ [y])) s₄) E' s₃
        else TEnd L m s₁ I oI C oC D (lst ys) (J (i + 1) ys) s₃) E' { s₁ with heap := h, toks := tk }
theorem iterJ {elt iter : Expr} {x : Str} {px : Pos} {ifs : List Expr} {scope : Scope} {cl : List (Str × Addr)} {pos : Pos} {s₁ : Shared} {h₀ : Heap} {L ax : Addr} {o : Obj} {vs : List Value} {m : Str → Option Value} {news : Led}
    {RR : Value → Addr → Result → Shared → Prop} (J : Nat → List Value → Heap → Led → Prop) (S : SrcO o vs) (hm : (ax, o) ∈ news) (hmem : ∀ i ys g nw, J i ys g nw → (ax, o) ∈ nw) (hsz : vs.length ≤ sizeLine) (hh : A.handled = none)
    (hcell : ∀ y ∈ scope.names, y.2 ≠ .cell) (hkind : scope.kind = .function) (hx : scope.names.lookup x = some .local)
    (F : Fr h₀ L s₁.heap m) (N : News h₀ L s₁.heap news) (hJ : J 0 [] h₀ news) (turn : TurnJ prog w A env elt x ifs scope cl L m s₁ vs J)
    (hRR : ∀ D C h tk m' ys g nw, Fr g L h m → News g L h ((D, lst ys) :: nw) → (∀ q ∈ nw, q.1 ≠ D ∧ q.1 ≠ C) → h.Ns C m' → g.get? C = none → C ≠ L → C ≠ D → J vs.length ys g nw → RR (.ref D) C (.ok .next) { s₁ with heap := h, toks := tk }) :
    wpAny (model prog w) A (pyIter (.ref ax)) (fun it s₂ => wpAny (model prog w) A (newList []) (fun acc s₃ => wpAny (model prog w) A (newFunctionEnv scope env.globals cl [] env.qual none .none (some env)) (fun cenv s₄ =>
      codeAny (model prog w) A (.compStart (.ListComp elt [⟨.Name x px, iter, ifs, 0⟩] scope pos) 0 it acc { cenv with scope := relabel scope env }) (RR acc cenv.locals) s₄) E s₃) E s₂) E s₁ := by
  have hax := (N _ hm).1
  have hlt : ax < s₁.heap.objs.size := Heap.lt_size hax
  have nI : ∀ q ∈ news, q.1 ≠ s₁.heap.objs.size := fun q hq => Nat.ne_of_lt (Heap.lt_size (N q hq).1)
  have sz : ∀ (oo : Obj), ∀ b ∈ [s₁.heap.objs.size, ax], b < (s₁.heap.push oo).objs.size := fun oo b hb => by
    rw [Heap.size_push]
    rcases List.mem_cons.mp hb with rfl | hb
    · exact Nat.lt_succ_self _
    · rw [List.mem_singleton.mp hb]; exact Nat.lt_succ_of_lt hlt
  cases S with
  | tup =>
    refine wpAny_pyIter_tuple (t := ax) ⟨_, hax, rfl, _, rfl⟩ ?_
    have W := Walks.tuple (prog := prog) (w := w) hh s₁.heap.objs.size ax (Nat.ne_of_lt hlt) vs.toArray
    have e : vs.toArray.size = vs.length := by simp
    rw [e] at W
    refine blockJ (s₂ := { s₁ with heap := s₁.heap.push _ }) J W hsz (fun i h st => let ⟨o, ho, _⟩ := st.1; ⟨o, ho⟩) (fun i h h' o' ys g nw st e1 e2 F' N' hj => ⟨?_, _, (N' _ (hmem _ _ _ _ hj)).1, rfl, _, rfl⟩) hcell hkind hx ⟨⟨_, Heap.get?_push_size _ rfl, rfl, rfl⟩, ⟨_, Heap.get?_push_of_some _ hax, rfl, _, rfl⟩⟩ (sz _) (F.push _)
      (fun q hq => ⟨Heap.get?_push_of_some _ (N q hq).1, (N q hq).2⟩) (Nat.ne_of_gt F.ns.lt) (next_is_new F) nI hJ (fun i v ys g nw h tk oI oC C D m₂ E' hi hP => turn i v ys g nw h tk oI oC _ C D m₂ E' (by simpa using hP)) hRR
    obtain ⟨o₁, h1, r⟩ := st.1
    rw [e1] at h1; cases h1
    exact ⟨_, e2, r⟩
  | lst _ k =>
    refine wpAny_pyIter_list (l := ax) ⟨_, hax, rfl, _, rfl⟩ ?_
    have W := Walks.list (prog := prog) (w := w) hh s₁.heap.objs.size ax (Nat.ne_of_lt hlt) vs.toArray
    have e : vs.toArray.size = vs.length := by simp
    rw [e] at W
    refine blockJ (s₂ := { s₁ with heap := s₁.heap.push _ }) J W hsz (fun i h st => let ⟨o, ho, _⟩ := st.1; ⟨o, ho⟩) (fun i h h' o' ys g nw st e1 e2 F' N' hj => ⟨?_, _, (N' _ (hmem _ _ _ _ hj)).1, rfl, _, rfl⟩) hcell hkind hx ⟨⟨_, Heap.get?_push_size _ rfl, rfl, rfl⟩, ⟨_, Heap.get?_push_of_some _ hax, rfl, _, rfl⟩⟩ (sz _) (F.push _)
      (fun q hq => ⟨Heap.get?_push_of_some _ (N q hq).1, (N q hq).2⟩) (Nat.ne_of_gt F.ns.lt) (next_is_new F) nI hJ (fun i v ys g nw h tk oI oC C D m₂ E' hi hP => turn i v ys g nw h tk oI oC _ C D m₂ E' (by simpa using hP)) hRR
    obtain ⟨o₁, h1, r⟩ := st.1
    rw [e1] at h1; cases h1
    exact ⟨_, e2, r⟩
/-- what a comprehension wants of its source's value, then of each turn, then of what stands behind -/
inductive CompJ (prog : Program) (w : World) (A : Around) (env : Env) (elt : Expr) (x : Str) (ifs : List Expr) (scope : Scope) (cl : List (Str × Addr)) (L : Addr) (m : Str → Option Value) (Fin : Shared → Addr → List Value → Heap → Led → Prop) (xv : Value) (s₁ : Shared) : Prop
  | mk (h₀ : Heap) (ax : Addr) (o : Obj) (vs : List Value) (news : Led) (J : Nat → List Value → Heap → Led → Prop) (hv : xv = .ref ax) (S : SrcO o vs) (hm : (ax, o) ∈ news) (hmem : ∀ i ys g nw, J i ys g nw → (ax, o) ∈ nw) (hsz : vs.length ≤ sizeLine) (F : Fr h₀ L s₁.heap m) (N : News h₀ L s₁.heap news) (hJ : J 0 [] h₀ news)
      (turn : TurnJ prog w A env elt x ifs scope cl L m s₁ vs J) (fin : ∀ D ys g nw, J vs.length ys g nw → (∀ q ∈ nw, q.1 ≠ D) → Fin s₁ D ys g nw) : CompJ prog w A env elt x ifs scope cl L m Fin xv s₁
section
variable {prog : Program} {w : World} {A : Around} {env : Env} {elt : Expr} {x : Str} {ifs : List Expr} {scope : Scope} {cl : List (Str × Addr)} {L : Addr} {m : Str → Option Value} {Fin : Shared → Addr → List Value → Heap → Led → Prop} {s₁ : Shared}
@[elab_as_elim] theorem CompJ.elim {xv : Value} {G : Value → Prop} (h : CompJ prog w A env elt x ifs scope cl L m Fin xv s₁) (q : ∀ (h₀ : Heap) (ax : Addr) (o : Obj) (vs : List Value) (news : Led) (J : Nat → List Value → Heap → Led → Prop), SrcO o vs → (ax, o) ∈ news → (∀ i ys g nw, J i ys g nw → (ax, o) ∈ nw) → vs.length ≤ sizeLine → Fr h₀ L s₁.heap m → News h₀ L s₁.heap news → J 0 [] h₀ news →
    TurnJ prog w A env elt x ifs scope cl L m s₁ vs J → (∀ D ys g nw, J vs.length ys g nw → (∀ q ∈ nw, q.1 ≠ D) → Fin s₁ D ys g nw) → G (.ref ax)) : G xv := by
  obtain ⟨h₀, ax, o, vs, news, J, rfl, S, hm, hmem, hsz, F, N, hJ, turn, fin⟩ := h
  exact q h₀ ax o vs news J S hm hmem hsz F N hJ turn fin
end
/-- what holds between the turns when nothing of the ledger changes -/
structure StayJ (h₀ : Heap) (news : Led) (P : Nat → List Value → Prop) (i : Nat) (ys : List Value) (g : Heap) (nw : Led) : Prop where
  hg : g = h₀
  hn : nw = news
  hP : P i ys
section
variable {prog : Program} {w : World} {A : Around} {env : Env} {elt : Expr} {x : Str} {ifs : List Expr} {scope : Scope} {cl : List (Str × Addr)} {L : Addr} {m : Str → Option Value} {Fin : Shared → Addr → List Value → Heap → Led → Prop} {s₁ : Shared}
theorem CompJ.stay {h₀ : Heap} {ax : Addr} {o : Obj} {vs : List Value} {news : Led} (P : Nat → List Value → Prop) (S : SrcO o vs) (hm : (ax, o) ∈ news) (hsz : vs.length ≤ sizeLine) (F : Fr h₀ L s₁.heap m) (N : News h₀ L s₁.heap news) (hP : P 0 [])
    (turn : ∀ i v ys h tk oI oC I C D m₂ E', vs[i]? = some v → P i ys → NsObj oC m₂ → m₂ x = some v → Fr h₀ L h m → News h₀ L h ((I, oI) :: (C, oC) :: (D, lst ys) :: news) → Apart3 I C D (news.map (·.1)) →
      wpAny (model prog w) A (forIn ifs true fun c r => if r = true then do let ok ← isTrue c (compEnvC scope cl C env) (eval c (compEnvC scope cl C env)); pure (ForInStep.yield ok) else pure (ForInStep.yield r))
        (fun ok s₃ => if ok = true then wpAny (model prog w) A (eval elt (compEnvC scope cl C env)) (fun y s₄ => TEnd L m s₁ I oI C oC D (lst ys) (StayJ h₀ news P (i + 1) (ys ++ [y])) s₄) E' s₃
          else TEnd L m s₁ I oI C oC D (lst ys) (StayJ h₀ news P (i + 1) ys) s₃) E' { s₁ with heap := h, toks := tk })
    (fin : ∀ D ys, P vs.length ys → (∀ q ∈ news, q.1 ≠ D) → Fin s₁ D ys h₀ news) : CompJ prog w A env elt x ifs scope cl L m Fin (.ref ax) s₁ :=
  .mk h₀ ax o vs news (StayJ h₀ news P) rfl S hm (fun i ys g nw e => e.hn ▸ hm) hsz F N ⟨rfl, rfl, hP⟩ (fun i v ys g nw h tk oI oC I C D m₂ E' hv hJ hoC hm2 F3 N3 hap => by
    obtain ⟨rfl, rfl, hP9⟩ := hJ
    exact turn i v ys h tk oI oC I C D m₂ E' hv hP9 hoC hm2 F3 N3 hap) fun D ys g nw hJ hne => by
    obtain ⟨rfl, rfl, hP9⟩ := hJ
    exact fin D ys hP9 hne
end
theorem TEnd.stay {L : Addr} {m : Str → Option Value} {s₂ : Shared} {I : Addr} {oI : Obj} {C : Addr} {oC : Obj} {D : Addr} {oD : Obj} {h' : Heap} {tk : Nat} {g : Heap} {nw : Led} {P : Nat → List Value → Prop} {i : Nat} {ys : List Value} (F : Fr g L h' m) (N : News g L h' ((I, oI) :: (C, oC) :: (D, oD) :: nw)) (hap : Apart3 I C D (nw.map (·.1))) (hP : P i ys) :
    TEnd L m s₂ I oI C oC D oD (StayJ g nw P i ys) { s₂ with heap := h', toks := tk } := .of rfl F N (fun _ hq => hap.off _ (List.mem_map_of_mem hq)) ⟨rfl, rfl, hP⟩
theorem compE {elt iter : Expr} {x : Str} {px : Pos} {ifs : List Expr} {scope : Scope} {cl : List (Str × Addr)} {pos : Pos} {s : Shared} {L : Addr} {m : Str → Option Value} {Q : Value → Shared → Prop} (hh : A.handled = none)
    (hclos : closureFor scope env = pure cl) (hcell : ∀ y ∈ scope.names, y.2 ≠ .cell) (hkind : scope.kind = .function) (hnames : ∀ y ∈ scope.names, y.2 = .local → scope.names.lookup y.1 = some .local) (hx : scope.names.lookup x = some .local)
    (h : wpAny (model prog w) A (eval iter env) (CompJ prog w A env elt x ifs scope cl L m (fun s₁ D ys g nw => ∀ h tk, Fr g L h m → News g L h ((D, lst ys) :: nw) → Q (.ref D) { s₁ with heap := h, toks := tk })) E s)
    (hs : ∀ x, foldedSetIterable iter env x = pure x := by intro _; rfl) : wpAny (model prog w) A (eval (.ListComp elt [⟨.Name x px, iter, ifs, 0⟩] scope pos) env) Q E s := by
  rw [eval_ListComp]
  refine wpAny_comprehension_free (use := none) rfl hs hclos hkind hnames (wpAny_mono h (fun xv s₁ h₁ => ?_) fun _ _ e => e)
  refine CompJ.elim h₁ fun h₀ ax o vs news J S hm hmem hsz F N hJ turn fin => ?_
  refine iterJ J S hm hmem hsz hh hcell hkind hx F N hJ turn fun D C h tk m' ys g nw F' N' off hn hC hCL hCD hj => ⟨m', hn, fun h2 hs2 => ?_⟩
  refine fin D ys g nw hj (fun q hq => (off q hq).1) h2 tk (F'.change hs2 hCL hC) fun q hq => ⟨hs2.extBut _ _ ?_ (N' q hq).1, (N' q hq).2⟩
  rcases List.mem_cons.mp hq with rfl | hq
  · exact Ne.symm hCD
  · exact (off _ hq).2
theorem compA {elt iter : Expr} {x y : Str} {px py : Pos} {ifs : List Expr} {scope : Scope} {cl : List (Str × Addr)} {pos spos : Pos} {s : Shared} {L : Addr} {m : Str → Option Value} {Q : Flow → Shared → Prop} (hh : A.handled = none) (hLe : env.locals = L)
    (hsw : swapsWith (.ListComp elt [⟨.Name x px, iter, ifs, 0⟩] scope pos) (some (.Name y py)) spos.line env = pure true)
    (hclos : closureFor scope env = pure cl) (hcell : ∀ y ∈ scope.names, y.2 ≠ .cell) (hkind : scope.kind = .function) (hnames : ∀ y ∈ scope.names, y.2 = .local → scope.names.lookup y.1 = some .local) (hx : scope.names.lookup x = some .local)
    (hy : env.kindOf y = some .local) (hp : (env.scope.kind == .class || (env.scope.kind == .module && env.locals != env.globals)) = false)
    (h : wpAny (model prog w) A (eval iter env) (CompJ prog w A env elt x ifs scope cl L m (fun s₁ D ys g nw => ∀ h tk, Fr g L h (fun z => if z = y then some (.ref D) else m z) → News g L h ((D, lst ys) :: nw) → Q .next { s₁ with heap := h, toks := tk })) E s)
    (hs : ∀ x, foldedSetIterable iter env x = pure x := by intro _; rfl) : wpAny (model prog w) A (exec (.Assign [.Name y py] (.ListComp elt [⟨.Name x px, iter, ifs, 0⟩] scope pos) spos) env) Q E s := by
  subst hLe
  rw [exec_Assign_Name_used _ _ _ _ hsw]
  refine wpAny_bind (wpAny_standAt (wpAny_bind ?_))
  show wpAny _ A (do let _ ← comprehension (.ListComp elt [⟨.Name x px, iter, ifs, 0⟩] scope pos) scope env _ (newList []) false (eval iter env) (some (assign (.Name y py) env))) _ _ s
  refine wpAny_bind (wpAny_mono (wpAny_comprehension_free (use := some (assign (.Name y py) env)) (Q := fun _ s' => Q .next s') rfl hs hclos hkind hnames (wpAny_mono h (fun xv s₁ h₁ => ?_) fun _ _ e => e)) (fun _ s' hq => wpAny_pure (wpAny_pure hq)) fun _ _ e => e)
  refine CompJ.elim h₁ fun h₀ ax o vs news J S hm hmem hsz F N hJ turn fin => ?_
  refine iterJ J S hm hmem hsz hh hcell hkind hx F N hJ turn fun D C h tk m' ys g nw F' N' off hn hC hCL hCD hj => ?_
  show wpAny _ A (assign (.Name y py) env (.ref D)) _ _ _
  refine wpAny_assign_Name (wpAny_storeName_local hy F'.ns (fun h₂ hn₂ hs₂ => ?_) hp)
  have none_ : g.get? env.locals = none := kts_self F'
  have F₂ : Fr g env.locals h₂ (fun z => if z = y then some (.ref D) else m z) := ⟨hn₂, fun b o' e => hs₂.extBut b o' (fun q => by rw [show b = env.locals from q, none_] at e; cases e) (F'.keep b o' e), F'.above⟩
  refine ⟨m', hn.sameBut hs₂ hCL, fun h3 hs3 => fin D ys g nw hj (fun q hq => (off q hq).1) h3 _ (F₂.change hs3 hCL hC) fun q hq => ⟨hs3.extBut _ _ ?_ (hs₂.extBut _ _ (N' q hq).2.1 (N' q hq).1), (N' q hq).2⟩⟩
  rcases List.mem_cons.mp hq with rfl | hq
  · exact Ne.symm hCD
  · exact (off _ hq).2
end
end Mine
set_option Elab.async false
set_option maxRecDepth 100000
set_option maxHeartbeats 2000000
set_option compiler.extract_closed false
namespace Mine
open Builtin Builtin.Str
open PyProof.Rows.LCg (NsObj ns_obj lst lst_snoc fr_but news_but)
noncomputable abbrev asc : String := "str_ascii_iterator"
/-- the five objects of a zip over two texts, pairwise apart -/
structure Zd (z TI TO i1 i2 : Addr) : Prop where
  ti_z : TI ≠ z
  to_z : TO ≠ z
  a_z : i1 ≠ z
  b_z : i2 ≠ z
  ti_to : TI ≠ TO
  ti_a : TI ≠ i1
  ti_b : TI ≠ i2
  to_a : TO ≠ i1
  to_b : TO ≠ i2
  a_b : i1 ≠ i2
section
variable {prog : Program} {w : World} {A : Around} {E : Value → Shared → Prop} {s : Shared}
theorem zs_item {z TI TO i1 i2 : Addr} {k c d : Nat} {x y : Str} {tx ty : Tok} {a b : Value} {Q : Value → Shared → Prop} (D : Zd z TI TO i1 i2)
    (hz : IsZip s.heap z TI TO .none) (hTI : IsPair s.heap TI (.ref i1) (.ref i2)) (hTO : IsPair s.heap TO a b) (h1 : s.heap.IsStrIter i1 asc x tx k) (h2 : s.heap.IsStrIter i2 asc y ty k) (hx : x.cps[k]? = some c) (hy : y.cps[k]? = some d)
    (hQ : ∀ h' tk u v, IsZip h' z TI TO (rawInt s.heap.objs.size) → IsPair h' TO (.str ⟨#[c]⟩ u) (.str ⟨#[d]⟩ v) → h'.IsStrIter i1 asc x tx (k + 1) → h'.IsStrIter i2 asc y ty (k + 1) → IsPair h' s.heap.objs.size (.str ⟨#[c]⟩ u) (.str ⟨#[d]⟩ v) →
      (∀ e o, e ≠ z → e ≠ TO → e ≠ i1 → e ≠ i2 → s.heap.get? e = some o → h'.get? e = some o) → Q (.ref s.heap.objs.size) { s with heap := h', toks := tk }) :
    wpAny (model prog w) A (Builtin.«zip.__next__» ⟨[.ref z], []⟩) (fun fin s' => ∃ v, fin = .done (.ret v) ∧ Q v s') E s := by
  show wpAny _ _ (field (.ref z) 2 >>= _) _ _ _
  refine wpAny_bind (wpAny_field hz rfl (x := .bool false) rfl ?_)
  show wpAny _ _ (field (.ref z) 3 >>= _) _ _ _
  refine wpAny_bind (wpAny_field hz rfl (x := .ref TI) rfl (wpAny_bind (wpAny_seqItems hTI rfl ?_)))
  show wpAny _ _ (Builtin.SmallTypes.ownedTupleIsFree (.ref z) >>= _) _ _ _
  refine wpAny_bind ?_
  unfold Builtin.SmallTypes.ownedTupleIsFree
  refine wpAny_bind (wpAny_field hz rfl (x := .none) rfl (wpAny_pure ?_))
  simp only [if_true]
  refine wpAny_bind (wpAny_rule (wpAny_bind (wpAny_field hz rfl (x := .ref TO) rfl (wpAny_bind (wpAny_setField_rec hz (by simp) fun h₁ hz₁ e₁ => ?_)))))
  replace hz₁ : IsZip h₁ z TI TO .ellipsis := hz₁
  refine wpAny_bind ?_
  simp only [List.zipIdx_cons, List.zipIdx_nil, List.forIn_cons, List.forIn_nil]
  refine wpAny_bind (wpAny_bind (wpAny_onRaise ?_))
  show wpAny _ _ (Builtin.SmallTypes.nextOf (.ref i1) >>= _) _ _ _
  refine wpAny_bind (wpAny_nextOf_ascii_item (h1.extBut e₁.extBut D.a_z) hx fun h₂ g1 e₂ => wpAny_pure ?_)
  have t₂ : IsPair h₂ TO a b := e₂.extBut _ _ D.to_a (e₁.extBut _ _ D.to_z hTO)
  refine wpAny_bind (wpAny_seqItems t₂ rfl (wpAny_bind (wpAny_updateSeq_pair t₂ fun h₃ t₃ e₃ => ?_)))
  replace t₃ : IsPair h₃ TO (.str ⟨#[c]⟩ s.toks) b := t₃
  refine wpAny_bind (wpAny_letGo (wpAny_pure (wpAny_bind (wpAny_bind (wpAny_onRaise ?_)))))
  show wpAny _ _ (Builtin.SmallTypes.nextOf (.ref i2) >>= _) _ _ _
  refine wpAny_bind (wpAny_nextOf_ascii_item (((h2.extBut e₁.extBut D.b_z).extBut e₂.extBut D.a_b.symm).extBut e₃.extBut D.to_b.symm) hy fun h₄ g2 e₄ => wpAny_pure ?_)
  have t₄ : IsPair h₄ TO (.str ⟨#[c]⟩ s.toks) b := e₄.extBut _ _ D.to_b t₃
  refine wpAny_bind (wpAny_seqItems t₄ rfl (wpAny_bind (wpAny_updateSeq_pair t₄ fun h₅ t₅ e₅ => ?_)))
  replace t₅ : IsPair h₅ TO (.str ⟨#[c]⟩ s.toks) (.str ⟨#[d]⟩ (s.toks + 1)) := t₅
  refine wpAny_bind (wpAny_letGo (wpAny_pure (wpAny_pure (wpAny_bind (wpAny_seqItems t₅ rfl (wpAny_bind (wpAny_newTuple ?_)))))))
  have hsz : h₅.objs.size = s.heap.objs.size := by rw [e₅.1, e₄.1, e₃.1, e₂.1, e₁.1]
  have z₅ : IsZip h₅ z TI TO .ellipsis := e₅.extBut _ _ D.to_z.symm (e₄.extBut _ _ D.b_z.symm (e₃.extBut _ _ D.to_z.symm (e₂.extBut _ _ D.a_z.symm hz₁)))
  have k₅ : ∀ e o, e ≠ z → e ≠ TO → e ≠ i1 → e ≠ i2 → s.heap.get? e = some o → h₅.get? e = some o := fun e o c1 c2 c3 c4 q =>
    e₅.extBut _ _ c2 (e₄.extBut _ _ c4 (e₃.extBut _ _ c2 (e₂.extBut _ _ c3 (e₁.extBut _ _ c1 q))))
  have g1₅ : h₅.IsStrIter i1 asc x tx (k + 1) := ((g1.extBut e₃.extBut D.to_a.symm).extBut e₄.extBut D.a_b).extBut e₅.extBut D.to_a.symm
  have g2₅ : h₅.IsStrIter i2 asc y ty (k + 1) := g2.extBut e₅.extBut D.to_b.symm
  have zlt : z < h₅.objs.size := Heap.lt_size z₅
  show wpAny _ _ (Builtin.SmallTypes.ownedTupleHandOut (.ref z) (.ref h₅.objs.size) >>= _) _ _ _
  refine wpAny_bind ?_
  unfold Builtin.SmallTypes.ownedTupleHandOut
  have z₆ : IsZip (h₅.push { cls := .type "tuple", data := .seq #[.str ⟨#[c]⟩ s.toks, .str ⟨#[d]⟩ (s.toks + 1)] }) z TI TO .ellipsis := Heap.get?_push_of_some _ z₅
  refine wpAny_bind (wpAny_setField_rec z₆ (by simp) fun h₇ z₇ e₇ => ?_)
  replace z₇ : IsZip h₇ z TI TO (rawInt h₅.objs.size) := z₇
  refine wpAny_setField_rec z₇ (by simp) fun h₈ z₈ e₈ => ?_
  replace z₈ : IsZip h₈ z TI TO (rawInt h₅.objs.size) := z₈
  have up : ∀ e o, e ≠ z → h₅.get? e = some o → h₈.get? e = some o := fun e o c1 q => e₈.extBut _ _ c1 (e₇.extBut _ _ c1 (Heap.get?_push_of_some _ q))
  have t₈ : IsPair h₈ h₅.objs.size (.str ⟨#[c]⟩ s.toks) (.str ⟨#[d]⟩ (s.toks + 1)) := e₈.extBut _ _ (Nat.ne_of_gt zlt) (e₇.extBut _ _ (Nat.ne_of_gt zlt) (Heap.get?_push_size _ rfl))
  rw [hsz] at z₈ t₈
  refine wpAny_pure ⟨_, rfl, ?_⟩
  show Q (.ref h₅.objs.size) _
  rw [hsz]
  exact hQ h₈ _ _ _ z₈ (up _ _ D.to_z t₅) (let ⟨o, q, r⟩ := g1₅; ⟨o, up _ o D.a_z q, r⟩) (let ⟨o, q, r⟩ := g2₅; ⟨o, up _ o D.b_z q, r⟩) t₈ fun e o c1 c2 c3 c4 q => up e o c1 (k₅ e o c1 c2 c3 c4 q)
theorem zs_end {z TI TO i1 i2 : Addr} {k : Nat} {x y : Str} {tx ty : Tok} {a b : Value} {Q : Fin → Shared → Prop} (hh : A.handled = none) (D : Zd z TI TO i1 i2)
    (hz : IsZip s.heap z TI TO .none) (hTI : IsPair s.heap TI (.ref i1) (.ref i2)) (hTO : IsPair s.heap TO a b) (h1 : s.heap.IsStrIter i1 asc x tx k) (h2 : s.heap.IsStrIter i2 asc y ty k) (hend : x.cps[k]? = none ∨ y.cps[k]? = none)
    (hE : ∀ h' tk e, (∀ c o, c ≠ z → c ≠ TO → c ≠ i1 → c ≠ i2 → s.heap.get? c = some o → h'.get? c = some o) → (∃ o, h'.get? e = some o ∧ o.cls = .type "StopIteration") → E (.ref e) { s with heap := h', toks := tk }) :
    wpAny (model prog w) A (Builtin.«zip.__next__» ⟨[.ref z], []⟩) Q E s := by
  show wpAny _ _ (field (.ref z) 2 >>= _) _ _ _
  refine wpAny_bind (wpAny_field hz rfl (x := .bool false) rfl ?_)
  show wpAny _ _ (field (.ref z) 3 >>= _) _ _ _
  refine wpAny_bind (wpAny_field hz rfl (x := .ref TI) rfl (wpAny_bind (wpAny_seqItems hTI rfl ?_)))
  show wpAny _ _ (Builtin.SmallTypes.ownedTupleIsFree (.ref z) >>= _) _ _ _
  refine wpAny_bind ?_
  unfold Builtin.SmallTypes.ownedTupleIsFree
  refine wpAny_bind (wpAny_field hz rfl (x := .none) rfl (wpAny_pure ?_))
  simp only [if_true]
  refine wpAny_bind (wpAny_rule (wpAny_bind (wpAny_field hz rfl (x := .ref TO) rfl (wpAny_bind (wpAny_setField_rec hz (by simp) fun h₁ hz₁ e₁ => ?_)))))
  replace hz₁ : IsZip h₁ z TI TO .ellipsis := hz₁
  refine wpAny_bind ?_
  simp only [List.zipIdx_cons, List.zipIdx_nil, List.forIn_cons, List.forIn_nil]
  refine wpAny_bind (wpAny_bind (wpAny_onRaise ?_))
  show wpAny _ _ (Builtin.SmallTypes.nextOf (.ref i1) >>= _) _ _ _
  cases hx : x.cps[k]? with
  | none =>
    refine wpAny_bind (wpAny_nextOf_ascii_end hh (h1.extBut e₁.extBut D.a_z) hx fun h₂ e e₂ he => ?_)
    obtain ⟨oe, hoe, hce⟩ := he
    have z₂ : IsZip h₂ z TI TO .ellipsis := e₂ _ _ D.a_z.symm hz₁
    have ez : e ≠ z := fun q => by subst q; rw [z₂] at hoe; cases hoe; simp at hce
    refine wpAny_setField_rec z₂ (by simp) fun h₃ _ e₃ => hE h₃ _ e (fun c o c1 _ c3 _ q => e₃.extBut _ _ c1 (e₂ _ _ c3 (e₁.extBut _ _ c1 q))) ⟨oe, e₃.extBut _ _ ez hoe, hce⟩
  | some c =>
    have hy : y.cps[k]? = none := by rcases hend with h | h; rw [hx] at h; cases h; exact h
    refine wpAny_bind (wpAny_nextOf_ascii_item (h1.extBut e₁.extBut D.a_z) hx fun h₂ g1 e₂ => wpAny_pure ?_)
    have t₂ : IsPair h₂ TO a b := e₂.extBut _ _ D.to_a (e₁.extBut _ _ D.to_z hTO)
    refine wpAny_bind (wpAny_seqItems t₂ rfl (wpAny_bind (wpAny_updateSeq_pair t₂ fun h₃ t₃ e₃ => ?_)))
    refine wpAny_bind (wpAny_letGo (wpAny_pure (wpAny_bind (wpAny_bind (wpAny_onRaise ?_)))))
    show wpAny _ _ (Builtin.SmallTypes.nextOf (.ref i2) >>= _) _ _ _
    refine wpAny_bind (wpAny_nextOf_ascii_end hh (((h2.extBut e₁.extBut D.b_z).extBut e₂.extBut D.a_b.symm).extBut e₃.extBut D.to_b.symm) hy fun h₄ e e₄ he => ?_)
    obtain ⟨oe, hoe, hce⟩ := he
    have z₄ : IsZip h₄ z TI TO .ellipsis := e₄ _ _ D.b_z.symm (e₃.extBut _ _ D.to_z.symm (e₂.extBut _ _ D.a_z.symm hz₁))
    have ez : e ≠ z := fun q => by subst q; rw [z₄] at hoe; cases hoe; simp at hce
    refine wpAny_setField_rec z₄ (by simp) fun h₅ _ e₅ => hE h₅ _ e (fun c o c1 c2 c3 c4 q => e₅.extBut _ _ c1 (e₄ _ _ c4 (e₃.extBut _ _ c2 (e₂.extBut _ _ c3 (e₁.extBut _ _ c1 q))))) ⟨oe, e₅.extBut _ _ ez hoe, hce⟩
noncomputable def ZSt (z TI TO i1 i2 : Addr) (x y : Str) (tx ty : Tok) (i : Nat) (h : Heap) : Prop :=
  IsZip h z TI TO .none ∧ IsPair h TI (.ref i1) (.ref i2) ∧ (∃ a b, IsPair h TO a b) ∧ h.IsStrIter i1 asc x tx i ∧ h.IsStrIter i2 asc y ty i
noncomputable def ZMd (z TI TO i1 i2 : Addr) (x y : Str) (tx ty : Tok) (i : Nat) (T : Addr) (h : Heap) : Prop :=
  IsZip h z TI TO (rawInt T) ∧ IsPair h TI (.ref i1) (.ref i2) ∧ (∃ a b, IsPair h TO a b) ∧ h.IsStrIter i1 asc x tx (i + 1) ∧ h.IsStrIter i2 asc y ty (i + 1) ∧ T ≠ z ∧ T ≠ TO ∧ T ≠ i1 ∧ T ≠ i2
theorem walkS (hh : A.handled = none) {z TI TO i1 i2 : Addr} (D : Zd z TI TO i1 i2) (x y : Str) (tx ty : Tok) :
    WalksT prog w A z [z, TI, TO, i1, i2] [z, TO, i1, i2] (min x.cps.size y.cps.size)
      (fun i vals => ∃ c d u v, x.cps[i]? = some c ∧ y.cps[i]? = some d ∧ vals = #[.str ⟨#[c]⟩ u, .str ⟨#[d]⟩ v]) (ZSt z TI TO i1 i2 x y tx ty) (ZMd z TI TO i1 i2 x y tx ty) where
  sub := fun c hc => by simp at hc ⊢; rcases hc with rfl | rfl | rfl | rfl <;> simp
  frame := fun i h h' hst hk => by
    obtain ⟨hz, hTI, ⟨a, b, hTO⟩, ⟨o1, h1, r1⟩, ⟨o2, h2, r2⟩⟩ := hst
    exact ⟨hk z (by simp) _ hz, hk TI (by simp) _ hTI, ⟨a, b, hk TO (by simp) _ hTO⟩, ⟨o1, hk i1 (by simp) _ h1, r1⟩, ⟨o2, hk i2 (by simp) _ h2, r2⟩⟩
  item := fun i s Q E hi hst hQ => by
    obtain ⟨hz, hTI, ⟨a, b, hTO⟩, h1, h2⟩ := hst
    have hix : i < x.cps.size := Nat.lt_of_lt_of_le hi (Nat.min_le_left ..)
    have hiy : i < y.cps.size := Nat.lt_of_lt_of_le hi (Nat.min_le_right ..)
    have hT : s.TypeIs (.ref z) "zip" := ⟨_, hz, rfl⟩
    unfold pyNext
    refine wpAny_bind (wpAny_attempt (wpAny_callSpecial?_slot (name := Str.ofString "__next__") hT F.slot_zip_next (wpAny_call_entry F.slot_zip_next hT F.entry_zip_next
      (zs_item D hz hTI hTO h1 h2 (Array.getElem?_eq_getElem hix) (Array.getElem?_eq_getElem hiy) fun h' tk u v a1 a2 a3 a4 a5 hk => wpAny_pure ?_) (F.args_zip_next_1 _))))
    have lt : ∀ {c o}, s.heap.get? c = some o → s.heap.objs.size ≠ c := fun e => Nat.ne_of_gt (Heap.lt_size e)
    exact hQ s.heap.objs.size _ h' tk ⟨_, _, u, v, Array.getElem?_eq_getElem hix, Array.getElem?_eq_getElem hiy, rfl⟩ (Nat.le_refl _) ⟨_, a5, rfl, _, rfl⟩
      ⟨a1, hk _ _ D.ti_z D.ti_to D.ti_a D.ti_b hTI, ⟨_, _, a2⟩, a3, a4, lt hz, lt hTO, (by obtain ⟨_, e, _⟩ := h1; exact lt e), (by obtain ⟨_, e, _⟩ := h2; exact lt e)⟩
      fun c o hc e => hk c o (fun q => hc (by simp [q])) (fun q => hc (by simp [q])) (fun q => hc (by simp [q])) (fun q => hc (by simp [q])) e
  go := fun elts k pos i T s Q E hm hQ => by
    obtain ⟨hz, hTI, ⟨a, b, hTO⟩, h1, h2, _⟩ := hm
    exact wpAny_letOwnedTupleGo_zip hz fun h' hz' hs' => hQ h' ⟨hz', hs'.extBut _ _ D.ti_z hTI, ⟨a, b, hs'.extBut _ _ D.to_z hTO⟩, h1.extBut hs'.extBut D.a_z, h2.extBut hs'.extBut D.b_z⟩ fun c o hc e => hs'.extBut _ _ (fun q => hc (by simp [q])) e
  apart := fun i T h hm hT => by
    obtain ⟨_, _, _, _, _, t1, t2, t3, t4⟩ := hm
    simp at hT
    rcases hT with rfl | rfl | rfl | rfl
    · exact t1 rfl
    · exact t2 rfl
    · exact t3 rfl
    · exact t4 rfl
  done := fun s Q E hst hQ => by
    obtain ⟨hz, hTI, ⟨a, b, hTO⟩, h1, h2⟩ := hst
    have hend : x.cps[min x.cps.size y.cps.size]? = none ∨ y.cps[min x.cps.size y.cps.size]? = none := by
      rcases Nat.le_total x.cps.size y.cps.size with h | h
      · exact .inl (by rw [Nat.min_eq_left h]; exact Array.getElem?_eq_none (Nat.le_refl _))
      · exact .inr (by rw [Nat.min_eq_right h]; exact Array.getElem?_eq_none (Nat.le_refl _))
    have hT : s.TypeIs (.ref z) "zip" := ⟨_, hz, rfl⟩
    unfold pyNext
    refine wpAny_bind (wpAny_attempt (wpAny_callSpecial?_slot (name := Str.ofString "__next__") hT F.slot_zip_next
      (wpAny_call_entry F.slot_zip_next hT F.entry_zip_next (zs_end hh D hz hTI hTO h1 h2 hend fun h' tk e hk he => ?_) (F.args_zip_next_1 _))))
    obtain ⟨o, ho, hc⟩ := he
    refine wpAny_bind (wpAny_isInstance (T := "StopIteration") (b := true) ⟨o, ho, hc⟩ isSubtype_stop (wpAny_pure (hQ _ _ fun c o hc e => hk c o (fun q => hc (by simp [q])) (fun q => hc (by simp [q])) (fun q => hc (by simp [q])) (fun q => hc (by simp [q])) e)))
  self := fun i s Q E hst hQ => wpAny_pyIter_zip hst.1 hQ
noncomputable abbrev itO (x : Str) (t : Tok) : Obj := { cls := .type "str_ascii_iterator", data := .fields #[.str x t, .int 0 0] }
noncomputable abbrev zA (h : Heap) (x : Str) (tx : Tok) : Heap := h.push (itO x tx)
noncomputable abbrev zB (h : Heap) (x y : Str) (tx ty : Tok) : Heap := (zA h x tx).push (itO y ty)
noncomputable abbrev zC (h : Heap) (x y : Str) (tx ty : Tok) : Heap := (zB h x y tx ty).push { cls := .type "tuple", data := .seq #[.ref h.objs.size, .ref (zA h x tx).objs.size] }
noncomputable abbrev zD (h : Heap) (x y : Str) (tx ty : Tok) : Heap := (zC h x y tx ty).push { cls := .type "tuple", data := .seq #[.none, .none] }
noncomputable abbrev zE (h : Heap) (x y : Str) (tx ty : Tok) : Heap := (zD h x y tx ty).push { cls := .type "zip", data := .fields #[.none, .bool false, .bool false, .ref (zB h x y tx ty).objs.size, .ref (zC h x y tx ty).objs.size] }
theorem meets_zipS (x y : Str) (tx ty : Tok) (hx : x.cps.all (· < 128) = true) (hy : y.cps.all (· < 128) = true) :
    Meets (Builtin.«zip.__new__» ⟨[.type "zip", .str x tx, .str y ty], []⟩) (fun _ R s => R (.ok (.ret (.ref (zD s.heap x y tx ty).objs.size))) { s with heap := zE s.heap x y tx ty }) :=
  .of_wp fun prog w A R s h => by
    obtain ⟨hp, g, d, tk, os⟩ := s
    have hsub := sub_zip
    wp_walk using wpAny_pyIter_ascii hx, wpAny_pyIter_ascii hy
    exact ⟨_, rfl, h⟩
end
end Mine
set_option Elab.async false
set_option maxRecDepth 100000
set_option maxHeartbeats 2000000
set_option compiler.extract_closed false
namespace Mine
open PyProof.Rows.LCg (NsObj ns_obj lst lst_snoc fr_but news_but)
section
variable {prog : Program} {w : World} {A : Around} {E : Value → Shared → Prop} {s : Shared} {env : Env}
/-- zip over two texts is made: its objects are new -/
theorem call_zipS {x y : Str} {tx ty : Tok} {Q : Value → Shared → Prop} (hx : x.cps.all (· < 128) = true) (hy : y.cps.all (· < 128) = true)
    (h : ∀ z TI TO i1 i2 h', Zd z TI TO i1 i2 → ZSt z TI TO i1 i2 x y tx ty 0 h' → (∀ b ∈ [z, TI, TO, i1, i2], s.heap.objs.size ≤ b) → (∀ c o, s.heap.get? c = some o → h'.get? c = some o) → Q (.ref z) { s with heap := h' }) :
    wpAny (model prog w) A (call (.type "zip") [.str x tx, .str y ty]) Q E s := by
  refine callType_new F.called_zip (by decide) (F.typeCall_zip_2 _ _) (F.newCall_zip_2 _ _) (fun obj => F.args_object_init_3 obj _ _) F.entry_zip_new (meets_zipS x y tx ty hx hy) ?_
  have z1 : (zA s.heap x tx).objs.size = s.heap.objs.size + 1 := Heap.size_push ..
  have z2 : (zB s.heap x y tx ty).objs.size = s.heap.objs.size + 2 := by rw [Heap.size_push, z1]
  have z3 : (zC s.heap x y tx ty).objs.size = s.heap.objs.size + 3 := by rw [Heap.size_push, z2]
  have z4 : (zD s.heap x y tx ty).objs.size = s.heap.objs.size + 4 := by rw [Heap.size_push, z3]
  have g5 : (zE s.heap x y tx ty).get? (zD s.heap x y tx ty).objs.size = some _ := Heap.get?_push_size _ rfl
  have g4 : (zE s.heap x y tx ty).get? (zC s.heap x y tx ty).objs.size = some _ := Heap.get?_push_of_some _ (Heap.get?_push_size _ rfl)
  have g3 : (zE s.heap x y tx ty).get? (zB s.heap x y tx ty).objs.size = some _ := Heap.get?_push_of_some _ (Heap.get?_push_of_some _ (Heap.get?_push_size _ rfl))
  have g2 : (zE s.heap x y tx ty).get? (zA s.heap x tx).objs.size = some _ := Heap.get?_push_of_some _ (Heap.get?_push_of_some _ (Heap.get?_push_of_some _ (Heap.get?_push_size _ rfl)))
  have g1 : (zE s.heap x y tx ty).get? s.heap.objs.size = some _ := Heap.get?_push_of_some _ (Heap.get?_push_of_some _ (Heap.get?_push_of_some _ (Heap.get?_push_of_some _ (Heap.get?_push_size _ rfl))))
  show _ ∧ _
  rw [z2, z3, z4] at g5
  rw [z1, z2] at g3
  rw [z3] at g4
  rw [z1] at g2
  rw [z4]
  refine ⟨⟨_, g5, rfl⟩, h _ _ _ _ _ _ ⟨?_, ?_, ?_, ?_, ?_, ?_, ?_, ?_, ?_, ?_⟩ ⟨g5, g3, ⟨_, _, g4⟩, ⟨_, g1, rfl, rfl⟩, ⟨_, g2, rfl, rfl⟩⟩ ?_ fun c o q =>
    Heap.get?_push_of_some _ (Heap.get?_push_of_some _ (Heap.get?_push_of_some _ (Heap.get?_push_of_some _ (Heap.get?_push_of_some _ q))))⟩
  case refine_11 =>
    intro b hb
    simp only [List.mem_cons, List.not_mem_nil, or_false] at hb
    rcases hb with rfl | rfl | rfl | rfl | rfl <;> omega
  all_goals (show (_ : Nat) ≠ _; omega)
/-- a comprehension's loop whose target hands back the walk's tuple -/
theorem compLoopT {R : Result → Shared → Prop} {elt target iter : Expr} {ifs : List Expr} {scope : Scope} {pos : Pos} {it acc : Value} (I : Nat → Shared → Prop)
    (turn : ∀ n s, I n s → wpAny (model prog w) A (pyNext it) (fun r s₁ => match r with
      | none => R (.ok .next) s₁
      | some v => wpAny (model prog w) A (letOwnedTupleGo target it v) (fun _ s₂' => wpAny (model prog w) A (assign target env v) (fun _ s₂ =>
          wpAny (model prog w) A (forIn ifs true fun c r => if r = true then do let ok ← isTrue c env (eval c env); pure (ForInStep.yield ok) else pure (ForInStep.yield r)) (fun ok s₃ =>
            if ok = true then wpAny (model prog w) A (eval elt env) (fun x s₄ =>
              wpAny (model prog w) A (call (.builtin "list.append") [acc, x]) (fun _ s₅ => ∃ m, m < n ∧ I m s₅) (notedBy (model prog w) A env fun e s' => R (.error e) s') s₄) (notedBy (model prog w) A env fun e s' => R (.error e) s') s₃
            else ∃ m, m < n ∧ I m s₃) (notedBy (model prog w) A env fun e s' => R (.error e) s') s₂) (notedBy (model prog w) A env fun e s' => R (.error e) s') s₂') (notedBy (model prog w) A env fun e s' => R (.error e) s') s₁) (notedBy (model prog w) A env fun e s' => R (.error e) s') s)
    (n : Nat) (h : I n s) :
    codeAny (model prog w) A (.compLoop (.ListComp elt [⟨target, iter, ifs, 0⟩] scope pos) 0 it acc env) R s := by
  refine codeAny_loop rfl I (fun n s hI => ?_) n h
  show wpAny _ A ((compTurn (.ListComp elt [⟨target, iter, ifs, 0⟩] scope pos) 0 it acc env).onRaise (fun x => do noteFrame x env; theTreesLotGoes x)) _ _ s
  refine wpAny_noted ?_
  rw [compTurn_list]
  refine wpAny_bind (wpAny_standAt (wpAny_bind (wpAny_mono (turn n s hI) (fun r s₁ h₁ => ?_) fun _ _ h' => h')))
  cases r with
  | none => exact wpAny_pure h₁
  | some v =>
    refine wpAny_bind (wpAny_mono h₁ (fun _ s₂' h₂' => ?_) fun _ _ h' => h')
    refine wpAny_bind (wpAny_mono h₂' (fun _ s₂ h₂ => wpAny_bind (wpAny_mono h₂ (fun ok s₃ h₃ => ?_) fun _ _ h' => h')) fun _ _ h' => h')
    cases ok with
    | false => exact wpAny_pure ⟨rfl, h₃⟩
    | true =>
      exact wpAny_bind (wpAny_bind (wpAny_mono h₃ (fun x s₄ h₄ => wpAny_bind (wpAny_mono h₄ (fun _ s₅ h₅ => wpAny_pure (wpAny_pure ⟨rfl, h₅⟩)) fun _ _ h' => h')) fun _ _ h' => h'))
/-- how many of the first i places are alike -/
noncomputable def sameN (x y : Str) : Nat → Nat
  | 0 => 0
  | i + 1 => sameN x y i + (if x.cps[i]? = y.cps[i]? then 1 else 0)
/-- what a comprehension over a zip of two texts wants -/
inductive ZipJ (prog : Program) (w : World) (A : Around) (env : Env) (elt : Expr) (p q : Str) (ifs : List Expr) (scope : Scope) (cl : List (Str × Addr)) (L : Addr) (m : Str → Option Value) (Fin : Shared → Heap → Led → Addr → List Value → Prop) (xv : Value) (s₁ : Shared) : Prop
  | mk (h₀ : Heap) (news : Led) (z TI TO i1 i2 : Addr) (x y : Str) (tx ty : Tok) (hv : xv = .ref z) (Dz : Zd z TI TO i1 i2) (hst : ZSt z TI TO i1 i2 x y tx ty 0 s₁.heap) (hfp : ∀ b ∈ [z, TI, TO, i1, i2], h₀.get? b = none ∧ b ≠ L ∧ ∀ o ∈ news, o.1 ≠ b) (hlen : x.length ≤ 10000) (F : Fr h₀ L s₁.heap m) (N : News h₀ L s₁.heap news)
    (tests : ∀ (i c d : Nat) (u v : Tok) C m₂ h tk E', x.cps[i]? = some c → y.cps[i]? = some d → Fr h₀ L h m → News h₀ L h news → h.Ns C m₂ → m₂ p = some (.str ⟨#[c]⟩ u) → m₂ q = some (.str ⟨#[d]⟩ v) →
      wpAny (model prog w) A (forIn ifs true fun c r => if r = true then do let ok ← isTrue c (compEnvC scope cl C env) (eval c (compEnvC scope cl C env)); pure (ForInStep.yield ok) else pure (ForInStep.yield r))
        (fun ok s₃ => ok = (c == d) ∧ Keeps { s₁ with heap := h, toks := tk } s₃) E' { s₁ with heap := h, toks := tk })
    (elts : ∀ (i c d : Nat) (u v : Tok) C m₂ h tk E', x.cps[i]? = some c → y.cps[i]? = some d → Fr h₀ L h m → News h₀ L h news → h.Ns C m₂ → m₂ p = some (.str ⟨#[c]⟩ u) → m₂ q = some (.str ⟨#[d]⟩ v) →
      wpAny (model prog w) A (eval elt (compEnvC scope cl C env)) (fun _ s₃ => Keeps { s₁ with heap := h, toks := tk } s₃) E' { s₁ with heap := h, toks := tk })
    (fin : ∀ D ys, ys.length = sameN x y (min x.cps.size y.cps.size) → (∀ o ∈ news, o.1 ≠ D) → Fin s₁ h₀ news D ys) : ZipJ prog w A env elt p q ifs scope cl L m Fin xv s₁
inductive ZipI (n : Nat) (x y : Str) (St : Nat → Heap → Prop) (h₀ : Heap) (L C D : Addr) (m : Str → Option Value) (news : Led) (s₁ : Shared) : Nat → Shared → Prop
  | mk (h' : Heap) (tk i : Nat) (ys : List Value) (m' : Str → Option Value) (oC : Obj) (hi : i ≤ n) (hyc : ys.length = sameN x y i) (hyl : ys.length ≤ i) (hst : St i h') (hoC : NsObj oC m') (F : Fr h₀ L h' m) (N : News h₀ L h' ((C, oC) :: (D, lst ys) :: news)) :
      ZipI n x y St h₀ L C D m news s₁ (n + 1 - i) { s₁ with heap := h', toks := tk }
theorem ZipI.elim {n : Nat} {x y : Str} {St : Nat → Heap → Prop} {h₀ : Heap} {L C D : Addr} {m : Str → Option Value} {news : Led} {s₁ : Shared} {G : Nat → Shared → Prop}
    (q : ∀ h' tk i ys m' oC, i ≤ n → ys.length = sameN x y i → ys.length ≤ i → St i h' → NsObj oC m' → Fr h₀ L h' m → News h₀ L h' ((C, oC) :: (D, lst ys) :: news) → G (n + 1 - i) { s₁ with heap := h', toks := tk }) : ∀ k s', ZipI n x y St h₀ L C D m news s₁ k s' → G k s' := fun _ _ h => by
  cases h with
  | mk h' tk i ys m' oC hi hyc hyl hst hoC F N => exact q h' tk i ys m' oC hi hyc hyl hst hoC F N
@[elab_as_elim] theorem ptElim {x y : Str} {i : Nat} {vals : Array Value} {G : Array Value → Prop} (h : ∃ c d u v, x.cps[i]? = some c ∧ y.cps[i]? = some d ∧ vals = #[.str ⟨#[c]⟩ u, .str ⟨#[d]⟩ v])
    (q : ∀ c d u v, x.cps[i]? = some c → y.cps[i]? = some d → G #[.str ⟨#[c]⟩ u, .str ⟨#[d]⟩ v]) : G vals := by
  obtain ⟨c, d, u, v, hc, hd, rfl⟩ := h
  exact q c d u v hc hd
@[elab_as_elim] theorem keepsElim {s s' : Shared} {G : Shared → Prop} (h : Keeps s s') (q : ∀ h' tk, (∀ b o, s.heap.get? b = some o → h'.get? b = some o) → G { s with heap := h', toks := tk }) : G s' := by
  obtain ⟨h', tk, rfl, up⟩ := h
  exact q h' tk up
@[elab_as_elim] theorem keepsOk {b ok : Bool} {s s' : Shared} {G : Bool → Shared → Prop} (h : ok = b ∧ Keeps s s') (q : ∀ h' tk, (∀ b o, s.heap.get? b = some o → h'.get? b = some o) → G b { s with heap := h', toks := tk }) : G ok s' := by
  obtain ⟨rfl, h', tk, rfl, up⟩ := h
  exact q h' tk up
@[elab_as_elim] theorem ZipJ.elim {elt : Expr} {p q : Str} {ifs : List Expr} {scope : Scope} {cl : List (Str × Addr)} {L : Addr} {m : Str → Option Value} {Fin : Shared → Heap → Led → Addr → List Value → Prop} {xv : Value} {s₁ : Shared} {G : Value → Prop} (h : ZipJ prog w A env elt p q ifs scope cl L m Fin xv s₁)
    (k : ∀ (h₀ : Heap) (news : Led) (z TI TO i1 i2 : Addr) (x y : Str) (tx ty : Tok), Zd z TI TO i1 i2 → ZSt z TI TO i1 i2 x y tx ty 0 s₁.heap → (∀ b ∈ [z, TI, TO, i1, i2], h₀.get? b = none ∧ b ≠ L ∧ ∀ o ∈ news, o.1 ≠ b) → x.length ≤ 10000 → Fr h₀ L s₁.heap m → News h₀ L s₁.heap news →
    (∀ (i c d : Nat) (u v : Tok) C m₂ h tk E', x.cps[i]? = some c → y.cps[i]? = some d → Fr h₀ L h m → News h₀ L h news → h.Ns C m₂ → m₂ p = some (.str ⟨#[c]⟩ u) → m₂ q = some (.str ⟨#[d]⟩ v) →
      wpAny (model prog w) A (forIn ifs true fun c r => if r = true then do let ok ← isTrue c (compEnvC scope cl C env) (eval c (compEnvC scope cl C env)); pure (ForInStep.yield ok) else pure (ForInStep.yield r))
        (fun ok s₃ => ok = (c == d) ∧ Keeps { s₁ with heap := h, toks := tk } s₃) E' { s₁ with heap := h, toks := tk }) →
    (∀ (i c d : Nat) (u v : Tok) C m₂ h tk E', x.cps[i]? = some c → y.cps[i]? = some d → Fr h₀ L h m → News h₀ L h news → h.Ns C m₂ → m₂ p = some (.str ⟨#[c]⟩ u) → m₂ q = some (.str ⟨#[d]⟩ v) →
      wpAny (model prog w) A (eval elt (compEnvC scope cl C env)) (fun _ s₃ => Keeps { s₁ with heap := h, toks := tk } s₃) E' { s₁ with heap := h, toks := tk }) →
    (∀ D ys, ys.length = sameN x y (min x.cps.size y.cps.size) → (∀ o ∈ news, o.1 ≠ D) → Fin s₁ h₀ news D ys) → G (.ref z)) : G xv := by
  obtain ⟨h₀, news, z, TI, TO, i1, i2, x, y, tx, ty, rfl, Dz, hst, hfp, hlen, F, N, tests, elts, fin⟩ := h
  exact k h₀ news z TI TO i1 i2 x y tx ty Dz hst hfp hlen F N tests elts fin
theorem zipA {elt iter : Expr} {p q y' : Str} {pp pq pt py : Pos} {x1 : Nat} {ifs : List Expr} {scope : Scope} {cl : List (Str × Addr)} {pos spos : Pos} {L : Addr} {m : Str → Option Value} {Q : Flow → Shared → Prop} (hh : A.handled = none) (hLe : env.locals = L)
    (hsw : swapsWith (.ListComp elt [⟨.Tuple [.Name p pp, .Name q pq] x1 pt, iter, ifs, 0⟩] scope pos) (some (.Name y' py)) spos.line env = pure true)
    (hclos : closureFor scope env = pure cl) (hcell : ∀ y ∈ scope.names, y.2 ≠ .cell) (hkind : scope.kind = .function) (hnames : ∀ y ∈ scope.names, y.2 = .local → scope.names.lookup y.1 = some .local) (hp1 : scope.names.lookup p = some .local) (hq1 : scope.names.lookup q = some .local) (hpq : p ≠ q)
    (hy : env.kindOf y' = some .local) (hp : (env.scope.kind == .class || (env.scope.kind == .module && env.locals != env.globals)) = false)
    (h : wpAny (model prog w) A (eval iter env) (ZipJ prog w A env elt p q ifs scope cl L m (fun s₁ h₀ news D ys => ∀ h tk, Fr h₀ L h (fun z => if z = y' then some (.ref D) else m z) → News h₀ L h ((D, lst ys) :: news) → Q .next { s₁ with heap := h, toks := tk })) E s)
    (hs : ∀ x, foldedSetIterable iter env x = pure x := by intro _; rfl) :
    wpAny (model prog w) A (exec (.Assign [.Name y' py] (.ListComp elt [⟨.Tuple [.Name p pp, .Name q pq] x1 pt, iter, ifs, 0⟩] scope pos) spos) env) Q E s := by
  subst hLe
  rw [exec_Assign_Name_used _ _ _ _ hsw]
  refine wpAny_bind (wpAny_standAt (wpAny_bind ?_))
  show wpAny _ A (do let _ ← comprehension (.ListComp elt [⟨.Tuple [.Name p pp, .Name q pq] x1 pt, iter, ifs, 0⟩] scope pos) scope env _ (newList []) false (eval iter env) (some (assign (.Name y' py) env))) _ _ s
  refine wpAny_bind (wpAny_mono (wpAny_comprehension_free (use := some (assign (.Name y' py) env)) (Q := fun _ s' => Q .next s') rfl hs hclos hkind hnames (wpAny_mono h (fun xv s₁ h₁ => ?_) fun _ _ e => e)) (fun _ s' hq => wpAny_pure (wpAny_pure hq)) fun _ _ e => e)
  refine ZipJ.elim h₁ fun h₀ news z TI TO i1 i2 x y tx ty Dz hst hfp hlen F N tests elts fin => ?_
  clear h
  refine wpAny_pyIter_zip hst.1 ?_
  refine wpAny_newObj_type (wpAny_newFunctionEnv hcell (by intro y hy; simp at hy) (fun h₁ hns₁ hsb₁ => ?_) hkind)
  dsimp only at hns₁ hsb₁ ⊢
  generalize hH : s₁.heap.push { cls := .type "list", dict := none, data := .seq ([] : List Value).toArray } = H at hns₁ hsb₁ ⊢
  generalize hDe : s₁.heap.objs.size = D at *
  generalize hCe : H.objs.size = C at *
  have hC : C = D + 1 := by rw [← hCe, ← hH, Heap.size_push, hDe]
  have lt : ∀ b o, s₁.heap.get? b = some o → b < D := fun b o e => hDe ▸ Heap.lt_size e
  have low : ∀ b, b < D → b ≠ C ∧ b ≠ D := fun b hb => ⟨by rw [hC]; exact Nat.ne_of_lt (Nat.lt_succ_of_lt hb), Nat.ne_of_lt hb⟩
  have hDC : D ≠ C := by rw [hC]; exact Nat.ne_of_lt (Nat.lt_succ_self _)
  have old : ∀ b o, s₁.heap.get? b = some o → h₁.get? b = some o := fun b o e => hsb₁.extBut b o (low b (lt b o e)).1 (Heap.get?_push_of_some _ (hH ▸ Heap.get?_push_of_some _ e))
  have hacc : h₁.get? D = some (lst []) := hsb₁.extBut _ _ hDC (Heap.get?_push_of_some _ (by rw [← hH, ← hDe]; exact Heap.get?_push_size _ rfl))
  have fresh : ∀ a, D ≤ a → h₀.get? a = none := fun a ha => by
    cases e : h₀.get? a with
    | none => rfl
    | some o' => exact absurd (lt _ _ (F.keep a o' e)) (Nat.not_lt.mpr ha)
  have hL : env.locals < D := hDe ▸ F.ns.lt
  have W := walkS (prog := prog) (w := w) hh Dz x y tx ty
  have hfpD : ∀ b ∈ [z, TI, TO, i1, i2], b < D := fun b hb => by
    obtain ⟨e1, e2, ⟨_, _, e3⟩, ⟨_, e4, _⟩, ⟨_, e5, _⟩⟩ := hst
    simp only [List.mem_cons, List.not_mem_nil, or_false] at hb
    rcases hb with rfl | rfl | rfl | rfl | rfl
    · exact lt _ _ e1
    · exact lt _ _ e2
    · exact lt _ _ e3
    · exact lt _ _ e4
    · exact lt _ _ e5
  have hCf : C ∉ [z, TI, TO, i1, i2] := fun hm => (low _ (hfpD _ hm)).1 rfl
  have hDf : D ∉ [z, TI, TO, i1, i2] := fun hm => (low _ (hfpD _ hm)).2 rfl
  obtain ⟨oC₀, heC₀, hoC₀⟩ := ns_obj hns₁
  have offN : ∀ o ∈ news, o.1 ≠ C ∧ o.1 ≠ D := fun o ho => low _ (lt _ _ (N o ho).1)
  have hn : min x.cps.size y.cps.size ≤ sizeLine := by
    have : x.cps.size ≤ 10000 := hlen
    rw [sizeLine_eq]
    omega
  generalize min x.cps.size y.cps.size = n at *
  have N₁ : News h₀ env.locals h₁ ((C, oC₀) :: (D, lst []) :: news) := fun q hq => by
    rcases List.mem_cons.mp hq with rfl | hq
    · exact ⟨heC₀, Ne.symm (low _ hL).1, fresh _ (by rw [hC]; exact Nat.le_succ _)⟩
    rcases List.mem_cons.mp hq with rfl | hq
    · exact ⟨hacc, Ne.symm (low _ hL).2, fresh _ (Nat.le_refl _)⟩
    · exact ⟨old _ _ (N q hq).1, (N q hq).2⟩
  have st₁ : ZSt z TI TO i1 i2 x y tx ty 0 h₁ := W.frame _ _ _ hst fun b _ o e => old b o e
  have offW : ∀ {oC oD : Obj}, ∀ q ∈ ((C, oC) :: (D, oD) :: news), q.1 ∉ [z, TO, i1, i2] := fun q hq hm => by
    have hm' := W.sub _ hm
    rcases List.mem_cons.mp hq with rfl | hq
    · exact hCf hm'
    rcases List.mem_cons.mp hq with rfl | hq
    · exact hDf hm'
    · exact (hfp _ hm').2.2 q hq rfl
  have step : ∀ {g g' : Heap} {oC oD : Obj}, Fr h₀ env.locals g m → News h₀ env.locals g ((C, oC) :: (D, oD) :: news) → (∀ b o, b ∉ [z, TO, i1, i2] → g.get? b = some o → g'.get? b = some o) →
      Fr h₀ env.locals g' m ∧ News h₀ env.locals g' ((C, oC) :: (D, oD) :: news) := fun F' N' hk =>
    ⟨⟨F'.ns.at' fun o e => hk _ o (fun hm => (hfp _ (W.sub _ hm)).2.1 rfl) e, fun b o e => hk b o (fun hm => by rw [(hfp _ (W.sub _ hm)).1] at e; cases e) (F'.keep b o e), F'.above⟩, fun q hq => ⟨hk _ _ (offW q hq) (N' q hq).1, (N' q hq).2⟩⟩
  have loop : ∀ s₃ : Shared, s₃ = { s₁ with heap := h₁, toks := s₁.toks + ([] : List (Str × Value)).length } →
      codeAny (model prog w) A (.compLoop (.ListComp elt [⟨.Tuple [.Name p pp, .Name q pq] x1 pt, iter, ifs, 0⟩] scope pos) 0 (.ref z) (.ref D) (compEnvC scope cl C env)) (compPost (model prog w) A E (some (assign (.Name y' py) env)) (fun _ s' => Q .next s') (.ref D) C) s₃ := by
    rintro s₃ rfl
    refine compLoopT (ZipI n x y (ZSt z TI TO i1 i2 x y tx ty) h₀ env.locals C D m news s₁) (ZipI.elim ?_) (n + 1) (.mk h₁ _ 0 [] _ oC₀ (Nat.zero_le _) rfl (Nat.le_refl _) st₁ hoC₀ (F.keeps old) N₁)
    intro h' tk i ys m' oC hi hyc hyl hst' hoC F' N'
    by_cases hlt : i < n
    · refine W.item i _ _ _ hlt hst' fun T vals h₂ tk₂ hPt _ hT hMid hk₂ => ?_
      revert hT
      refine ptElim hPt fun c d u v hc hd hT => ?_
      refine W.go _ x1 pt i T _ _ _ hMid fun h₃ hst₃ hk₃ => ?_
      have ht₃ : h₃.IsTuple T #[.str ⟨#[c]⟩ u, .str ⟨#[d]⟩ v] := hT.at fun o e => hk₃ T o (W.apart i T h₂ hMid) e
      refine wpAny_assign_Tuple hh ht₃ rfl rfl fun h₄ hx₄ => ?_
      replace hx₄ : Heap.ExtBut h₃.objs.size h₃ h₄ := hx₄
      have up₄ : ∀ b o, h₃.get? b = some o → h₄.get? b = some o := fun b o x => hx₄ b o (Nat.ne_of_lt (Heap.lt_size x)) x
      obtain ⟨F₄, N₄⟩ := step F' N' fun b o hb e => up₄ b o (hk₃ b o hb (hk₂ b o hb e))
      have zC := (N' _ (.head _)).2
      show wpAny _ A (do holding [Value.str ⟨#[d]⟩ v] (assign (.Name p pp) (compEnvC scope cl C env) (.str ⟨#[c]⟩ u)); do holding [] (assign (.Name q pq) (compEnvC scope cl C env) (.str ⟨#[d]⟩ v)); pure ()) _ _ _
      refine wpAny_bind (wpAny_holding (wpAny_assign_Name (wpAny_storeName_local (lookup_relabel_local hp1) (hoC.ns (N₄ _ (.head _)).1) (fun h₅ hn₅ hs₅ => ?_) (by simp [compEnvC, relabel, hkind]))))
      refine wpAny_bind (wpAny_holding (wpAny_assign_Name (wpAny_storeName_local (lookup_relabel_local hq1) hn₅ (fun h₆ hn₆ hs₆ => wpAny_pure ?_) (by simp [compEnvC, relabel, hkind]))))
      replace hs₅ : Heap.SameBut C h₄ h₅ := hs₅
      replace hs₆ : Heap.SameBut C h₅ h₆ := hs₆
      have up₆ : ∀ b o, b ≠ C → h₄.get? b = some o → h₆.get? b = some o := fun b o hb e => hs₆.extBut b o hb (hs₅.extBut b o hb e)
      have st₆ : ZSt z TI TO i1 i2 x y tx ty (i + 1) h₆ := W.frame _ _ _ hst₃ fun b hb o e => up₆ b o (fun q => hCf (q ▸ hb)) (up₄ b o e)
      have F₆ : Fr h₀ env.locals h₆ m := (F₄.change hs₅ zC.1 zC.2).change hs₆ zC.1 zC.2
      have N₆ : News h₀ env.locals h₆ ((D, lst ys) :: news) := fun q hq => by
        have e := N₄ q (.tail _ hq)
        refine ⟨up₆ _ _ ?_ e.1, e.2⟩
        rcases List.mem_cons.mp hq with rfl | hq
        · exact hDC
        · exact (offN q hq).1
      obtain ⟨oC₆, heC, hoC₆⟩ := ns_obj hn₆
      have hc1 : (if q = p then some (Value.str ⟨#[d]⟩ v) else some (Value.str ⟨#[c]⟩ u)) = some (.str ⟨#[c]⟩ u) := if_neg (Ne.symm hpq)
      refine wpAny_mono (tests i c d u v C _ h₆ _ _ hc hd F₆ (fun q hq => N₆ q (.tail _ hq)) hn₆ (by simp [hpq]) (by simp)) (fun ok s₃ hk => ?_) fun _ _ e => e
      refine keepsOk hk fun h₇ tk₇ up₇ => ?_
      have hcd : (x.cps[i]? = y.cps[i]?) ↔ (c == d) = true := by rw [hc, hd]; simp
      have put : ∀ (ys' : List Value) h₉ tk₉, (∀ b o, b ≠ D → h₆.get? b = some o → h₉.get? b = some o) → h₉.get? D = some (lst ys') → ys'.length = sameN x y (i + 1) → ys'.length ≤ i + 1 →
          ∃ k', k' < n + 1 - i ∧ ZipI n x y (ZSt z TI TO i1 i2 x y tx ty) h₀ env.locals C D m news s₁ k' { s₁ with heap := h₉, toks := tk₉ } := by
        intro ys' h₉ tk₉ up hD hl1 hl2
        have zD := (N' _ (.tail _ (.head _))).2
        refine ⟨n + 1 - (i + 1), by omega, .mk h₉ tk₉ (i + 1) ys' _ oC₆ hlt hl1 hl2 (W.frame _ _ _ st₆ fun b hb o e => up b o (fun q => hDf (q ▸ hb)) e) hoC₆ ⟨F₆.ns.at' fun o e => up _ o (Ne.symm zD.1) e, fun b o e => up b o (fun q => by rw [q, zD.2] at e; cases e) (F₆.keep b o e), F₆.above⟩ (fun q hq => ?_)⟩
        rcases List.mem_cons.mp hq with rfl | hq
        · exact ⟨up _ _ (Ne.symm hDC) heC, zC⟩
        rcases List.mem_cons.mp hq with rfl | hq
        · exact ⟨hD, zD⟩
        · exact ⟨up _ _ (offN q hq).2 (N₆ q (.tail _ hq)).1, (N₆ q (.tail _ hq)).2⟩
      cases hcb : (c == d) with
      | false =>
        simp only [Bool.false_eq_true, if_false]
        refine put ys h₇ tk₇ (fun b o _ e => up₇ b o e) (up₇ _ _ (N₆ _ (.head _)).1) ?_ (Nat.le_succ_of_le hyl)
        show _ = sameN x y i + (if x.cps[i]? = y.cps[i]? then 1 else 0)
        rw [if_neg (fun e => by rw [hcd.mp e] at hcb; cases hcb), Nat.add_zero, hyc]
      | true =>
        simp only [if_true]
        refine wpAny_mono (elts i c d u v C _ h₇ _ _ hc hd (F₆.keeps up₇) (fun q hq => ⟨up₇ _ _ (N₆ q (.tail _ hq)).1, (N₆ q (.tail _ hq)).2⟩) (hn₆.at' fun o e => up₇ _ o e) (by simp [hpq]) (by simp)) (fun yv s₄ hk => ?_) fun _ _ e => e
        refine keepsElim hk fun h₈ tk₈ up₈ => ?_
        refine append_at (hsz := by rw [List.size_toArray]; exact Nat.le_trans (Nat.le_trans hyl hi) hn) (up₈ _ _ (up₇ _ _ (N₆ _ (.head _)).1)) fun h₉ hs₉ hD₉ => ?_
        refine put (ys ++ [yv]) h₉ tk₈ (fun b o hb e => hs₉.extBut b o hb (up₈ b o (up₇ b o e))) (hD₉.trans (congrArg some (lst_snoc ys yv))) ?_ (by rw [List.length_append, List.length_singleton]; omega)
        show _ = sameN x y i + (if x.cps[i]? = y.cps[i]? then 1 else 0)
        rw [if_pos (hcd.mpr hcb), List.length_append, List.length_singleton, hyc]
    · obtain rfl : i = n := Nat.le_antisymm hi (Nat.not_lt.mp hlt)
      refine W.done _ _ _ hst' fun h₂ tk₂ hk₂ => ?_
      obtain ⟨F₂, N₂⟩ := step F' N' hk₂
      show wpAny _ A (assign (.Name y' py) env (.ref D)) _ _ _
      refine wpAny_assign_Name (wpAny_storeName_local hy F₂.ns (fun h₃ hn₃ hs₃ => ?_) hp)
      have none_ : h₀.get? env.locals = none := kts_self F₂
      have zC := (N₂ _ (.head _)).2
      have F₃ : Fr h₀ env.locals h₃ (fun z => if z = y' then some (.ref D) else m z) := ⟨hn₃, fun b o' e => hs₃.extBut b o' (fun q => by rw [show b = env.locals from q, none_] at e; cases e) (F₂.keep b o' e), F₂.above⟩
      refine ⟨_, ((hoC.ns (N₂ _ (.head _)).1).sameBut hs₃ zC.1), fun h4 hs4 => fin D ys hyc (fun o ho => (offN o ho).2) h4 _ (F₃.change hs4 zC.1 zC.2) fun q hq => ?_⟩
      have e := N₂ q (.tail _ hq)
      refine ⟨hs4.extBut _ _ ?_ (hs₃.extBut _ _ e.2.1 e.1), e.2⟩
      rcases List.mem_cons.mp hq with rfl | hq
      · exact hDC
      · exact (offN q hq).1
  exact codeAny_compStart_list (loop _ rfl) (W.self 0 _ _ _ st₁ (loop _ rfl))
end
end Mine
set_option Elab.async false
set_option maxRecDepth 100000
set_option maxHeartbeats 2000000
set_option compiler.extract_closed false
namespace Mine
local macro_rules | `(tactic| walk_at $s:str) => `(tactic| k_extra $s)
theorem fillP15 : r = r ∧ K = K := by k_fill; exact ⟨rfl, rfl⟩
theorem sameN_le (x y : Str) : ∀ n, sameN x y n ≤ n
  | 0 => Nat.le_refl _
  | n + 1 => by
    have := sameN_le x y n
    show sameN x y n + (if x.cps[n]? = y.cps[n]? then 1 else 0) ≤ n + 1
    split <;> omega
theorem sameN_full (x y : Str) : ∀ n, sameN x y n = n ↔ ∀ i, i < n → x.cps[i]? = y.cps[i]?
  | 0 => ⟨fun _ i h => absurd h (Nat.not_lt_zero _), fun _ => rfl⟩
  | n + 1 => by
    have h := sameN_le x y n
    have ih := sameN_full x y n
    show sameN x y n + (if x.cps[n]? = y.cps[n]? then 1 else 0) = n + 1 ↔ _
    constructor
    · intro e i hi
      split at e
      · rename_i hh
        rcases Nat.lt_or_ge i n with h' | h'
        · exact ih.mp (by omega) i h'
        · rw [show i = n by omega]; exact hh
      · omega
    · intro e
      rw [if_pos (e n (Nat.lt_succ_self n)), ih.mpr fun i hi => e i (Nat.lt_succ_of_lt hi)]
theorem newsTl {h₀ : Heap} {L : Addr} {h : Heap} {o : Addr × Obj} {news : Led} (N : News h₀ L h (o :: news)) : News h₀ L h news := fun q hq => N q (.tail _ hq)
theorem one_same (c d : Nat) : (({ cps := #[c] } : Str) == { cps := #[d] }) = (c == d) := by
  refine Bool.eq_iff_iff.mpr ?_
  simp
theorem begins_no (x y : Str) (h : ¬ y.length ≤ x.length) : Txt.startswith x y = false := by
  unfold Txt.startswith
  rw [decide_eq_false (by omega)]
  rfl
theorem begins_eq (x y : Str) (h : y.length ≤ x.length) : Txt.startswith x y = decide ((sameN x y (min x.cps.size y.cps.size) : Int) = (y.length : Int)) := by
  have e : min x.cps.size y.cps.size = y.length := Nat.min_eq_right h
  unfold Txt.startswith
  rw [decide_eq_true (by omega), Bool.true_and, e]
  refine Bool.eq_iff_iff.mpr ?_
  rw [decide_eq_true_iff, Int.ofNat_inj, sameN_full, PySem.StrLaws.subAt_eq, beq_iff_eq, List.drop_zero]
  have hy' : y.length = y.cps.toList.length := by simp [Str.length]
  have hx' : x.length = x.cps.toList.length := by simp [Str.length]
  have gx : ∀ i : Nat, x.cps[i]? = x.cps.toList[i]? := fun i => Array.getElem?_toList.symm
  have gy : ∀ i : Nat, y.cps[i]? = y.cps.toList[i]? := fun i => Array.getElem?_toList.symm
  constructor
  · intro e i hi
    rw [gx, gy, ← e, List.getElem?_take, if_pos hi]
  · intro e
    refine List.ext_getElem? fun i => ?_
    rw [List.getElem?_take]
    split
    · rename_i hi
      rw [← gx, ← gy]; exact e i hi
    · rename_i hi
      exact (List.getElem?_eq_none (by omega)).symm
section
set_option maxHeartbeats 8000000
theorem c_begins (w : World) (news : Led) (x y : Str) (tx ty : Tok) (hx : x.length ≤ 1000) (hy : y.length ≤ 1000) (ax : x.cps.all (· < 128) = true) (ay : y.cps.all (· < 128) = true) : Ctr w 205 [.str x tx, .str y ty] news 1 12 (fun r n => r = .bool (Txt.startswith x y) ∧ n = news) False := by
  intro loose mean mg mb dp un gd cn cs a ccd cl outer A₀ base h₀ L m s Q E B F X N T hk hd hu hret herr
  k_with_none
  refine wpAny_call ?_
  k_dflt (refine' code_def ?k1 ?k2 ?k3 ?k4 ?k5 ?kA ?kF ?kK ?k6 ?k7 ?k8 ?k9 ?kB ?_ ?c2 ?c3 ?c4 ?c5; (case kA => exact rfl); (case kF => exact rfl); (case kK => assumption); (case k1 => k_asm); (case k2 => k_asm); (case k3 => k_asm); (case k4 => k_asm); (case k5 => k_asm); (case k6 => k_is); (case k7 => k_is); (case k8 => ktr_room); (case k9 => exact BindsTo.of_eq rfl); (case c5 => decide); (case kB => exact locs rfl); (case c2 => exact rfl); (case c3 => exact rfl); (case c4 => exact rfl); k_whole)
  intro g1 L1 h1 FG F1 N1 B1 X1 T1
  replace F1 : Fr g1 L1 h1 (fun y9 => List.lookup y9 [(("stem" : Str), .str y ty), (("name" : Str), .str x tx)]) := F1
  clear F N
  dsimp only
  k_unmd
  k_fold
  k_with "exec Assign cons ListComp" => (refine Stop.out ?_)
  k_with "call type:zip" => (refine Stop.out ?_)
  k_steps
  refine Stop.in ?_
  refine' zipA (L := L1) (m := fun y9 => List.lookup y9 [(Str.ofString "stem", Value.str y ty), (Str.ofString "name", Value.str x tx)]) ?h1 ?h2 ?h3 ?h4 ?h5 ?h6 ?h7 ?h8 ?h9 ?h10 ?h11 ?h12 ?h13 ?h14
  case h1 => exact rfl
  case h2 => exact rfl
  case h3 => exact rfl
  case h4 => exact rfl
  case h5 => decide
  case h6 => exact rfl
  case h7 => decide
  case h8 => exact rfl
  case h9 => exact rfl
  case h10 => decide
  case h11 => exact rfl
  case h12 => exact rfl
  case h14 => intro _; exact rfl
  case h13 =>
    k_steps
    refine Stop.in ?_
    refine call_zipS ax ay fun z TI TO i1 i2 h2 Dz st fp up => ?_
    refine ⟨g1, news, z, TI, TO, i1, i2, x, y, tx, ty, rfl, Dz, st, ?fp, by omega, F1.keeps up, (fun q hq => ⟨up _ _ (N1 q hq).1, (N1 q hq).2⟩), ?tests, ?elts, ?fin⟩
    case fp =>
      intro b hb
      have hb' := fp b hb
      refine ⟨?_, ?_, ?_⟩
      · cases e : g1.get? b with
        | none => rfl
        | some o' => exact absurd (Heap.lt_size (F1.keep b o' e)) (Nat.not_lt.mpr hb')
      · exact fun e => absurd F1.ns.lt (by rw [← e]; exact Nat.not_lt.mpr hb')
      · exact fun o ho e => absurd (Heap.lt_size (N1 o ho).1) (by rw [e]; exact Nat.not_lt.mpr hb')
    case tests =>
      clear F1 N1
      intro i c d u v C m2 h tk3 E3 hc hd3 F3 N3 I3 hm3 hm4
      k_steps
      · exact one_same c d
      · exact ⟨_, _, rfl, fun _ _ e => e⟩
    case elts =>
      clear F1 N1
      intro i c d u v C m2 h tk3 E3 hc hd3 F3 N3 I3 hm3 hm4
      k_steps
      exact ⟨_, _, rfl, fun _ _ e => e⟩
    case fin =>
      clear F1 N1
      intro D ys hys hne h3 tk3 F3 N3
      have hl2 : ys.length ≤ 1000 := by
        have := sameN_le x y (min x.cps.size y.cps.size)
        have h1 : x.cps.size ≤ 1000 := hx
        omega
      k_with "call builtin:len" => (k_here; k_dflt (refine' PyProof.Rows.len_list (News.isList ?N ?m) ?f ?_; (case N => k_asm); (case m => exact .head _); (case f => (rw [List.size_toArray]; omega))); rw [List.size_toArray])
      k_steps
      · (rename (_ : Int) ≤ _ => hle)
        (rename News h₀ _ _ _ => NN); (rename Fr h₀ _ _ _ => FF); exact hret _ _ _ _ ⟨(by rw [begins_eq x y (by omega), ← hys]; refine congrArg Value.bool (Bool.eq_iff_iff.mpr ?_); simp), rfl⟩ FF (newsTl NN)
      · (rename ¬ (_ : Int) ≤ _ => hle)
        (rename News h₀ _ _ _ => NN); (rename Fr h₀ _ _ _ => FF); exact hret _ _ _ _ ⟨(by rw [begins_no x y (by omega)]; exact congrArg Value.bool (decide_eq_false hle)), rfl⟩ FF (newsTl NN)
theorem ck_begins (w : World) (news : Led) (x y : Str) (tx ty : Tok) (hx : x.length ≤ 1000) (hy : y.length ≤ 1000) (ax : x.cps.all (· < 128) = true) (ay : y.cps.all (· < 128) = true) : Ctr w 205 [.str x tx, .str y ty] news 1 12 (KOk fun Z9 => Z9 (.bool (Txt.startswith x y)) news) False :=
  (c_begins w news x y tx ty hx hy ax ay).mono fun _ _ h Z9 hk => by
    obtain ⟨rfl, rfl⟩ := h
    exact hk 
end

end Mine
set_option Elab.async false
set_option maxRecDepth 100000
set_option maxHeartbeats 2000000
set_option compiler.extract_closed false
namespace Mine
local macro_rules | `(tactic| walk_at $s:str) => `(tactic| k_extra $s)
theorem fillP16 : r = r ∧ K = K := by k_fill; exact ⟨rfl, rfl⟩
section
set_option maxHeartbeats 8000000
noncomputable def meantOf (x : Str) : Str := (cmdOf x).getD (Str.ofString "refused")
theorem shortsSplit : ∀ q ∈ shorts, Txt.split (q.1 ++ Str.ofString "=" ++ q.2) (Str.ofString "=") = [q.1, q.2] ∧ (q.1 ++ Str.ofString "=" ++ q.2).length ≤ 100 ∧ (names.any fun y => y == q.1) = false ∧ (q.2 != Str.ofString "") = true ∧ q.1.length ≤ 20 := by decide +kernel
theorem strValues_two {ls : List (Str × Tok)} {a b : Str} (h : ls.map (·.1) = [a, b]) : ∃ t u, ls = [(a, t), (b, u)] := by
  match ls, h with
  | [(x, t), (y, u)], h =>
    simp only [List.map_cons, List.map_nil, List.cons.injEq, and_true] at h
    obtain ⟨rfl, rfl⟩ := h
    exact ⟨t, u, rfl⟩
theorem getS_at {l : List (Str × Str)} {i : Nat} {x b : Str} (h : l[i]? = some (x, b)) : getS (l.drop i) x = b := by
  obtain ⟨hi, e⟩ := List.getElem?_eq_some_iff.mp h
  rw [List.drop_eq_getElem_cons hi, e]
  show (if (x == x) = true then b else _) = b
  rw [if_pos (beq_self_eq_true x)]
theorem getS_next {l : List (Str × Str)} {i : Nat} {x a b : Str} (h : l[i]? = some (a, b)) (hb : (a == x) = false) : getS (l.drop i) x = getS (l.drop (i + 1)) x := by
  obtain ⟨hi, e⟩ := List.getElem?_eq_some_iff.mp h
  rw [List.drop_eq_getElem_cons hi, e]
  show (if (a == x) = true then b else _) = _
  rw [hb, if_neg Bool.false_ne_true]
theorem meant_short {x b : Str} (h : getS shorts x = b) (h1 : (names.any fun y => y == x) = false) (h2 : (b != Str.ofString "") = true) : meantOf x = b := by
  unfold meantOf cmdOf
  rw [h1, if_neg Bool.false_ne_true, h, if_pos h2]
  rfl
noncomputable abbrev mOf {h₀ h : Heap} {L : Addr} {m : Str → Option Value} (_ : Fr h₀ L h m) : Str → Option Value := m
theorem namesFacts : ∀ z ∈ names, z.length ≤ 1000 ∧ z.cps.all (· < 128) = true := by decide +kernel
theorem strsSnoc {vs : List Value} {xs : List Str} {y : Str} {t : Tok} (h : StrsAre vs xs) : StrsAre (vs ++ [.str y t]) (xs ++ [y]) := by
  induction h with
  | nil => exact .cons _ _ .nil
  | cons z u _ ih => exact .cons _ _ ih
theorem meant_one {x : Str} (h0 : getS shorts x = getS [] x) (h1 : (names.any fun y => y == x) = false) (h : (names.filter (fun z => Txt.startswith z x)).length = 1) : meantOf x = (names.filter (fun z => Txt.startswith z x)).getD 0 Str.empty := by
  unfold meantOf cmdOf
  rw [h1, if_neg Bool.false_ne_true, h0, show getS [] x = Str.ofString "" from rfl, if_neg (show ¬ (Str.ofString "" != Str.ofString "") = true by decide)]
  match names.filter (fun z => Txt.startswith z x), h with
  | [a], _ => rfl
theorem meant_many {x : Str} (h0 : getS shorts x = getS [] x) (h1 : (names.any fun y => y == x) = false) (h : (names.filter (fun z => Txt.startswith z x)).length ≠ 1) : meantOf x = Str.ofString "refused" := by
  unfold meantOf cmdOf
  rw [h1, if_neg Bool.false_ne_true, h0, show getS [] x = Str.ofString "" from rfl, if_neg (show ¬ (Str.ofString "" != Str.ofString "") = true by decide)]
  match names.filter (fun z => Txt.startswith z x), h with
  | [], _ => rfl
  | [a], h => exact absurd rfl h
  | _ :: _ :: _, _ => rfl
theorem meant_name {x : Str} (h1 : (names.any fun y => y == x) = true) : meantOf x = x := by
  unfold meantOf cmdOf
  rw [if_pos h1]
  rfl
theorem c_meant (w : World) (news : Led) (x : Str) (t : Tok) (hx : x.length ≤ 1000) (ax : x.cps.all (· < 128) = true) : Ctr w 210 [.str x t] news 3 20 (fun r n => ∃ t', r = .str (meantOf x) t' ∧ n = news) False := by
  intro loose mean mg mb dp un gd cn cs a ccd cl outer A₀ base h₀ L m s Q E B F X N T hk hd hu hret herr
  k_with_none
  refine wpAny_call ?_
  k_dflt (refine' code_defC ?k1 ?k2 ?k3 ?k4 ?k5 ?kA ?kF ?kK ?k6 ?k7 ?k8 ?k9 ?kB ?kD ?_ ?c2 ?c3 ?c4; (case kA => exact rfl); (case kF => exact rfl); (case kK => assumption); (case k1 => k_asm); (case k2 => k_asm); (case k3 => k_asm); (case k4 => k_asm); (case k5 => k_asm); (case k6 => k_is); (case k7 => k_is); (case k8 => ktr_room); (case k9 => exact BindsTo.of_eq rfl); (case kB => exact rfl); (case kD => decide +kernel); (case c2 => exact rfl); (case c3 => exact rfl); (case c4 => exact rfl); k_whole)
  intro g1 L1 h1 tk1 cells1 FG F1 N1 Y1 B1 X1 T1 l1
  (try k_lt l1); k_cells Y1; (try simp only [List.cons_append, List.nil_append] at N1)
  clear F N
  dsimp only
  k_unmd
  k_fold
  k_with "pyIter ref" => (refine Stop.out ?_)
  k_with "exec Assign cons ListComp" => (refine Stop.out ?_)
  k_with "assign Tuple" => (refine Stop.out ?_)
  k_with "call ref" => (k_here; k_dflt (refine' Ctr.useK (ck_shorts _ _) ?B ?F ?X ?N ?T ?hk ?hd ?hu ?_ (fun f => f.elim); (case B => k_asm); (case F => k_asm); (case X => k_asm); (case N => k_asm); (case T => k_asm); (case hk => first | exact rfl | assumption); (case hd => ktr_room); (case hu => ktr_units)); intro xs9 ts9 hxl9 hxw9 h9 tk9 F9 N9; try dsimp only)
  k_steps
  refine Stop.in ?_
  (rename List.map _ _ = Txt.words _ => hw); (rename StrsAre _ _ => hS); (rename Heap.IsList _ _ _ => hL)
  (rename News g1 _ _ _ => N3); (rename Fr g1 _ _ _ => F3)
  rw [hxw9] at hw
  (rename Obj => oc)
  (rename List (Str × Tok) => ls)
  have hne0 : ∀ q ∈ ((L1 + 1, oc) :: news : Led), q.1 ≠ h9.objs.size := by
    intro q hq
    (rename News g1 L1 h9 _ => N9)
    exact Nat.ne_of_lt (Heap.lt_size (N9 q hq).1)
  refine iter_listL (fun i m₁ nx => nx = (L1 + 1, oc) :: news ∧ getS shorts x = getS (shorts.drop i) x) rfl hL (N3 _ (.head _)).2.1 hne0 F3 (fun q hq => N3 q (.tail _ hq)) ⟨rfl, rfl⟩ ?turn ?done
  case turn =>
    clear N3 F3 hL
    repeat (rename News g1 _ _ _ => N2; clear N2)
    repeat (rename Fr g1 _ _ _ => F2; clear F2)
    rintro i v m₁ news₁ h4 tk4 own hv hadr hoff ⟨rfl, hns⟩ F4 N4
    obtain ⟨z, u, rfl, hz⟩ := strsGet hS hv
    rw [hw, List.getElem?_map] at hz
    obtain ⟨⟨za, zb⟩, hz2, hz3⟩ := Option.map_eq_some_iff.mp hz
    have hq := shortsSplit _ (List.mem_of_getElem? hz2)
    dsimp only at hq hz3
    rw [hz3] at hq
    obtain ⟨hq1, hzl, hq3, hq4, hq5⟩ := hq
    k_steps
    refine Stop.in ?_
    (rename List.map _ _ = Txt.split _ _ => hw5)
    rw [hq1] at hw5
    obtain ⟨t5, u5, rfl⟩ := strValues_two hw5
    (rename Heap.IsList _ _ _ => hL5)
    replace hL5 : Heap.IsList _ _ #[.str za t5, .str zb u5] := hL5
    (rename News g1 _ _ _ => N5)
    (rename Fr g1 _ _ _ => F5)
    refine kun_list F5 N5 hL5 rfl rfl rfl fun h6 F6 N6 => ?_
    clear F5 N5 hL5
    dsimp only [Array.toList]
    k_steps
    · (rename (_ == x) = true => hb)
      obtain rfl := eq_of_beq hb
      (rename News h₀ _ _ _ => NN); (rename Fr h₀ _ _ _ => FF)
      refine hret _ _ _ _ ⟨_, (by rw [meant_short (hns.trans (getS_at hz2)) hq3 hq4]), rfl⟩ FF (fun q hq => NN q (.tail _ (.tail _ (List.mem_append_left _ hq))))
    · (rename (_ == x) = false => hb)
      (rename News g1 _ _ _ => N7); (rename Fr g1 _ _ _ => F7)
      exact InvEndN.intro (nx := (L1 + 1, oc) :: news) F7 N7 ⟨rfl, hns.trans (getS_next hz2 hb)⟩ rfl (fun p hp => .tail _ (List.mem_append_left _ hp)) (fun p hp => .tail _ (List.mem_append_right _ hp))
  case done =>
    clear N3 F3 hL
    repeat (rename News g1 _ _ _ => N2; clear N2)
    repeat (rename Fr g1 _ _ _ => F2; clear F2)
    rintro m₁ news₁ h4 tk4 ⟨rfl, hns⟩ F4 N4
    have hl9 : (strValues ls).length = shorts.length := (strsLen hS).trans (by rw [hw, List.length_map])
    rw [hl9, List.drop_length] at hns
    k_with "call ref" => (k_here; k_dflt (refine' Ctr.useK (ck_names _ _) ?B ?F ?X ?N ?T ?hk ?hd ?hu ?_ (fun f => f.elim); (case B => k_asm); (case F => k_asm); (case X => k_asm); (case N => k_asm); (case T => k_asm); (case hk => first | exact rfl | assumption); (case hd => ktr_room); (case hu => ktr_units)); intro xs8 ts8 hxl8 hxw8 h9 tk9 F9 N9; try dsimp only)
    k_steps
    · (rename List.any _ _ = true => hb); (rename List.map _ _ = Txt.words _ => hw8)
      rw [hw8, hxw8] at hb
      (rename News h₀ _ _ _ => NN); (rename Fr h₀ _ _ _ => FF)
      refine hret _ _ _ _ ⟨_, (by rw [meant_name hb]), rfl⟩ FF (fun q hq => NN q (.tail _ (.tail _ hq)))
    · (rename List.any _ _ = false => hb); (rename List.map _ _ = Txt.words _ => hw8); (rename StrsAre _ _ => hS8)
      rw [hw8, hxw8] at hb hS8
      (rename Heap.IsList _ _ _ => hL8); (rename List (Str × Tok) => ls8)
      (rename News g1 _ _ _ => N8); (rename Fr g1 _ _ _ => F8)
      refine Stop.in ?_
      refine' compA (m := mOf F8) ?h1 ?h2 ?h3 ?h4 ?h5 ?h6 ?h7 ?h8 ?h9 ?h10 ?h11 ?hs
      case h1 => exact rfl
      case h2 => exact rfl
      case h3 => exact rfl
      case h4 => exact rfl
      case h5 => decide
      case h6 => exact rfl
      case h7 => decide
      case h8 => exact rfl
      case h9 => exact rfl
      case h10 => exact rfl
      case hs => intro _; exact rfl
      case h11 =>
        unfold mOf
        k_steps
        refine CompJ.stay (h₀ := g1) (news := (_, _) :: (L1 + 1, oc) :: news) (fun i ys => StrsAre ys ((names.take i).filter (fun z => Txt.startswith z x))) (.lst _ _) (.head _) ?len F8 N8 .nil ?turn ?fin
        case len => (rw [strsLen hS8, namesLen, sizeLine_eq]; decide)
        case turn =>
          clear F8 N8 hL8
          repeat (rename News g1 _ _ _ => N2; clear N2)
          repeat (rename Fr g1 _ _ _ => F2; clear F2)
          intro i v ys h3 tk3 oI oC I C D m2 E3 hv hys hoC
          refine strElim (v := v) (P := fun z => names[i]? = some z) (strsGet hS8 hv) fun z u hz hm2 F3 N3 hap => ?_
          have I3 := hoC.ns (N3 _ (.tail _ (.head _))).1
          have hzf := namesFacts z (List.mem_of_getElem? hz)
          k_with "call ref" => (k_here; k_dflt (refine' Ctr.useK (ck_begins _ _ z x _ _ hzf.1 hx hzf.2 ax) ?B ?F ?X ?N ?T ?hk ?hd ?hu ?_ (fun f => f.elim); (case B => k_asm); (case F => k_asm); (case X => k_asm); (case N => k_asm); (case T => k_asm); (case hk => first | exact rfl | assumption); (case hd => ktr_room); (case hu => ktr_units)); intro  h9 tk9 F9 N9; try dsimp only)
          k_steps
          · (rename Txt.startswith _ _ = true => hsw); (rename News g1 _ _ _ => N7); (rename Fr g1 _ _ _ => F7)
            refine TEnd.stay F7 N7 hap ?_
            rw [take_succ_filter _ _ _ _ hz, hsw, if_pos rfl]
            exact strsSnoc hys
          · (rename Txt.startswith _ _ = false => hsw); (rename News g1 _ _ _ => N7); (rename Fr g1 _ _ _ => F7)
            refine TEnd.stay F7 N7 hap ?_
            rw [take_succ_filter _ _ _ _ hz, hsw, if_neg Bool.false_ne_true, List.append_nil]
            exact hys
        case fin =>
          clear F8 N8 hL8
          repeat (rename News g1 _ _ _ => N2; clear N2)
          repeat (rename Fr g1 _ _ _ => F2; clear F2)
          intro D ys hys hne h3 tk3 F3 N3
          rw [List.take_of_length_le (by rw [strsLen hS8]; exact Nat.le_refl _)] at hys
          have hfil : (names.filter (fun z => Txt.startswith z x)).length ≤ 40 := by
            have := List.length_filter_le (fun z => Txt.startswith z x) names
            rw [namesLen] at this
            exact this
          have hyl := strsLen hys
          k_with "call builtin:len" => (k_here; k_dflt (refine' PyProof.Rows.len_list (News.isList ?N ?m) ?f ?_; (case N => k_asm); (case m => exact .head _); (case f => (rw [List.size_toArray]; omega))); rw [List.size_toArray])
          k_with "subscriptTail" => (k_here; k_dflt (refine' KTb.item_list (News.isList ?N ?m) hys (by decide) ?f (by decide) ?_ ?_; (case N => k_asm); (case m => k_mem); (case f => omega); (rotate_left; with_unfolding_all exact rfl)); intro t9 hlt9)
          k_steps
          · (rename News h₀ _ _ _ => NN); (rename Fr h₀ _ _ _ => FF); (rename ((_ : Int) = 1) => he)
            exact hret _ _ _ _ ⟨_, (by rw [meant_one hns hb (by rw [← hyl]; omega)]; rfl), rfl⟩ FF (newsTl (newsTl (newsTl NN)))
          · (rename News h₀ _ _ _ => NN); (rename Fr h₀ _ _ _ => FF); (rename ((_ : Int) ≠ 1) => he)
            exact hret _ _ _ _ ⟨_, (by rw [meant_many hns hb (by rw [← hyl]; omega)]), rfl⟩ FF (newsTl (newsTl (newsTl NN)))
theorem ck_meant (w : World) (news : Led) (x : Str) (t : Tok) (hx : x.length ≤ 1000) (ax : x.cps.all (· < 128) = true) : Ctr w 210 [.str x t] news 3 20 (KOk fun Z9 => ∀ t', Z9 (.str (meantOf x) t') news) False :=
  (c_meant w news x t hx ax).mono fun _ _ h Z9 hk => by
    obtain ⟨t', rfl, rfl⟩ := h
    exact hk t'
end

end Mine
set_option Elab.async false
set_option maxRecDepth 100000
set_option maxHeartbeats 2000000
set_option compiler.extract_closed false
namespace Mine
theorem isW_strs {o : Obj} {vs : List Value} {xs : List Str} {n : Nat} (h : StrsAre vs xs) (e : o.data = .seq vs.toArray n) : isW o = false := by
  unfold isW
  rw [e]
  cases h with
  | nil => rfl
  | cons y t h =>
    dsimp only
theorem c_pickLS (w : World) (rest : Led) (wa ca : Addr) (o : Obj) (la : Addr) (vs : List Value) (xs : List Str) (kk : Nat) (hw : Well ca o) (hn : NoW wa rest) (hc : CellsIn rest ca) (ht : (la, W.listOf (List.toArray vs) kk) ∈ rest) (hS : StrsAre vs xs) (l0 : 0 < xs.length) (l1 : xs.length ≤ 1000) :
    Ctr w 186 [.ref wa, .ref la] ((wa, o) :: rest) 2 12 (fun r n => ∃ y t o', r = .str y t ∧ y ∈ xs ∧ Well ca o' ∧ n = (wa, o') :: rest) False :=
  (c_pickL w rest wa ca o la vs kk hw hn hc ht (by rw [strsLen hS]; exact l0) (by rw [strsLen hS]; exact l1)).mono fun r n h => by
    obtain ⟨v, o', rfl, hv, hw', hn'⟩ := h
    obtain ⟨y, t, rfl, hy⟩ := memStr hS hv
    exact ⟨y, t, o', rfl, hy, hw', hn'⟩
theorem ck_pickLS (w : World) (rest : Led) (wa ca : Addr) (o : Obj) (la : Addr) (vs : List Value) (xs : List Str) (kk : Nat) (hw : Well ca o) (hn : NoW wa rest) (hc : CellsIn rest ca) (ht : (la, W.listOf (List.toArray vs) kk) ∈ rest) (hS : StrsAre vs xs) (l0 : 0 < xs.length) (l1 : xs.length ≤ 1000) :
    Ctr w 186 [.ref wa, .ref la] ((wa, o) :: rest) 2 12 (KOk fun Z9 => ∀ y t o', y ∈ xs → Well ca o' → Z9 (.str y t) ((wa, o') :: rest)) False :=
  (c_pickLS w rest wa ca o la vs xs kk hw hn hc ht hS l0 l1).mono fun _ _ h Z9 hk => by
    obtain ⟨y, t, o', rfl, h1, h2, rfl⟩ := h
    exact hk y t o' h1 h2
theorem c_pickTS (w : World) (rest : Led) (wa ca : Addr) (o : Obj) (ta : Addr) (vs : List Value) (xs : List Str) (hw : Well ca o) (hn : NoW wa rest) (hc : CellsIn rest ca) (ht : TupIn w rest ta vs) (hS : StrsAre vs xs) (l0 : 0 < xs.length) (l1 : xs.length ≤ 1000) :
    Ctr w 186 [.ref wa, .ref ta] ((wa, o) :: rest) 2 12 (fun r n => ∃ y t o', r = .str y t ∧ y ∈ xs ∧ Well ca o' ∧ n = (wa, o') :: rest) False :=
  (c_pick w rest wa ca o ta vs hw hn hc ht (by rw [strsLen hS]; exact l0) (by rw [strsLen hS]; exact l1)).mono fun r n h => by
    obtain ⟨v, o', rfl, hv, hw', hn'⟩ := h
    obtain ⟨y, t, rfl, hy⟩ := memStr hS hv
    exact ⟨y, t, o', rfl, hy, hw', hn'⟩
theorem ck_pickTS (w : World) (rest : Led) (wa ca : Addr) (o : Obj) (ta : Addr) (vs : List Value) (xs : List Str) (hw : Well ca o) (hn : NoW wa rest) (hc : CellsIn rest ca) (ht : TupIn w rest ta vs) (hS : StrsAre vs xs) (l0 : 0 < xs.length) (l1 : xs.length ≤ 1000) :
    Ctr w 186 [.ref wa, .ref ta] ((wa, o) :: rest) 2 12 (KOk fun Z9 => ∀ y t o', y ∈ xs → Well ca o' → Z9 (.str y t) ((wa, o') :: rest)) False :=
  (c_pickTS w rest wa ca o ta vs xs hw hn hc ht hS l0 l1).mono fun _ _ h Z9 hk => by
    obtain ⟨y, t, o', rfl, h1, h2, rfl⟩ := h
    exact hk y t o' h1 h2
end Mine
set_option Elab.async false
set_option maxRecDepth 100000
set_option maxHeartbeats 2000000
set_option compiler.extract_closed false
namespace Mine
section
variable {prog : Program} {w : World} {A : Around} {E : Value → Shared → Prop} {s : Shared} {env : Env} {h₀ : Heap} {x : Str} {body : List Stmt} {Q : Flow → Shared → Prop}
/-- a loop over range(n), by an invariant -/
theorem iter_range {r : Addr} {n : Nat} {t u v : Tok} {m₀ : Str → Option Value} {news : Led} (J : Nat → (Str → Option Value) → Led → Prop)
    (hh : A.handled = none) (hr : IsRange s.heap r 0 (n : Int) 1 t u v) (hn : n ≤ 1000) (F : Fr h₀ env.locals s.heap m₀) (N : News h₀ env.locals s.heap news) (hj : J 0 m₀ news)
    (turn : ∀ i u m₁ news₁ h tk own, i < n → news₁.map (·.1) = news.map (·.1) → OwnOff own (news.map (·.1)) → J i m₁ news₁ → Fr h₀ env.locals h (fun y => if y = x then some (.int (i : Nat) u) else m₁ y) → News h₀ env.locals h (news₁ ++ own) →
      wpAny (model prog w) A (execs body env) (InvPostN h₀ env.locals (J (i + 1)) own (news.map (·.1)) { s with heap := h, toks := tk } Q) E { s with heap := h, toks := tk })
    (done : ∀ m₁ news₁ h tk, J n m₁ news₁ → Fr h₀ env.locals h m₁ → News h₀ env.locals h news₁ → Q .next { s with heap := h, toks := tk }) :
    wpAny (model prog w) A (pyIter (.ref r)) (fun it s₂ => LoopAtV prog w A h₀ env x body Q E it s₂) E s := by
  refine wpAny_pyIter_range hr (small_one (by omega) (by omega) (by omega) (by omega)) ?_
  have hz : Builtin.Range.rangeSize 0 (n : Int) 1 = (n : Int) := by rw [rangeSize_nat]; simp
  refine loop_invN J (Walks.range (prog := prog) (w := w) hh s.heap.objs.size 0 1 n) ?_ ?_ ?_ ?_ (by show IsRangeIter _ _ _ _ _; rw [hz]; simpa using Heap.get?_push_size _ rfl) (F.push _) (fun p hp => ⟨Heap.get?_push_of_some _ (N p hp).1, (N p hp).2⟩) hj ?_ done
  · intro hm
    exact absurd F.ns.lt ((List.mem_singleton.mp hm) ▸ Nat.lt_irrefl _)
  · intro b' hb
    rw [List.mem_singleton.mp hb]
    exact next_is_new F
  · intro p hp hI
    exact absurd (Heap.lt_size (N p hp).1) ((List.mem_singleton.mp hI) ▸ Nat.lt_irrefl _)
  · intro p hp hI
    exact absurd (Heap.lt_size (N p hp).1) ((List.mem_singleton.mp hI) ▸ Nat.lt_irrefl _)
  · rintro i v m₁ nx h tk own hi ⟨u, rfl⟩ ha hoff hj' F₁ N₁
    have e : (0 : Int) + (i : Int) * 1 = (i : Int) := by omega
    rw [e] at F₁
    exact turn i u m₁ nx h tk own hi ha hoff hj' F₁ N₁
end
end Mine
set_option Elab.async false
set_option maxRecDepth 100000
set_option maxHeartbeats 2000000
set_option compiler.extract_closed false
namespace Mine
local macro_rules | `(tactic| walk_at $s:str) => `(tactic| k_extra $s)
theorem fillP17 : r = r ∧ K = K := by k_fill; exact ⟨rfl, rfl⟩
section
set_option maxHeartbeats 8000000
noncomputable def wrongs : List Str := [Str.ofString "xx", Str.ofString "brake", Str.ofString "stepin", Str.ofString "infos", Str.ofString "q", Str.ofString "printx", Str.ofString "B", Str.ofString "9", Str.ofString "lists", Str.ofString "reverse-x"]
noncomputable def StemOk (y : Str) : Prop := y ∈ names ∨ (∃ q ∈ shorts, y = q.1) ∨ (∃ z ∈ names, ∃ j : Nat, j < z.length ∧ y = Txt.slice z none (some (1 + (j : Int)))) ∨ y ∈ wrongs
theorem namesPos : ∀ z ∈ names, 0 < z.length := by decide +kernel
theorem c_stem (w : World) (rest : Led) (wa ca : Addr) (o : Obj) (hw : Well ca o) (hn : NoW wa rest) (hc : CellsIn rest ca) :
    Ctr w 217 [.ref wa] ((wa, o) :: rest) 3 16 (fun r n => ∃ y t o', r = .str y t ∧ StemOk y ∧ Well ca o' ∧ n = (wa, o') :: rest) False := by
  intro loose mean mg mb dp un gd cn cs a ccd cl outer A₀ base h₀ L m s Q E B F X N T hk hd hu hret herr
  k_with_none
  refine wpAny_call ?_
  k_dflt (refine' code_def ?k1 ?k2 ?k3 ?k4 ?k5 ?kA ?kF ?kK ?k6 ?k7 ?k8 ?k9 ?kB ?_ ?c2 ?c3 ?c4 ?c5; (case kA => exact rfl); (case kF => exact rfl); (case kK => assumption); (case k1 => k_asm); (case k2 => k_asm); (case k3 => k_asm); (case k4 => k_asm); (case k5 => k_asm); (case k6 => k_is); (case k7 => k_is); (case k8 => ktr_room); (case k9 => exact BindsTo.of_eq rfl); (case c5 => decide); (case kB => exact locs rfl); (case c2 => exact rfl); (case c3 => exact rfl); (case c4 => exact rfl); k_whole)
  intro g1 L1 h1 FG F1 N1 B1 X1 T1
  replace F1 : Fr g1 L1 h1 (fun y9 => List.lookup y9 [(("well" : Str), .ref wa)]) := F1
  clear F N
  dsimp only
  k_unmd
  k_fold
  k_with "call ref" => (k_here; k_dflt (refine' Ctr.useK (ck_names _ _) ?B ?F ?X ?N ?T ?hk ?hd ?hu ?_ (fun f => f.elim); (case B => k_asm); (case F => k_asm); (case X => k_asm); (case N => k_asm); (case T => k_asm); (case hk => first | exact rfl | assumption); (case hd => ktr_room); (case hu => ktr_units)); intro xs8 ts8 hxl8 hxw8 h9 tk9 F9 N9; try dsimp only)
  k_with "call ref" => (k_here; k_dflt (refine' Ctr.useK (ck_shorts _ _) ?B ?F ?X ?N ?T ?hk ?hd ?hu ?_ (fun f => f.elim); (case B => k_asm); (case F => k_asm); (case X => k_asm); (case N => k_asm); (case T => k_asm); (case hk => first | exact rfl | assumption); (case hd => ktr_room); (case hu => ktr_units)); intro xs8 ts8 hxl8 hxw8 h9 tk9 F9 N9; try dsimp only)
  k_with "call ref" => (k_here; k_dflt (refine' Ctr.useK (ck_draw _ _ _ _ _ _ _  ?hw ?hn ?hc  ?kp ?kq) ?B ?F ?X (Pull.news ?P ?N) ?T ?hk ?hd ?hu ?_ (fun f => f.elim); (case B => k_asm); (case F => k_asm); (case X => k_asm); (case N => k_asm); (case T => k_asm); (case hk => first | exact rfl | assumption); (case hd => ktr_room); (case hu => ktr_units); (case P => repeat (first | exact Pull.head | apply Pull.tail)); (case hw => assumption); (case hn => repeat (first | assumption | exact NoW.nil | exact NoW.off (by assumption) (.head _) | refine NoW.append ?_ ?_ | refine NoW.cons (by first | exact rfl | assumption | exact isW_strs (by assumption) rfl) ?_)); (case hc => repeat (first | assumption | refine CellsIn.left ?_ | refine CellsIn.cons ?_)); (case kp => omega); (case kq => omega)); intro j9 t9 o9 hj1 hw9 h9 tk9 F9 N9; (try dsimp only); (try k_sweep))
  k_steps
  · (rename List.map _ _ = Txt.words _ => hw8); (rename StrsAre _ _ => hS8)
    rw [hw8, hxw8] at hS8
    k_with "call ref" => (k_here; k_dflt (refine' Ctr.useK (ck_pickLS _ _ _ _ _ _ _ names _  ?hw ?hn ?hc  ?ht ?hS ?l0 ?l1) ?B ?F ?X (Pull.news ?P ?N) ?T ?hk ?hd ?hu ?_ (fun f => f.elim); (case B => k_asm); (case F => k_asm); (case X => k_asm); (case N => k_asm); (case T => k_asm); (case hk => first | exact rfl | assumption); (case hd => ktr_room); (case hu => ktr_units); (case P => repeat (first | exact Pull.head | apply Pull.tail)); (case hw => assumption); (case hn => repeat (first | assumption | exact NoW.nil | exact NoW.off (by assumption) (.head _) | refine NoW.append ?_ ?_ | refine NoW.cons (by first | exact rfl | assumption | exact isW_strs (by assumption) rfl) ?_)); (case hc => repeat (first | assumption | refine CellsIn.left ?_ | refine CellsIn.cons ?_)); (case ht => k_mem); (case hS => exact hS8); (case l0 => rw [namesLen]; decide); (case l1 => rw [namesLen]; decide)); intro y9 t9 o9 hy9 hw9 h9 tk9 F9 N9; (try dsimp only); (try k_sweep))
    k_steps
    (rename News h₀ _ _ _ => NN); (rename Fr h₀ _ _ _ => FF)
    exact hret _ _ _ _ ⟨_, _, _, rfl, .inl hy9, hw9, rfl⟩ FF (newsDrop2 NN)
  · (rename List.map _ _ = Txt.words _ => hw8); (rename StrsAre _ _ => hS8)
    rw [hw8, hxw8] at hS8
    k_with "call ref" => (k_here; k_dflt (refine' Ctr.useK (ck_pickLS _ _ _ _ _ _ _ _ _  ?hw ?hn ?hc  ?ht ?hS ?l0 ?l1) ?B ?F ?X (Pull.news ?P ?N) ?T ?hk ?hd ?hu ?_ (fun f => f.elim); (case B => k_asm); (case F => k_asm); (case X => k_asm); (case N => k_asm); (case T => k_asm); (case hk => first | exact rfl | assumption); (case hd => ktr_room); (case hu => ktr_units); (case P => repeat (first | exact Pull.head | apply Pull.tail)); (case hw => assumption); (case hn => repeat (first | assumption | exact NoW.nil | exact NoW.off (by assumption) (.head _) | refine NoW.append ?_ ?_ | refine NoW.cons (by first | exact rfl | assumption | exact isW_strs (by assumption) rfl) ?_)); (case hc => repeat (first | assumption | refine CellsIn.left ?_ | refine CellsIn.cons ?_)); (case ht => k_mem); (case hS => exact hS8); (case l0 => rw [List.length_map, shortsLen]; decide); (case l1 => rw [List.length_map, shortsLen]; decide)); intro y9 t9 o9 hy9 hw9 h9 tk9 F9 N9; (try dsimp only); (try k_sweep))
    k_steps
    obtain ⟨⟨za, zb⟩, hq0, hqe⟩ := List.mem_map.mp hy9
    have hq := shortsSplit _ hq0
    dsimp only at hq hqe
    rw [hqe] at hq
    obtain ⟨hq1, hzl, hq3, hq4, hq5⟩ := hq
    k_steps
    (rename News h₀ _ _ _ => NN); (rename Fr h₀ _ _ _ => FF)
    (rename List.map _ _ = Txt.split _ _ => hw5)
    rw [hq1] at hw5
    (rename (List.map _ _)[_]? = some _ => hy5)
    rw [hw5] at hy5
    obtain rfl := Option.some.inj hy5
    exact hret _ _ _ _ ⟨_, _, _, rfl, .inr (.inl ⟨_, hq0, rfl⟩), hw9, rfl⟩ FF (newsDrop2 (newsTl NN))
  · (rename List.map _ _ = Txt.words _ => hw8); (rename StrsAre _ _ => hS8)
    rw [hw8, hxw8] at hS8
    k_with "call ref" => (k_here; k_dflt (refine' Ctr.useK (ck_pickLS _ _ _ _ _ _ _ names _  ?hw ?hn ?hc  ?ht ?hS ?l0 ?l1) ?B ?F ?X (Pull.news ?P ?N) ?T ?hk ?hd ?hu ?_ (fun f => f.elim); (case B => k_asm); (case F => k_asm); (case X => k_asm); (case N => k_asm); (case T => k_asm); (case hk => first | exact rfl | assumption); (case hd => ktr_room); (case hu => ktr_units); (case P => repeat (first | exact Pull.head | apply Pull.tail)); (case hw => assumption); (case hn => repeat (first | assumption | exact NoW.nil | exact NoW.off (by assumption) (.head _) | refine NoW.append ?_ ?_ | refine NoW.cons (by first | exact rfl | assumption | exact isW_strs (by assumption) rfl) ?_)); (case hc => repeat (first | assumption | refine CellsIn.left ?_ | refine CellsIn.cons ?_)); (case ht => k_mem); (case hS => exact hS8); (case l0 => rw [namesLen]; decide); (case l1 => rw [namesLen]; decide)); intro y9 t9 o9 hy9 hw9 h9 tk9 F9 N9; (try dsimp only); (try k_sweep))
    k_steps
    have hyf := namesFacts _ hy9
    have hyp := namesPos _ hy9
    k_steps
    (rename News h₀ _ _ _ => NN); (rename Fr h₀ _ _ _ => FF)
    exact hret _ _ _ _ ⟨_, _, _, rfl, .inr (.inr (.inl ⟨_, hy9, _, by omega, rfl⟩)), hw9, rfl⟩ FF (newsDrop2 NN)
  · skip
    k_with "call ref" => (k_here; k_dflt (refine' Ctr.useK (ck_pickTS _ _ _ _ _ _ _ wrongs  ?hw ?hn ?hc  ?ht ?hS ?l0 ?l1) ?B ?F ?X (Pull.news ?P ?N) ?T ?hk ?hd ?hu ?_ (fun f => f.elim); (case B => k_asm); (case F => k_asm); (case X => k_asm); (case N => k_asm); (case T => k_asm); (case hk => first | exact rfl | assumption); (case hd => ktr_room); (case hu => ktr_units); (case P => repeat (first | exact Pull.head | apply Pull.tail)); (case hw => assumption); (case hn => repeat (first | assumption | exact NoW.nil | exact NoW.off (by assumption) (.head _) | refine NoW.append ?_ ?_ | refine NoW.cons (by first | exact rfl | assumption | exact isW_strs (by assumption) rfl) ?_)); (case hc => repeat (first | assumption | refine CellsIn.left ?_ | refine CellsIn.cons ?_)); (case ht => exact .inl (by k_mem)); (case hS => repeat (first| exact .nil| refine .cons _ _ ?_)); (case l0 => decide); (case l1 => decide)); intro y9 t9 o9 hy9 hw9 h9 tk9 F9 N9; (try dsimp only); (try k_sweep))
    k_steps
    (rename News h₀ _ _ _ => NN); (rename Fr h₀ _ _ _ => FF)
    exact hret _ _ _ _ ⟨_, _, _, rfl, .inr (.inr (.inr hy9)), hw9, rfl⟩ FF (newsDrop2 NN)
theorem ck_stem (w : World) (rest : Led) (wa ca : Addr) (o : Obj) (hw : Well ca o) (hn : NoW wa rest) (hc : CellsIn rest ca) :
    Ctr w 217 [.ref wa] ((wa, o) :: rest) 3 16 (KOk fun Z9 => ∀ y t o', StemOk y → Well ca o' → Z9 (.str y t) ((wa, o') :: rest)) False :=
  (c_stem w rest wa ca o hw hn hc).mono fun _ _ h Z9 hk => by
    obtain ⟨y, t, o', rfl, h1, h2, rfl⟩ := h
    exact hk y t o' h1 h2
end

end Mine
set_option Elab.async false
set_option maxRecDepth 100000
set_option maxHeartbeats 2000000
set_option compiler.extract_closed false
namespace Mine
local macro_rules | `(tactic| walk_at $s:str) => `(tactic| k_extra $s)
theorem fillP18 : r = r ∧ K = K := by k_fill; exact ⟨rfl, rfl⟩
theorem c_pickC (w : World) (rest : Led) (wa ca : Addr) (o : Obj) (y : Str) (ty : Tok) (hw : Well ca o) (hn : NoW wa rest) (hc : CellsIn rest ca) (l0 : 0 < y.length) (l1 : y.length ≤ 1000) :
    Ctr w 186 [.ref wa, .str y ty] ((wa, o) :: rest) 2 12 (fun r n => ∃ (c : Nat) (t : Tok) (o' : Obj), r = .str ⟨#[c]⟩ t ∧ c ∈ cds y ∧ Well ca o' ∧ n = (wa, o') :: rest) False :=
  (c_pickS w rest wa ca o y ty hw hn hc l0 l1).mono fun r n h => by
    obtain ⟨j, t, o', rfl, hj, hw', hn'⟩ := h
    have hj' : j < (cds y).length := by rw [cds_len]; exact hj
    exact ⟨(cds y)[j], t, o', by rw [cds_item (List.getElem?_eq_getElem hj')], List.getElem_mem hj', hw', hn'⟩
theorem ck_pickC (w : World) (rest : Led) (wa ca : Addr) (o : Obj) (y : Str) (ty : Tok) (hw : Well ca o) (hn : NoW wa rest) (hc : CellsIn rest ca) (l0 : 0 < y.length) (l1 : y.length ≤ 1000) :
    Ctr w 186 [.ref wa, .str y ty] ((wa, o) :: rest) 2 12 (KOk fun Z9 => ∀ (c : Nat) (t : Tok) (o' : Obj), c ∈ cds y → Well ca o' → Z9 (.str ⟨#[c]⟩ t) ((wa, o') :: rest)) False :=
  (c_pickC w rest wa ca o y ty hw hn hc l0 l1).mono fun _ _ h Z9 hk => by
    obtain ⟨c, t, o', rfl, h1, h2, rfl⟩ := h
    exact hk c t o' h1 h2
noncomputable def signs12 : Str := Str.ofString "xduotacsibhw"
noncomputable def counts : List Str := [Str.ofString "", Str.ofString "", Str.ofString "1", Str.ofString "4", Str.ofString "12", Str.ofString "007", Str.ofString "999999"]
noncomputable def cntVal (x : Str) : Int := (PySem.intText? (if x = Str.ofString "" then Str.ofString "1" else x)).getD 0
theorem counts_facts : ∀ c ∈ counts, c.length ≤ 6 ∧ PySem.intText? (if c = Str.ofString "" then Str.ofString "1" else c) = some (cntVal c) := by decide +kernel
noncomputable def MarksOf (mk lt : Str) (sz : Int) : Prop := (∀ c ∈ cds mk, c ∈ cds signs12) ∧ formAcc (cds mk) (Str.ofString "z", 9) = some (lt, sz)
noncomputable def FormText (y : Str) (cnt : Int) (lt : Str) (sz : Int) : Prop := ∃ ct ∈ counts, ∃ mk, mk.length ≤ 3 ∧ MarksOf mk lt sz ∧ y = ct ++ mk ∧ cnt = cntVal ct
theorem marks_len (x : Str) (c : Nat) : (x ++ ⟨#[c]⟩ : Str).length = x.length + 1 := by rw [← cds_len, cds_append, List.length_append, cds_len]; rfl
theorem signs_facts : ∀ c ∈ cds signs12, (if (Builtin.Str.occurrences (Str.ofString "bhw") ⟨#[c]⟩ 0 (Str.ofString "bhw").length 1).isEmpty = true then inLetters c = true else (c = 98 ∨ c = 104 ∨ c = 119)) := by decide +kernel
theorem sign_size {c : Nat} (hc : c ∈ cds signs12) (hb : (Builtin.Str.occurrences (Str.ofString "bhw") ⟨#[c]⟩ 0 (Str.ofString "bhw").length 1).isEmpty = false) : c = 98 ∨ c = 104 ∨ c = 119 := by
  have := signs_facts c hc
  rw [hb, if_neg Bool.false_ne_true] at this
  exact this
theorem marks_snoc {mk lt : Str} {sz : Int} {c : Nat} {r : Str × Int} (h : MarksOf mk lt sz) (hc : c ∈ cds signs12) (e : formAcc [c] (lt, sz) = some r) : MarksOf (mk ++ ⟨#[c]⟩) r.1 r.2 := by
  obtain ⟨h1, h2⟩ := h
  have ec : cds (mk ++ ⟨#[c]⟩ : Str) = cds mk ++ [c] := cds_append _ _
  refine ⟨fun d hd => ?_, ?_⟩
  · rw [ec] at hd
    rcases List.mem_append.mp hd with hd | hd
    · exact h1 d hd
    · rw [List.mem_singleton.mp hd]; exact hc
  · rw [ec, formAcc_snoc c _ _ _ h2]; exact e
theorem acc_size {c : Nat} {lt : Str} {sz k : Int} (h1 : inLetters c = false) (h2 : sizeOfSign c = some k) : formAcc [c] (lt, sz) = some (lt, k) := by
  unfold formAcc
  rw [h1, if_neg Bool.false_ne_true, h2]
  rfl
theorem marks_letter {mk lt : Str} {sz : Int} {c : Nat} (h : MarksOf mk lt sz) (hc : c ∈ cds signs12) (hb : (Builtin.Str.occurrences (Str.ofString "bhw") ⟨#[c]⟩ 0 (Str.ofString "bhw").length 1).isEmpty = true) : MarksOf (mk ++ ⟨#[c]⟩) ⟨#[c]⟩ sz := by
  have hl := signs_facts c hc
  rw [hb, if_pos rfl] at hl
  exact marks_snoc (r := (⟨#[c]⟩, sz)) h hc (by unfold formAcc; rw [if_pos hl]; rfl)
inductive FormJ (rest : Led) (wa ca : Addr) (y : Str) (i : Nat) (m₁ : Str → Option Value) (nx : Led) : Prop
  | mk (o' : Obj) (mk lt : Str) (sz : Int) (t1 t2 t3 t4 : Tok) (hw : Well ca o') (hnx : nx = (wa, o') :: rest) (hl : mk.length = i) (hm : MarksOf mk lt sz) (e1 : m₁ ("marks_here" : Str) = some (.str mk t1)) (e2 : m₁ ("letter" : Str) = some (.str lt t2)) (e3 : m₁ ("size" : Str) = some (.int sz t3)) (e4 : m₁ ("count" : Str) = some (.str y t4)) (e5 : m₁ ("well" : Str) = some (.ref wa)) : FormJ rest wa ca y i m₁ nx
section
set_option maxHeartbeats 8000000
theorem c_form (w : World) (rest : Led) (wa ca : Addr) (o : Obj) (hw : Well ca o) (hn : NoW wa rest) (hc : CellsIn rest ca) :
    Ctr w 224 [.ref wa] ((wa, o) :: rest) 3 16 (fun r n => ∃ o' ad bd y cnt lt sz t1 t2 t3 t4, FormText y cnt lt sz ∧ Well ca o' ∧ r = .ref ad ∧ n = (ad, tupO [.str y t1, .ref bd]) :: (bd, tupO [.int cnt t2, .str lt t3, .int sz t4]) :: (wa, o') :: rest) False := by
  intro loose mean mg mb dp un gd cn cs a ccd cl outer A₀ base h₀ L m s Q E B F X N T hk hd hu hret herr
  k_with_none
  refine wpAny_call ?_
  k_dflt (refine' code_def ?k1 ?k2 ?k3 ?k4 ?k5 ?kA ?kF ?kK ?k6 ?k7 ?k8 ?k9 ?kB ?_ ?c2 ?c3 ?c4 ?c5; (case kA => exact rfl); (case kF => exact rfl); (case kK => assumption); (case k1 => k_asm); (case k2 => k_asm); (case k3 => k_asm); (case k4 => k_asm); (case k5 => k_asm); (case k6 => k_is); (case k7 => k_is); (case k8 => ktr_room); (case k9 => exact BindsTo.of_eq rfl); (case c5 => decide); (case kB => exact locs rfl); (case c2 => exact rfl); (case c3 => exact rfl); (case c4 => exact rfl); k_whole)
  intro g1 L1 h1 FG F1 N1 B1 X1 T1
  replace F1 : Fr g1 L1 h1 (fun y9 => List.lookup y9 [(("well" : Str), .ref wa)]) := F1
  clear F N
  dsimp only
  k_unmd
  k_fold
  k_with "call ref" => (k_here; k_dflt (refine' Ctr.useK (ck_pickTS _ _ _ _ _ _ _ counts  ?hw ?hn ?hc  ?ht ?hS ?l0 ?l1) ?B ?F ?X (Pull.news ?P ?N) ?T ?hk ?hd ?hu ?_ (fun f => f.elim); (case B => k_asm); (case F => k_asm); (case X => k_asm); (case N => k_asm); (case T => k_asm); (case hk => first | exact rfl | assumption); (case hd => ktr_room); (case hu => ktr_units); (case P => repeat (first | exact Pull.head | apply Pull.tail)); (case hw => assumption); (case hn => repeat (first | assumption | exact NoW.nil | exact NoW.off (by assumption) (.head _) | refine NoW.append ?_ ?_ | refine NoW.cons (by first | exact rfl | assumption | exact isW_strs (by assumption) rfl) ?_)); (case hc => repeat (first | assumption | refine CellsIn.left ?_ | refine CellsIn.cons ?_)); (case ht => exact .inl (by k_mem)); (case hS => repeat (first| exact .nil| refine .cons _ _ ?_)); (case l0 => decide); (case l1 => decide)); intro y9 t9 o9 hy9 hw9 h9 tk9 F9 N9; (try dsimp only); (try k_sweep))
  k_with "call ref" => (k_here; k_dflt (refine' Ctr.useK (ck_draw _ _ _ _ _ _ _  ?hw ?hn ?hc  ?kp ?kq) ?B ?F ?X (Pull.news ?P ?N) ?T ?hk ?hd ?hu ?_ (fun f => f.elim); (case B => k_asm); (case F => k_asm); (case X => k_asm); (case N => k_asm); (case T => k_asm); (case hk => first | exact rfl | assumption); (case hd => ktr_room); (case hu => ktr_units); (case P => repeat (first | exact Pull.head | apply Pull.tail)); (case hw => assumption); (case hn => repeat (first | assumption | exact NoW.nil | exact NoW.off (by assumption) (.head _) | refine NoW.append ?_ ?_ | refine NoW.cons (by first | exact rfl | assumption | exact isW_strs (by assumption) rfl) ?_)); (case hc => repeat (first | assumption | refine CellsIn.left ?_ | refine CellsIn.cons ?_)); (case kp => omega); (case kq => omega)); intro j9 t9 o9 hj1 hw9 h9 tk9 F9 N9; (try dsimp only); (try k_sweep))
  k_with "pyIter ref" => (refine Stop.out ?_)
  k_steps
  refine Stop.in ?_
  (rename y9 ∈ _ => hy9)
  (rename IsRange _ _ _ _ _ _ _ _ => hr); (rename News g1 _ _ _ => N3); (rename Fr g1 _ _ _ => F3); (rename Well _ _ => hw3)
  refine iter_range (FormJ rest wa ca y9) rfl hr (by omega) F3 (newsDrop2 (newsDrop2 N3)) (.mk _ (Str.ofString "") (Str.ofString "z") 9 _ _ _ _ hw3 rfl rfl ⟨fun c hc => (nomatch hc), rfl⟩ rfl rfl rfl rfl rfl) ?turn ?done
  case turn =>
    clear N3 F3 hr
    repeat (rename News g1 _ _ _ => N2; clear N2)
    repeat (rename Fr g1 _ _ _ => F2; clear F2)
    rintro i u m₁ news₁ h4 tk4 own hi hadr hoff ⟨o4, mk, lt, sz, t1, t2, t3, t4, hw4, rfl, hml, hmk, e1, e2, e3, e4, e5⟩ F4 N4
    replace F4 := Fr.known (n := ("marks_here" : Str)) (Fr.known (n := ("letter" : Str)) (Fr.known (n := ("size" : Str)) (Fr.known (n := ("count" : Str)) (Fr.known (n := ("well" : Str)) F4 e5) e4) e3) e2) e1
    replace N4 : News _ _ _ ((wa, o4) :: (rest ++ own)) := N4
    k_with "call ref" => (k_here; k_dflt (refine' Ctr.useK (ck_pickC _ _ _ _ _ _ _  ?hw ?hn ?hc  ?l0 ?l1) ?B ?F ?X (Pull.news ?P ?N) ?T ?hk ?hd ?hu ?_ (fun f => f.elim); (case B => k_asm); (case F => k_asm); (case X => k_asm); (case N => k_asm); (case T => k_asm); (case hk => first | exact rfl | assumption); (case hd => ktr_room); (case hu => ktr_units); (case P => repeat (first | exact Pull.head | apply Pull.tail)); (case hw => assumption); (case hn => repeat (first | assumption | exact NoW.nil | exact NoW.off (by assumption) (.head _) | refine NoW.append ?_ ?_ | refine NoW.cons (by first | exact rfl | assumption | exact isW_strs (by assumption) rfl) ?_)); (case hc => repeat (first | assumption | refine CellsIn.left ?_ | refine CellsIn.cons ?_)); (case l0 => decide); (case l1 => decide)); intro c9 t9 o9 hc9 hw9 h9 tk9 F9 N9; (try dsimp only); (try k_sweep))
    k_steps
    · (rename List.isEmpty _ = true => hb); (rename News g1 _ _ _ => N7); (rename Fr g1 _ _ _ => F7)
      exact InvEndN.intro (nx := (wa, o9) :: rest) F7 N7 (.mk _ _ _ _ _ _ _ _ hw9 rfl (by rw [marks_len, hml]) (marks_letter hmk hc9 hb) rfl rfl rfl rfl rfl) rfl (fun p hp => (List.mem_cons.mp hp).elim (fun h => h ▸ .head _) fun h => .tail _ (List.mem_append_left _ h)) (fun p hp => .tail _ (List.mem_append_right _ hp))
    · (rename List.isEmpty _ = true => hb); (rename List.isEmpty _ = false => hb')
      rw [hb] at hb'; cases hb'
    · (rename List.isEmpty _ = false => hb)
      obtain ⟨k9, hk9, hx9, hs9, hi9⟩ : ∃ k : Nat, Txt.find (Str.ofString "bhw") { cps := #[c9] } = (k : Int) ∧ k < 3 ∧ sizeOfSign c9 = some (([1, 2, 4] : List Int).getD ((k : Int)).toNat 0) ∧ inLetters c9 = false := by
        rcases sign_size hc9 hb with rfl | rfl | rfl
        · exact ⟨0, by decide +kernel, by decide, rfl, by decide +kernel⟩
        · exact ⟨1, by decide +kernel, by decide, rfl, by decide +kernel⟩
        · exact ⟨2, by decide +kernel, by decide, rfl, by decide +kernel⟩
      rw [hk9]
      k_steps
      (rename News g1 _ _ _ => N7); (rename Fr g1 _ _ _ => F7)
      exact InvEndN.intro (nx := (wa, o9) :: rest) F7 N7 (.mk _ _ _ _ _ _ _ _ hw9 rfl (by rw [marks_len, hml]) (marks_snoc (r := (lt, _)) hmk hc9 (acc_size hi9 hs9)) rfl rfl rfl rfl rfl) rfl (fun p hp => .tail _ ((List.mem_cons.mp hp).elim (fun h => h ▸ .head _) fun h => .tail _ (List.mem_append_left _ h))) (fun p hp => .tail _ (.tail _ (List.mem_append_right _ hp)))
  case done =>
    clear N3 F3 hr
    repeat (rename News g1 _ _ _ => N2; clear N2)
    repeat (rename Fr g1 _ _ _ => F2; clear F2)
    rintro m₁ news₁ h4 tk4 ⟨o4, mk, lt, sz, t1, t2, t3, t4, hw4, rfl, hml, hmk, e1, e2, e3, e4, e5⟩ F4 N4
    replace F4 := Fr.known0 (n := ("marks_here" : Str)) (Fr.known0 (n := ("letter" : Str)) (Fr.known0 (n := ("size" : Str)) (Fr.known0 (n := ("count" : Str)) F4 e4) e3) e2) e1
    have hcf := counts_facts _ hy9
    k_with "call type:int" => (refine Stop.out ?_)
    k_steps
    · (rename (_ == _) = true => hb)
      refine Stop.in ?_
      refine KIN.call_text (n := cntVal y9) (by have h2 := hcf.2; rw [if_pos (eq_of_beq hb)] at h2; exact h2) (by decide) ?_
      k_steps
      (rename News h₀ _ _ _ => NN); (rename Fr h₀ _ _ _ => FF); refine hret _ _ _ _ ?_ FF NN; exact ⟨_, _, _, _, _, _, _, _, _, _, _, ⟨_, hy9, _, (by omega), hmk, rfl, rfl⟩, hw4, rfl, rfl⟩
    · (rename (_ == _) = false => hb)
      refine Stop.in ?_
      refine KIN.call_text (n := cntVal y9) (by have h2 := hcf.2; rw [if_neg (fun e => by rw [e] at hb; exact absurd hb (by decide))] at h2; exact h2) (by omega) ?_
      k_steps
      (rename News h₀ _ _ _ => NN); (rename Fr h₀ _ _ _ => FF); refine hret _ _ _ _ ?_ FF NN; exact ⟨_, _, _, _, _, _, _, _, _, _, _, ⟨_, hy9, _, (by omega), hmk, rfl, rfl⟩, hw4, rfl, rfl⟩
theorem ck_form (w : World) (rest : Led) (wa ca : Addr) (o : Obj) (hw : Well ca o) (hn : NoW wa rest) (hc : CellsIn rest ca) :
    Ctr w 224 [.ref wa] ((wa, o) :: rest) 3 16 (KOk fun Z9 => ∀ o' ad bd y cnt lt sz t1 t2 t3 t4, FormText y cnt lt sz → Well ca o' → Z9 (.ref ad) ((ad, tupO [.str y t1, .ref bd]) :: (bd, tupO [.int cnt t2, .str lt t3, .int sz t4]) :: (wa, o') :: rest)) False :=
  (c_form w rest wa ca o hw hn hc).mono fun _ _ h Z9 hk => by
    obtain ⟨o', ad, bd, y, cnt, lt, sz, t1, t2, t3, t4, h1, h2, rfl, rfl⟩ := h
    exact hk o' ad bd y cnt lt sz t1 t2 t3 t4 h1 h2
end

end Mine
set_option Elab.async false
set_option maxRecDepth 100000
set_option maxHeartbeats 2000000
set_option compiler.extract_closed false
namespace Mine
theorem CtrS.use {w : World} {f : Addr} {vs : List Value} {news : Led} {dD dU : Nat} {Ok : Value → Led → Prop} (C : CtrS w f vs news dD dU Ok)
    {loose : List Str} {mean : ExcName → Option Value} {mg mb : Str → Option Value} {dp un : Nat} {gd : Option (List Code)} {cn : Str} {cs : Scope} {a : Addr} {ccd : Value} {cl : List (Str × Addr)} {outer : List Env} {A₀ : Around} {base h₀ : Heap} {L : Addr} {m : Str → Option Value} {s : Shared} {Q E : Value → Shared → Prop}
    (B : Below A₀ base outer h₀) (F : Fr h₀ L s.heap m) (X : (K w.params).In base) (N : News h₀ L s.heap news) (T : Top vw loose mean mg mb base) (D : KtsDicts (fsOf outer) h₀) (hk : cs.kind = .function)
    (hd : dp + dD < recursionLimit) (hu : un + dU < cLine) (hret : RetT A₀ base outer h₀ L m s Q Ok) :
    wpAny (model p w) (ktrTop dp un gd cn cs L a ccd cl outer) (call (.ref f) vs) Q E s := C _ _ _ _ _ _ _ _ _ _ _ _ _ _ _ _ _ _ _ _ _ B F X N T D hk hd hu hret
theorem CtrS.mono {w : World} {f : Addr} {vs : List Value} {news : Led} {dD dU : Nat} {Ok Ok' : Value → Led → Prop} (C : CtrS w f vs news dD dU Ok) (h : ∀ r n, Ok r n → Ok' r n) : CtrS w f vs news dD dU Ok' := by
  intro loose mean mg mb dp un gd cn cs a ccd cl outer A₀ base h₀ L m s Q E B F X N T D hk hd hu hret
  exact C loose mean mg mb dp un gd cn cs a ccd cl outer A₀ base h₀ L m s Q E B F X N T D hk hd hu fun r n h₀' h' tk o => hret r n h₀' h' tk (h r n o)
theorem CtrS.useK {w : World} {f : Addr} {vs : List Value} {news : Led} {dD dU : Nat} {C : (Value → Led → Prop) → Prop} (c : CtrS w f vs news dD dU (KOk C))
    {loose : List Str} {mean : ExcName → Option Value} {mg mb : Str → Option Value} {dp un : Nat} {gd : Option (List Code)} {cn : Str} {cs : Scope} {a : Addr} {ccd : Value} {cl : List (Str × Addr)} {outer : List Env} {A₀ : Around} {base h₀ : Heap} {L : Addr} {m : Str → Option Value} {s : Shared} {Q E : Value → Shared → Prop}
    (B : Below A₀ base outer h₀) (F : Fr h₀ L s.heap m) (X : (K w.params).In base) (N : News h₀ L s.heap news) (T : Top vw loose mean mg mb base) (D : KtsDicts (fsOf outer) h₀) (hk : cs.kind = .function)
    (hd : dp + dD < recursionLimit) (hu : un + dU < cLine) (h : C fun r n => ∀ (h₀' h' : Heap) (tk : Nat), KtsTurn (fsOf outer) h₀ h₀' → Fr h₀' L h' m → News h₀' L h' n → Below A₀ base outer h₀' → KtsDicts (fsOf outer) h₀' → Q r { s with heap := h', toks := tk }) :
    wpAny (model p w) (ktrTop dp un gd cn cs L a ccd cl outer) (call (.ref f) vs) Q E s := c.use B F X N T D hk hd hu (fun _ _ g h' tk o T F N B D => o _ h g h' tk T F N B D)
end Mine
set_option Elab.async false
set_option maxRecDepth 100000
set_option maxHeartbeats 2000000
set_option compiler.extract_closed false
namespace Mine
theorem digEnd_at {ct mk : Str} {i : Nat} (hct : ∀ c ∈ cds ct, figure c = true) (hmk : ∀ c ∈ cds mk, figure c = false) (h : DigEnd (ct ++ mk) i) : i = ct.length := by
  obtain ⟨h1, h2, h3⟩ := h
  have hl : (ct ++ mk).length = ct.length + mk.length := by rw [← cds_len, cds_append, List.length_append, cds_len, cds_len]
  rcases Nat.lt_trichotomy i ct.length with hlt | heq | hgt
  · have hi : i < (cds ct).length := by rw [cds_len]; exact hlt
    have e : (cds (ct ++ mk))[i]? = some (cds ct)[i] := by rw [cds_append, List.getElem?_append_left hi]; exact List.getElem?_eq_getElem hi
    have := h3 (by omega)
    rw [digitAt_eq e, hct _ (List.getElem_mem hi)] at this
    cases this
  · exact heq
  · have hm : 0 < (cds mk).length := by rw [cds_len]; omega
    have e : (cds (ct ++ mk))[ct.length]? = some (cds mk)[0] := by
      rw [cds_append, List.getElem?_append_right (by rw [cds_len]; exact Nat.le_refl _), cds_len, Nat.sub_self]
      exact List.getElem?_eq_getElem hm
    have := h2 _ hgt
    rw [digitAt_eq e, hmk _ (List.getElem_mem hm)] at this
    cases this
theorem len_app (x y : Str) : (x ++ y).length = x.length + y.length := by rw [← cds_len, cds_append, List.length_append, cds_len, cds_len]
theorem cut_to (x y : Str) : Txt.slice (x ++ y) none (some (x.length : Int)) = x := by
  refine str_of_cds ?_
  rw [cds_to (by rw [len_app]; omega), cds_append, List.take_left' (cds_len x)]
theorem cut_from (x y : Str) : Txt.slice (x ++ y) (some (x.length : Int)) none = y := by
  refine str_of_cds ?_
  rw [cds_from (by rw [len_app]; omega), cds_append, List.drop_left' (cds_len x)]
theorem counts_dig : ∀ ct ∈ counts, (∀ c ∈ cds ct, figure c = true) ∧ (if 0 < ct.length ∧ ct.length ≤ 6 then ((NumText.digitsVal (cds ct) : Nat) : Int) else 1) = cntVal ct := by decide +kernel
theorem marks_dig : ∀ c ∈ cds signs12, figure c = false := by decide +kernel
theorem form_end {lt : Str} {sz : Int} {ct mk : Str} {i : Nat} (hct : ct ∈ counts) (hm : MarksOf mk lt sz) (h : DigEnd (ct ++ mk) i) : i = ct.length := digEnd_at (counts_dig _ hct).1 (fun c hc => marks_dig c (hm.1 c hc)) h
theorem formIs_eq {y lt lt' : Str} {cnt cnt' sz sz' : Int} (h : FormText y cnt lt sz) (h' : FormIs y (Str.ofString "z") 9 cnt' lt' sz') : cnt' = cnt ∧ lt' = lt ∧ sz' = sz := by
  obtain ⟨ct, hct, mk, hl, hm, rfl, rfl⟩ := h
  obtain ⟨i, hi, h6, rfl, ha⟩ := h'
  obtain rfl := form_end hct hm hi
  rw [cut_from, hm.2] at ha
  cases ha
  refine ⟨?_, rfl, rfl⟩
  rw [← (counts_dig _ hct).2]
  unfold countOf
  rw [cut_to]
theorem formNot_no {y lt : Str} {cnt sz : Int} (h : FormText y cnt lt sz) (h' : FormNot y (Str.ofString "z") 9) : False := by
  obtain ⟨ct, hct, mk, hl, hm, rfl, rfl⟩ := h
  obtain ⟨i, hi, h6⟩ := h'
  obtain rfl := form_end hct hm hi
  rcases h6 with h6 | h6
  · have := (counts_facts _ hct).1
    omega
  · rw [cut_from, hm.2] at h6
    cases h6
theorem formLen {y lt : Str} {cnt sz : Int} (h : FormText y cnt lt sz) : y.length ≤ 9 := by
  obtain ⟨ct, hct, mk, hl, hm, rfl, rfl⟩ := h
  have := (counts_facts _ hct).1
  rw [← cds_len, cds_append, List.length_append, cds_len, cds_len]
  omega
theorem accLetter : ∀ (l : List Nat) {y lt : Str} {z sz : Int}, formAcc l (y, z) = some (lt, sz) → lt = y ∨ ∃ c ∈ l, lt = ⟨#[c]⟩
  | [], y, lt, z, sz, h => by cases h; exact .inl rfl
  | c :: r, y, lt, z, sz, h => by
    unfold formAcc at h
    by_cases hl : inLetters c = true
    · rw [if_pos hl] at h
      rcases accLetter r h with rfl | ⟨d, hd, e⟩
      · exact .inr ⟨c, .head _, rfl⟩
      · exact .inr ⟨d, .tail _ hd, e⟩
    · rw [if_neg hl] at h
      cases hs : sizeOfSign c with
      | none => rw [hs] at h; cases h
      | some n =>
        rw [hs] at h
        rcases accLetter r h with rfl | ⟨d, hd, e⟩
        · exact .inl rfl
        · exact .inr ⟨d, .tail _ hd, e⟩
theorem signs_small : ∀ c ∈ cds signs12, PyData.strOk ⟨#[c]⟩ = true := by decide +kernel
theorem formOk {y lt : Str} {cnt sz : Int} (h : FormText y cnt lt sz) : PyData.strOk lt = true := by
  obtain ⟨ct, hct, mk, hl, hm, rfl, rfl⟩ := h
  rcases accLetter _ hm.2 with rfl | ⟨c, hc, rfl⟩
  · decide +kernel
  · exact signs_small c (hm.1 c hc)
end Mine
set_option Elab.async false
set_option maxRecDepth 100000
set_option maxHeartbeats 2000000
set_option compiler.extract_closed false
namespace Mine
/-- the shape of a code's own table of codes -/
noncomputable def isTab (o : Obj) : Bool := match o.cls with | .none => true | _ => false
noncomputable def NoT (P : Addr) (rest : Led) : Prop := ∀ q ∈ rest, isTab q.2 = false ∨ q.1 ≠ P
theorem NoT.nil {P : Addr} : NoT P [] := fun _ h => (nomatch h)
theorem NoT.cons {P : Addr} {q : Addr × Obj} {r : Led} (h : isTab q.2 = false) (N : NoT P r) : NoT P (q :: r) := fun x hx => by
  rcases List.mem_cons.mp hx with rfl | hx
  · exact .inl h
  · exact N _ hx
theorem NoT.off {P : Addr} {q : Addr × Obj} {r : Led} (h : q.1 ≠ P) (N : NoT P r) : NoT P (q :: r) := fun x hx => by
  rcases List.mem_cons.mp hx with rfl | hx
  · exact .inr h
  · exact N _ hx
theorem NoT.apart {P : Addr} {ps : Array Value} {r : Led} {h₀ h : Heap} {L : Addr} (N : News h₀ L h ((P, tabObj ps) :: r)) (n : NoT P r) : ∀ q ∈ r, q.1 ≠ P := fun q hq e => by
  rcases n q hq with h1 | h1
  · have a := (N _ (.head _)).1
    have b := (N q (.tail _ hq)).1
    rw [e, a] at b
    rw [← Option.some.inj b] at h1
    cases h1
  · exact h1 e
section
variable {M : Model} {A : Around} {E : Value → Shared → Prop} {s : Shared} {h₀ : Heap} {L c P : Addr} {m mg mb : Str → Option Value} {news : Led} {p : Program} {loose : List Str} {mean : ExcName → Option Value} {params : Arguments} {body : Expr} {scope : Scope} {ps : Array Value} {pos : Pos} {clos : List (Str × Addr)} {env : Env}
theorem baseOf (F : Fr h₀ L s.heap m) (N : News h₀ L s.heap ((P, tabObj ps) :: news)) (T : Top p loose mean mg mb h₀) : mainGlobals ≠ P ∧ s.heap.BuiltinsAt mg P := by
  have hm := N _ (.head _)
  have hgs := T.g.keeps F.keep
  obtain ⟨bm, ob, b1, b2, b3, b4, b5, b6⟩ := T.bmain
  refine ⟨fun q => ?_, bm, ob, b1, b2, fun q => ?_, fun q => ?_, F.keep _ _ b3, b4, b5, b6⟩
  · obtain ⟨o, es, ep, e, hd, _⟩ := hgs
    rw [q, hm.1] at e; cases e; cases hd
  · obtain ⟨o, es, ep, e, hd, _⟩ := T.g
    rw [q, e] at b3; cases b3; rw [hd] at b6; cases b6
  · have e := F.keep _ _ b3
    rw [q, hm.1] at e; cases e; cases b4
/-- a lambda is made for the first time: its code is written into the table -/
theorem lamNew {Q : Value → Shared → Prop} (F : Fr h₀ L s.heap m) (N : News h₀ L s.heap ((P, tabObj ps) :: news)) (n : NoT P news) (T : Top p loose mean mg mb h₀) (C : CodeHd h₀ c P) (hcode : env.code = .ref c) (hge : env.globals = mainGlobals)
    (ht : TriplesOk ps.toList) (hnf : codeAmong pos ps.toList = none) (hcl : closureFor scope env = pure clos) (hdef : defaultsOf params env = ([], []))
    (h : ∀ f c' oc vs t ctv h' tk, Fr h₀ L h' m → News h₀ L h' ((f, kla_obj "<lambda>" (env.qual ++ "<lambda>") params body scope clos ((mg "__name__").getD .none) c' ctv) :: (c', oc) :: (P, tabObj (ps ++ #[rawInt pos.line, rawInt pos.col, .ref c'])) :: news) →
      oc.data = .fields vs → vs[1]? = some (.str (env.qual ++ "<lambda>") t) → (∀ q ∈ ((P, tabObj ps) :: news), q.1 < c') → c' < f → Q (.ref f) { s with heap := h', toks := tk }) :
    wpAny M A (eval (.Lambda params body scope pos) env) Q E s := by
  obtain ⟨hgP, hb⟩ := baseOf F N T
  have hm := N _ (.head _)
  have hap := NoT.apart N n
  refine kla_eval hdef (kla_makeFunction (mg := mg) hcl hge (T.g.keeps F.keep) hcode (C.keeps F.keep) hm.1 ht hnf hgP hb fun c' ctv h' tk hx hge' hlt hrec htb => ?_)
  obtain ⟨c₂, oc, vs, t, e2, hoc, hd, hv⟩ := hrec
  cases e2
  have hLc : L < c' := Nat.lt_of_lt_of_le F.ns.lt hge'
  have fresh : ∀ b, L < b → h₀.get? b = none := fun b hb => Heap.get?_none_of_le (Nat.le_trans F.above (Nat.le_of_lt hb))
  have old : ∀ b o, h₀.get? b = some o → h'.get? b = some o := fun b o e => hx b o (fun q => by rw [q, hm.2.2] at e; cases e) (F.keep b o e)
  refine h h'.objs.size c' oc vs t ctv _ tk ⟨(F.ns.extBut hx hm.2.1.symm).push _, fun b o e => Heap.get?_push_of_some _ (old b o e), F.above⟩ (fun q hq => ?_) hd hv (fun q hq => Nat.lt_of_lt_of_le (Heap.lt_size (N q hq).1) hge') hlt
  rcases List.mem_cons.mp hq with rfl | hq
  · exact ⟨Heap.get?_push_size _ rfl, Nat.ne_of_gt (Nat.lt_trans hLc hlt), fresh _ (Nat.lt_trans hLc hlt)⟩
  rcases List.mem_cons.mp hq with rfl | hq
  · exact ⟨Heap.get?_push_of_some _ hoc, Nat.ne_of_gt hLc, fresh _ hLc⟩
  rcases List.mem_cons.mp hq with rfl | hq
  · exact ⟨Heap.get?_push_of_some _ htb, hm.2⟩
  · have z := N q (.tail _ hq)
    exact ⟨Heap.get?_push_of_some _ (hx _ _ (hap q hq) z.1), z.2⟩
/-- a lambda is made again: its code is found in the table -/
theorem lamOld {Q : Value → Shared → Prop} {c' : Addr} (F : Fr h₀ L s.heap m) (N : News h₀ L s.heap ((P, tabObj ps) :: news)) (T : Top p loose mean mg mb h₀) (C : CodeHd h₀ c P) (hcode : env.code = .ref c) (hge : env.globals = mainGlobals)
    (ht : TriplesOk ps.toList) (hf : codeAmong pos ps.toList = some (.ref c')) (hcl : closureFor scope env = pure clos) (hdef : defaultsOf params env = ([], []))
    (h : ∀ f ctv h' tk, Fr h₀ L h' m → News h₀ L h' ((f, kla_obj "<lambda>" (env.qual ++ "<lambda>") params body scope clos ((mg "__name__").getD .none) c' ctv) :: (P, tabObj ps) :: news) → (∀ q ∈ ((P, tabObj ps) :: news), q.1 < f) → Q (.ref f) { s with heap := h', toks := tk }) :
    wpAny M A (eval (.Lambda params body scope pos) env) Q E s := by
  obtain ⟨hgP, hb⟩ := baseOf F N T
  have hm := N _ (.head _)
  refine kla_eval hdef (kla_makeFunctionHit (mg := mg) hcl hge (T.g.keeps F.keep) hcode (C.keeps F.keep) hm.1 ht hf hb fun ctv h' tk hk hsz => ?_)
  have hLs : L < h'.objs.size := Nat.lt_of_lt_of_le F.ns.lt hsz
  have fresh : ∀ b, L < b → h₀.get? b = none := fun b hb => Heap.get?_none_of_le (Nat.le_trans F.above (Nat.le_of_lt hb))
  refine h h'.objs.size ctv _ tk ⟨(F.ns.keeps hk).push _, fun b o e => Heap.get?_push_of_some _ (hk b o (F.keep b o e)), F.above⟩ (fun q hq => ?_) (fun q hq => Nat.lt_of_lt_of_le (Heap.lt_size (N q hq).1) hsz)
  rcases List.mem_cons.mp hq with rfl | hq
  · exact ⟨Heap.get?_push_size _ rfl, Nat.ne_of_gt hLs, fresh _ hLs⟩
  · exact ⟨Heap.get?_push_of_some _ (hk _ _ (N q hq).1), (N q hq).2⟩
end
theorem code229 {w : World} {h : Heap} (X : (K w.params).In h) : CodeHd h 228 226 := ⟨k228 w.params, _, _, _, _, _, _, _, _, X 228 _ rfl, rfl, rfl, rfl, rfl, rfl, rfl, rfl, rfl, by decide⟩
theorem code248 {w : World} {h : Heap} (X : (K w.params).In h) : CodeHd h 247 245 := ⟨k247 w.params, _, _, _, _, _, _, _, _, X 247 _ rfl, rfl, rfl, rfl, rfl, rfl, rfl, rfl, rfl, by decide⟩
end Mine
set_option Elab.async false
set_option maxRecDepth 100000
set_option maxHeartbeats 2000000
set_option compiler.extract_closed false
namespace Mine
theorem Kept.fn {w : World} {f : Addr} {news : Led} {name qual : Str} {params : Arguments} {body : Expr} {scope : Scope} {cl : List (Str × Addr)} {pm ctv : Value} {c' : Addr} (hm : (f, kla_obj name qual params body scope cl pm c' ctv) ∈ news) : Kept w f news :=
  fun _ h _ N _ => keeps_F h (FnAt.of N hm)
/-- the contract of a function made by a lambda, from the evaluation of its body -/
theorem lamCtr {w : World} {f : Addr} {args : List Value} {news : Led} {dD dU : Nat} {Ok : Value → Led → Prop} {Err : Prop} {name qual : Str} {params : Arguments} {body : Expr} {scope : Scope} {cl' : List (Str × Addr)} {pm ctv : Value} {c' : Addr} {oc : Obj} {vs : Array Value} {t : Tok} {binds : List (Str × Value)}
    {hA hB : Heap} {LA : Addr} (_NA : News hA LA hB news) (hm : (f, kla_obj name qual params body scope cl' pm c' ctv) ∈ news) (hcm : (c', oc) ∈ news) (hdd0 : oc.data = .fields vs) (hv : vs[1]? = some (.str qual t)) (hbind : bindArgs (kla_fn name qual params body scope cl' pm (.ref c') ctv) ⟨args, []⟩ = pure binds)
    (hloc : ∀ y ∈ binds, scope.names.lookup y.1 = some .local) (hco : scope.isCoroutine = false) (hgen : scope.isGenerator = false) (hk : scope.kind = .function) (hcell : ∀ x ∈ scope.names, x.2 ≠ .cell) (hD : 0 < dD)
    (hev : ∀ (loose : List Str) (mean : ExcName → Option Value) (mg mb : Str → Option Value) (dp un : Nat) (gd : Option (List Code)) (cn : Str) (cs : Scope) (a : Addr) (ccd : Value) (cl : List (Str × Addr)) (outer : List Env) (A₀ : Around) (base h₀ : Heap) (L : Addr) (m : Str → Option Value) (s : Shared) (Q E : Value → Shared → Prop),
      Below A₀ base outer h₀ → (K w.params).In h₀ → Top vw loose mean mg mb h₀ → cs.kind = .function → dp + dD < recursionLimit → un + dU < cLine → RetC h₀ L m s Q Ok → (Err → ErrC base h₀ (envX cn cs L a ccd cl :: outer) L m news s E) →
      ∀ g L' h₁, Fr h₀ L g m → Fr g L' h₁ (fun y => binds.reverse.lookup y) → News g L' h₁ news → Below (ktrTop dp un gd cn cs L a ccd cl outer) base (envX cn cs L a ccd cl :: outer) g → (K w.params).In g → Top vw loose mean mg mb g →
        wpAny (model p w) ((ktrTop dp un gd cn cs L a ccd cl outer).deeper (envX qual scope L' f (.ref c') cl')) (eval body (envX qual scope L' f (.ref c') cl'))
          (fun v s' => LeaveK h₀ L m g (fun r s' => match r with | .ok (.ret v) => Q v s' | .ok _ => False | .error e => E e s') v s')
          (fun e s' => wpAny (model p w) ((ktrTop dp un gd cn cs L a ccd cl outer).deeper (envX qual scope L' f (.ref c') cl')) (leaving (envX qual scope L' f (.ref c') cl') e) (fun _ s'' => E e s'') (fun e' s'' => E e' s'') s')
          { s with heap := h₁, toks := s.toks + binds.length }) : Ctr w f args news dD dU Ok Err := by
  intro loose mean mg mb dp un gd cn cs a ccd cl outer A₀ base h₀ L m s Q E B F X N T hkc hdd huu hret herr
  refine wpAny_call ?_
  refine kla_code B F X N T rfl rfl hkc hm ?_ ?_ hbind hloc (fun g L' h₁ a1 a2 a3 a4 a5 a6 => hev loose mean mg mb dp un gd cn cs a ccd cl outer A₀ base h₀ L m s Q E B X T hkc hdd huu hret herr g L' h₁ a1 a2 a3 a4 a5 a6) hco hgen hk hcell
  · exact ⟨c', oc, vs, t, rfl, (N _ hcm).1, hdd0, hv⟩
  · show dp < recursionLimit
    omega
end Mine
set_option Elab.async false
set_option maxRecDepth 100000
set_option maxHeartbeats 2000000
set_option compiler.extract_closed false
namespace Mine
theorem digEnd_from (y : Str) : ∀ (k n : Nat), y.length - n = k → n ≤ y.length → (∀ j, j < n → digitAt y j = true) → ∃ i, DigEnd y i
  | 0, n, hk, hn, h => ⟨n, hn, h, fun hlt => by omega⟩
  | k + 1, n, hk, hn, h => by
    cases hd : digitAt y n with
    | false => exact ⟨n, hn, h, fun _ => hd⟩
    | true => exact digEnd_from y k (n + 1) (by omega) (by omega) (fun j hj => by
        rcases Nat.lt_or_ge j n with h' | h'
        · exact h j h'
        · rw [show j = n by omega]; exact hd)
theorem digEnd_any (y : Str) : ∃ i, DigEnd y i := digEnd_from y _ 0 rfl (Nat.zero_le _) fun j h => absurd h (Nat.not_lt_zero _)
theorem acc_badMem {c : Nat} (h1 : inLetters c = false) (h2 : sizeOfSign c = none) : ∀ (l : List Nat) (st : Str × Int), c ∈ l → formAcc l st = none
  | d :: r, st, h => by
    unfold formAcc
    rcases List.mem_cons.mp h with rfl | h
    · rw [h1, if_neg Bool.false_ne_true, h2]
    · split
      · exact acc_badMem h1 h2 r _ h
      · split
        · exact acc_badMem h1 h2 r _ h
        · rfl
/-- a sign that is no figure, no letter and no size spoils a form -/
theorem formNot_odd {a b x : Str} {z : Int} {c : Nat} (h0 : figure c = false) (h1 : inLetters c = false) (h2 : sizeOfSign c = none) : FormNot (a ++ ⟨#[c]⟩ ++ b) x z := by
  obtain ⟨i, hi⟩ := digEnd_any (a ++ ⟨#[c]⟩ ++ b)
  refine ⟨i, hi, .inr (acc_badMem h1 h2 _ _ ?_)⟩
  have ec : cds (a ++ ⟨#[c]⟩ ++ b) = cds a ++ c :: cds b := by rw [cds_append, cds_append]; simp [cds]
  have hle : i ≤ a.length := by
    refine Nat.not_lt.mp fun hlt => ?_
    have e : (cds (a ++ ⟨#[c]⟩ ++ b))[a.length]? = some c := by
      rw [ec, List.getElem?_append_right (by rw [cds_len]; exact Nat.le_refl _), cds_len, Nat.sub_self]
      rfl
    have := hi.2.1 _ hlt
    rw [digitAt_eq e, h0] at this
    cases this
  rw [cds_from hi.1, ec, List.drop_append_of_le_length (by rw [cds_len]; exact hle)]
  exact List.mem_append_right _ (.head _)
end Mine
set_option Elab.async false
set_option maxRecDepth 100000
set_option maxHeartbeats 2000000
set_option compiler.extract_closed false
namespace Mine
section
variable {M : Model} {A : Around} {E : Value → Shared → Prop} {s : Shared} {h₀ : Heap} {L c P : Addr} {m mg mb : Str → Option Value} {news nw : Led} {p : Program} {loose : List Str} {mean : ExcName → Option Value} {params : Arguments} {body : Expr} {scope : Scope} {pos : Pos} {clos : List (Str × Addr)} {env : Env} {adr : List Addr}
/-- the code's table: empty, or with the lambda's code in it -/
noncomputable def TabSt (P : Addr) (pos : Pos) (qual : Str) (adr : List Addr) (news nw : Led) : Prop :=
  ((∀ q ∈ (P, tabObj #[]) :: news, q ∈ nw) ∧ ∀ b ∈ adr, ∃ o, (b, o) ∈ news) ∨
  ∃ c' oc vs t, oc.data = .fields vs ∧ vs[1]? = some (.str (qual ++ "<lambda>") t) ∧ (∀ q ∈ (c', oc) :: (P, tabObj #[rawInt pos.line, rawInt pos.col, .ref c']) :: news, q ∈ nw) ∧ ∀ b ∈ adr, b ≠ c'
/-- a lambda is made, for the first time or again -/
theorem lamBoth {Q : Value → Shared → Prop} (F : Fr h₀ L s.heap m) (N : News h₀ L s.heap nw) (S : TabSt P pos env.qual adr news nw) (n : NoT P news) (T : Top p loose mean mg mb h₀) (C : CodeHd h₀ c P) (hcode : env.code = .ref c) (hge : env.globals = mainGlobals)
    (hf : ∀ c', TriplesOk [rawInt pos.line, rawInt pos.col, .ref c'] ∧ codeAmong pos [rawInt pos.line, rawInt pos.col, .ref c'] = some (.ref c')) (hcl : closureFor scope env = pure clos) (hdef : defaultsOf params env = ([], []))
    (h : ∀ f c' oc vs t ctv h' tk, Fr h₀ L h' m → News h₀ L h' ((f, kla_obj "<lambda>" (env.qual ++ "<lambda>") params body scope clos ((mg "__name__").getD .none) c' ctv) :: (c', oc) :: (P, tabObj #[rawInt pos.line, rawInt pos.col, .ref c']) :: news) →
      oc.data = .fields vs → vs[1]? = some (.str (env.qual ++ "<lambda>") t) → (∀ b ∈ adr, b ≠ c') → Q (.ref f) { s with heap := h', toks := tk }) :
    wpAny M A (eval (.Lambda params body scope pos) env) Q E s := by
  rcases S with ⟨hs, ho⟩ | ⟨c', oc, vs, t, hoc, hv, hs, ho⟩
  · refine lamNew F (fun q hq => N q (hs q hq)) n T C hcode hge True.intro rfl hcl hdef fun f c' oc vs t ctv h' tk F' N' hoc hv hlt _ => h f c' oc vs t ctv h' tk F' N' hoc hv fun b hb => ?_
    obtain ⟨o, hm⟩ := ho b hb
    exact Nat.ne_of_lt (hlt _ (.tail _ hm))
  · refine lamOld (c' := c') (news := (c', oc) :: news) F (fun q hq => N q (hs q ?_)) T C hcode hge (hf c').1 (hf c').2 hcl hdef fun f ctv h' tk F' N' _ => h f c' oc vs t ctv h' tk F' (fun q hq => N' q ?_) hoc hv ho
    · rcases List.mem_cons.mp hq with rfl | hq
      · exact .tail _ (.head _)
      rcases List.mem_cons.mp hq with rfl | hq
      · exact .head _
      exact .tail _ (.tail _ hq)
    · rcases List.mem_cons.mp hq with rfl | hq
      · exact .head _
      rcases List.mem_cons.mp hq with rfl | hq
      · exact .tail _ (.tail _ (.head _))
      rcases List.mem_cons.mp hq with rfl | hq
      · exact .tail _ (.head _)
      exact .tail _ (.tail _ (.tail _ hq))
end
noncomputable def TabIn (P : Addr) (pos : Pos) (qual : Str) (nw : Led) : Prop :=
  (P, tabObj #[]) ∈ nw ∨ ∃ c' oc vs t, oc.data = .fields vs ∧ vs[1]? = some (.str (qual ++ "<lambda>") t) ∧ (c', oc) ∈ nw ∧ (P, tabObj #[rawInt pos.line, rawInt pos.col, .ref c']) ∈ nw
theorem TabIn.st {P I C D : Addr} {pos : Pos} {qual : Str} {nw news : Led} {oI oC oD : Obj} (h : TabIn P pos qual nw) (hs : ∀ q ∈ news, q ∈ nw) (off : ∀ b ∈ nw.map (·.1), b ≠ I ∧ b ≠ C ∧ b ≠ D) :
    TabSt P pos qual [I, C, D] ((I, oI) :: (C, oC) :: (D, oD) :: news) ((I, oI) :: (C, oC) :: (D, oD) :: nw) := by
  have sub : ∀ q ∈ (I, oI) :: (C, oC) :: (D, oD) :: news, q ∈ (I, oI) :: (C, oC) :: (D, oD) :: nw := fun q hq => by
    rcases List.mem_cons.mp hq with rfl | hq
    · exact .head _
    rcases List.mem_cons.mp hq with rfl | hq
    · exact .tail _ (.head _)
    rcases List.mem_cons.mp hq with rfl | hq
    · exact .tail _ (.tail _ (.head _))
    exact .tail _ (.tail _ (.tail _ (hs q hq)))
  rcases h with h | ⟨c', oc, vs, t, h1, h2, h3, h4⟩
  · refine .inl ⟨fun q hq => ?_, fun b hb => ?_⟩
    · rcases List.mem_cons.mp hq with rfl | hq
      · exact .tail _ (.tail _ (.tail _ h))
      · exact sub q hq
    · simp only [List.mem_cons, List.not_mem_nil, or_false] at hb
      rcases hb with rfl | rfl | rfl
      · exact ⟨_, .head _⟩
      · exact ⟨_, .tail _ (.head _)⟩
      · exact ⟨_, .tail _ (.tail _ (.head _))⟩
  · refine .inr ⟨c', oc, vs, t, h1, h2, fun q hq => ?_, fun b hb => ?_⟩
    · rcases List.mem_cons.mp hq with rfl | hq
      · exact .tail _ (.tail _ (.tail _ h3))
      rcases List.mem_cons.mp hq with rfl | hq
      · exact .tail _ (.tail _ (.tail _ h4))
      exact sub q hq
    · have := off c' (List.mem_map_of_mem (f := (·.1)) h3)
      simp only [List.mem_cons, List.not_mem_nil, or_false] at hb
      rcases hb with rfl | rfl | rfl
      · exact this.1.symm
      · exact this.2.1.symm
      · exact this.2.2.symm
theorem TabIn.mem {P : Addr} {pos : Pos} {qual : Str} {nw : Led} (h : TabIn P pos qual nw) : P ∈ nw.map (·.1) := by
  rcases h with h | ⟨c', oc, vs, t, h1, h2, h3, h4⟩
  · exact List.mem_map_of_mem (f := (·.1)) h
  · exact List.mem_map_of_mem (f := (·.1)) h4
theorem TabIn.tab {P : Addr} {pos : Pos} {qual : Str} {nw : Led} (h : TabIn P pos qual nw) : ∃ ps, (P, tabObj ps) ∈ nw := by
  rcases h with h | ⟨c', oc, vs, t, h1, h2, h3, h4⟩
  · exact ⟨_, h⟩
  · exact ⟨_, h4⟩
theorem lamBack {h₀ h : Heap} {L : Addr} {qf qc qt q1 q2 q3 q4 q5 : Addr × Obj} {r : Led} (N : News h₀ L h (qf :: qc :: qt :: q1 :: q2 :: q3 :: q4 :: q5 :: r)) : News h₀ L h (q1 :: q2 :: q3 :: qc :: qt :: q4 :: q5 :: r) := fun x hx => N x (by
  simp only [List.mem_cons] at hx ⊢
  rcases hx with h | h | h | h | h | h | h | h <;> simp [h])
theorem lamOff {c' P I C D la wa : Addr} {oc ot ol ow : Obj} {nw rest : Led} (hc : ∀ b ∈ [I, C, D], b ≠ c') (hap : Apart3 I C D (nw.map (·.1))) (h0 : P ∈ nw.map (·.1)) (h1 : (la, ol) ∈ nw) (h2 : (wa, ow) ∈ nw) (h3 : ∀ q ∈ rest, q ∈ nw) :
    ∀ q ∈ (c', oc) :: (P, ot) :: (la, ol) :: (wa, ow) :: rest, q.1 ≠ I ∧ q.1 ≠ C ∧ q.1 ≠ D := fun q hq => by
  rcases List.mem_cons.mp hq with rfl | hq
  · exact ⟨Ne.symm (hc _ (.head _)), Ne.symm (hc _ (.tail _ (.head _))), Ne.symm (hc _ (.tail _ (.tail _ (.head _))))⟩
  rcases List.mem_cons.mp hq with rfl | hq
  · exact hap.off _ h0
  rcases List.mem_cons.mp hq with rfl | hq
  · exact hap.off _ (List.mem_map_of_mem (f := (·.1)) h1)
  rcases List.mem_cons.mp hq with rfl | hq
  · exact hap.off _ (List.mem_map_of_mem (f := (·.1)) h2)
  exact hap.off _ (List.mem_map_of_mem (f := (·.1)) (h3 q hq))
theorem ck_heardF (w : World) (f : Addr) (x : Str) (t : Tok) (news : Led) (dD dU : Nat) (Err : Prop) (C : Ctr w f [.str x t] news dD dU (fun _ _ => False) Err) (Kf : Kept w f news) :
    CtrS w 200 [.ref f, .str x t] news (dD + 2) (dU + 20) (KOk fun Z => ∀ t', Z (.str (Str.ofString "refused") t') news) :=
  (c_heard w f x t news dD dU _ _ C Kf).mono fun _ _ h Z hk => by
    rcases h with h | ⟨_, rfl, t', rfl⟩
    · exact h.elim
    · exact hk t'
/-- between the turns of a comprehension whose element hears a refusal -/
structure HeardJ (A : Around) (base g0 : Heap) (es : List Env) (src well : Addr × Obj) (rest : Led) (P : Addr) (pos : Pos) (nm : Str) (i : Nat) (ys : List Value) (g : Heap) (nw : Led) : Prop where
  B : Below A base es g
  D : KtsDicts (fsOf es) g
  T : KtsTurn (fsOf es) g0 g
  hys : StrsAre ys (List.replicate i (Str.ofString "refused"))
  hm1 : src ∈ nw
  hm2 : well ∈ nw
  hm3 : ∀ q ∈ rest, q ∈ nw
  htab : TabIn P pos nm nw
theorem heardEnd {A : Around} {base g0 g g9 h9 : Heap} {es : List Env} {la wa P : Addr} {ol ow of oc : Obj} {rest nw : Led} {pos : Pos} {nm : Str} {i : Nat} {ys : List Value} {L f c' I C D : Addr} {oI oC : Obj} {m : Str → Option Value} {s : Shared} {tk : Nat} {t t9 : Tok} {vs : Array Value}
    (J : HeardJ A base g0 es (la, ol) (wa, ow) rest P pos nm i ys g nw) (F9 : Fr g9 L h9 m) (N9 : News g9 L h9 ((f, of) :: (c', oc) :: (P, tabObj #[rawInt pos.line, rawInt pos.col, .ref c']) :: (I, oI) :: (C, oC) :: (D, LCg.lst ys) :: (la, ol) :: (wa, ow) :: rest))
    (T9 : KtsTurn (fsOf es) g g9) (B9 : Below A base es g9) (D9 : KtsDicts (fsOf es) g9) (hoc : oc.data = .fields vs) (hvs : vs[1]? = some (.str (nm ++ Str.ofString "<lambda>") t)) (hc : ∀ b ∈ [I, C, D], b ≠ c') (hap : Apart3 I C D (nw.map (·.1))) :
    TEnd L m s I oI C oC D (LCg.lst ys) (HeardJ A base g0 es (la, ol) (wa, ow) rest P pos nm (i + 1) (ys ++ [.str (Str.ofString "refused") t9])) { s with heap := h9, toks := tk } :=
  TEnd.of rfl F9 (lamBack N9) (lamOff hc hap J.htab.mem J.hm1 J.hm2 J.hm3) ⟨B9, D9, J.T.trans T9, (by rw [List.replicate_succ']; exact strsSnoc J.hys), .tail _ (.tail _ (.head _)), .tail _ (.tail _ (.tail _ (.head _))), fun q hq => .tail _ (.tail _ (.tail _ (.tail _ hq))), .inr ⟨c', oc, vs, t, hoc, hvs, .head _, .tail _ (.head _)⟩⟩
theorem HeardJ.st {A : Around} {base g0 g : Heap} {es : List Env} {q1 q2 : Addr × Obj} {P I C D : Addr} {oI oC oD : Obj} {rest nw : Led} {pos : Pos} {nm : Str} {i : Nat} {ys : List Value} (J : HeardJ A base g0 es q1 q2 rest P pos nm i ys g nw) (hap : Apart3 I C D (nw.map (·.1))) :
    TabSt P pos nm [I, C, D] ((I, oI) :: (C, oC) :: (D, oD) :: q1 :: q2 :: rest) ((I, oI) :: (C, oC) :: (D, oD) :: nw) := J.htab.st (fun q hq => by
  rcases List.mem_cons.mp hq with rfl | hq
  · exact J.hm1
  rcases List.mem_cons.mp hq with rfl | hq
  · exact J.hm2
  exact J.hm3 q hq) hap.off
theorem HeardJ.back {A : Around} {base g0 g h : Heap} {es : List Env} {q1 q2 : Addr × Obj} {P D L : Addr} {rest nw : Led} {pos : Pos} {nm : Str} {i : Nat} {ys : List Value} {oD : Obj} (J : HeardJ A base g0 es q1 q2 rest P pos nm i ys g nw) (N : News g L h ((D, oD) :: nw)) :
    ∃ ps, News g L h ((D, oD) :: q2 :: (P, tabObj ps) :: rest) := by
  obtain ⟨ps, hps⟩ := J.htab.tab
  refine ⟨ps, fun q hq => ?_⟩
  rcases List.mem_cons.mp hq with rfl | hq
  · exact N _ (.head _)
  rcases List.mem_cons.mp hq with rfl | hq
  · exact N _ (.tail _ J.hm2)
  rcases List.mem_cons.mp hq with rfl | hq
  · exact N _ (.tail _ hps)
  exact N _ (.tail _ (J.hm3 q hq))
/-- the same where the ledger only grows -/
structure HeardK (A : Around) (base g0 : Heap) (es : List Env) (L0 : Led) (i : Nat) (ys : List Value) (g : Heap) (nw : Led) : Prop where
  B : Below A base es g
  D : KtsDicts (fsOf es) g
  T : KtsTurn (fsOf es) g0 g
  hys : StrsAre ys (List.replicate i (Str.ofString "refused"))
  hs : ∀ q ∈ L0, q ∈ nw
theorem HeardK.news {A : Around} {base g0 g h : Heap} {es : List Env} {L0 nw : Led} {i : Nat} {ys : List Value} {L : Addr} {q1 q2 q3 : Addr × Obj} (J : HeardK A base g0 es L0 i ys g nw) (N : News g L h (q1 :: q2 :: q3 :: nw)) : News g L h (q1 :: q2 :: q3 :: L0) := fun q hq => by
  rcases List.mem_cons.mp hq with rfl | hq
  · exact N _ (.head _)
  rcases List.mem_cons.mp hq with rfl | hq
  · exact N _ (.tail _ (.head _))
  rcases List.mem_cons.mp hq with rfl | hq
  · exact N _ (.tail _ (.tail _ (.head _)))
  exact N _ (.tail _ (.tail _ (.tail _ (J.hs q hq))))
theorem HeardK.news1 {A : Around} {base g0 g h : Heap} {es : List Env} {L0 nw : Led} {i : Nat} {ys : List Value} {L : Addr} {q1 : Addr × Obj} (J : HeardK A base g0 es L0 i ys g nw) (N : News g L h (q1 :: nw)) : News g L h (q1 :: L0) := fun q hq => by
  rcases List.mem_cons.mp hq with rfl | hq
  · exact N _ (.head _)
  exact N _ (.tail _ (J.hs q hq))
theorem HeardK.end {A : Around} {base g0 g g9 h9 : Heap} {es : List Env} {L0 nw : Led} {i : Nat} {ys : List Value} {L I C D : Addr} {oI oC : Obj} {m : Str → Option Value} {s : Shared} {tk : Nat} {t9 : Tok} (J : HeardK A base g0 es L0 i ys g nw) (F9 : Fr g9 L h9 m) (N9 : News g9 L h9 ((I, oI) :: (C, oC) :: (D, LCg.lst ys) :: L0))
    (T9 : KtsTurn (fsOf es) g0 g9) (B9 : Below A base es g9) (D9 : KtsDicts (fsOf es) g9) (hap : Apart3 I C D (nw.map (·.1))) :
    TEnd L m s I oI C oC D (LCg.lst ys) (HeardK A base g0 es L0 (i + 1) (ys ++ [.str (Str.ofString "refused") t9])) { s with heap := h9, toks := tk } :=
  TEnd.of rfl F9 N9 (fun q hq => hap.off _ (List.mem_map_of_mem (f := (·.1)) (J.hs q hq))) ⟨B9, D9, T9, (by rw [List.replicate_succ']; exact strsSnoc J.hys), fun _ h => h⟩
end Mine
set_option Elab.async false
set_option maxRecDepth 100000
set_option maxHeartbeats 2000000
set_option compiler.extract_closed false
namespace Mine
local macro_rules | `(tactic| walk_at $s:str) => `(tactic| k_extra $s)
theorem fillP19 : r = r ∧ K = K := by k_fill; exact ⟨rfl, rfl⟩
noncomputable def odds : List Str := [Str.ofString "q", Str.ofString "X", Str.ofString " ", Str.ofString "-", Str.ofString "f", Str.ofString "/"]
theorem oddsLen : ∀ q ∈ odds, q.length = 1 := by decide
theorem digEnd_uniq {y : Str} {i j : Nat} (hi : DigEnd y i) (hj : DigEnd y j) : i = j := by
  rcases Nat.lt_trichotomy i j with h | h | h
  · have a := hj.2.1 i h
    rw [hi.2.2 (Nat.lt_of_lt_of_le h hj.1)] at a
    cases a
  · exact h
  · have a := hi.2.1 j h
    rw [hj.2.2 (Nat.lt_of_lt_of_le h hi.1)] at a
    cases a
theorem formIs_not {x y lt : Str} {z cnt sz : Int} (h : FormIs x y z cnt lt sz) (h' : FormNot x y z) : False := by
  obtain ⟨i, hi, h6, _, ha⟩ := h
  obtain ⟨j, hj, hb⟩ := h'
  obtain rfl := digEnd_uniq hi hj
  rcases hb with hb | hb
  · omega
  · rw [ha] at hb; cases hb
theorem strs_two {vs : List Value} {a : Str} (h : StrsAre vs (List.replicate 2 a)) : ∃ t u, vs = [.str a t, .str a u] := by
  cases h with
  | cons _ t h => cases h with
    | cons _ u h => cases h with
      | nil => exact ⟨t, u, rfl⟩
theorem odds_bad : ∀ q ∈ odds, q = ⟨#[(cds q).headD 0]⟩ ∧ figure ((cds q).headD 0) = false ∧ inLetters ((cds q).headD 0) = false ∧ sizeOfSign ((cds q).headD 0) = none := by decide +kernel
theorem isTab_well {ca : Addr} {o : Obj} (h : Well ca o) : isTab o = false := by
  obtain ⟨_, _, _, _, _, rfl, _⟩ := h
  rfl
theorem two_cases {a b v : Value} {i : Nat} {P : Value → Prop} (h : [a, b][i]? = some v) (ha : P a) (hb : P b) : P v := by
  match i, h with
  | 0, h => exact Option.some.inj h ▸ ha
  | 1, h => exact Option.some.inj h ▸ hb
theorem many_dig : ∀ j, j < 7 → ∃ c, (cds (Str.ofString "1234567"))[j]? = some c ∧ figure c = true := by
  intro j hj
  have h : ∀ j < 7, ((cds (Str.ofString "1234567"))[j]?).map figure = some true := by decide +kernel
  exact Option.map_eq_some_iff.mp (h j hj)
theorem many_not {y : Str} {z : Int} (x : Str) : FormNot (Str.ofString "1234567" ++ x) y z := by
  obtain ⟨i, hi⟩ := digEnd_any (Str.ofString "1234567" ++ x)
  refine ⟨i, hi, .inl (Nat.not_le.mp fun hle => ?_)⟩
  have hlen : (Str.ofString "1234567" ++ x).length = 7 + x.length := by rw [len_app]; rfl
  obtain ⟨c, hc, hf⟩ := many_dig i (by omega)
  have e : (cds (Str.ofString "1234567" ++ x))[i]? = some c := by
    rw [cds_append, List.getElem?_append_left (List.getElem?_eq_some_iff.mp hc).1]; exact hc
  have := hi.2.2 (by omega)
  rw [digitAt_eq e, hf] at this
  cases this
theorem ck_form_same (w : World) (news : Led) {y lt : Str} {cnt sz : Int} (t ty tz : Tok) (h : FormText y cnt lt sz) : Ctr w 115 [.str y t, .str (Str.ofString "z") ty, .int 9 tz] news 3 20
    (KOk fun Z => ∀ (f d : Addr) (k1 k2 k3 v1 v2 v3 : Tok), Z (.ref f) ((f, instObj 64 d) :: (d, formDict w cnt lt sz k1 k2 k3 v1 v2 v3) :: news)) False :=
  (c_form_of w news y (Str.ofString "z") 9 t ty tz (Nat.le_trans (formLen h) (by decide)) (by decide)).mono2 (fun r n h' Z hk => by
    obtain ⟨f, d, cnt', lt', sz', k1, k2, k3, v1, v2, v3, hi, rfl, rfl⟩ := h'
    obtain ⟨rfl, rfl, rfl⟩ := formIs_eq h hi
    exact hk f d k1 k2 k3 v1 v2 v3) fun hE => formNot_no h hE
theorem c_form_bad (w : World) (news : Led) {z : Str} (t ty tz : Tok) (hz : z.length ≤ 1000) (h : FormNot z (Str.ofString "") 0) : Ctr w 115 [.str z t, .str (Str.ofString "") ty, .int 0 tz] news 3 20 (fun _ _ => False) True :=
  (c_form_of w news z (Str.ofString "") 0 t ty tz hz (by decide)).mono2 (fun r n h' => by
    obtain ⟨f, d, cnt', lt', sz', k1, k2, k3, v1, v2, v3, hi, _, _⟩ := h'
    exact formIs_not hi h) fun _ => trivial
section
set_option maxHeartbeats 8000000
theorem c_form_right (w : World) (rest : Led) (wa ca : Addr) (o : Obj) (hw : Well ca o) (hn : NoW wa rest) (hc : CellsIn rest ca) (hT : NoT 226 rest) :
    CtrS w 229 [.ref wa] ((wa, o) :: (226, tabObj #[]) :: rest) 8 200 (fun r n => ∃ o' ps, r = .bool true ∧ Well ca o' ∧ n = (wa, o') :: (226, tabObj ps) :: rest) := by
  intro loose mean mg mb dp un gd cn cs a ccd cl outer A₀ base h₀ L m s Q E B F X N T D hk hd hu hret
  k_with_none
  refine wpAny_call ?_
  k_dflt (refine' enterT ?k1 ?k2 ?k3 ?k4 ?k5 ?kD ?kA ?kF ?kK ?k6 ?k7 ?k8 ?k9 ?kB ?_ ?c2 ?c3 ?c4 ?c5; (case kA => exact rfl); (case kF => exact rfl); (case kK => assumption); (case k1 => assumption); (case k2 => assumption); (case k3 => assumption); (case k4 => assumption); (case k5 => assumption); (case kD => assumption); (case k6 => k_is); (case k7 => k_is); (case k8 => ktr_room); (case k9 => exact BindsTo.of_eq rfl); (case c5 => decide); (case kB => exact locs rfl); (case c2 => exact rfl); (case c3 => exact rfl); (case c4 => exact rfl); k_whole)
  intro g1 L1 h1 F1 N1 B1 X1 T1 D1
  replace F1 : Fr g1 L1 h1 (fun y9 => List.lookup y9 [(("well" : Str), .ref wa)]) := F1
  have T0 : KtsTurn (fsOf (envX cn cs L a ccd cl :: outer)) g1 g1 := KtsTurn.refl
  clear F N D
  dsimp only
  k_unmd
  k_fold
  k_with "LeaveT" => (refine Stop.out ?_)
  k_with "eval ListComp" => (refine Stop.out ?_)
  k_with "call ref" => (k_here; k_dflt (refine' Ctr.useK (ck_form _ _ _ _ _  ?hw ?hn ?hc ) ?B ?F ?X (Pull.news ?P ?N) ?T ?hk ?hd ?hu ?_ (fun f => f.elim); (case B => k_asm); (case F => k_asm); (case X => k_asm); (case N => k_asm); (case T => k_asm); (case hk => first | exact rfl | assumption); (case hd => ktr_room); (case hu => ktr_units); (case P => repeat (first | exact Pull.head | apply Pull.tail)); (case hw => assumption); (case hn => repeat (first | assumption | exact NoW.nil | exact NoW.off (by assumption) (.head _) | refine NoW.append ?_ ?_ | refine NoW.cons (by first | exact rfl | assumption | exact isW_strs (by assumption) rfl) ?_)); (case hc => repeat (first | assumption | refine CellsIn.left ?_ | refine CellsIn.cons ?_)); skip); intro o9 ad9 bd9 y9 cnt9 lt9 sz9 ta9 tb9 tc9 td9 hft9 hw9 h9 tk9 F9 N9; (try dsimp only); (try k_sweep))
  k_with "call ref" => (k_here; k_dflt (refine' Ctr.useK (ck_form_same _ _ _ _ _ hft9) ?B ?F ?X ?N ?T ?hk ?hd ?hu ?_ (fun f => f.elim); (case B => k_asm); (case F => k_asm); (case X => k_asm); (case N => k_asm); (case T => k_asm); (case hk => first | exact rfl | assumption); (case hd => ktr_room); (case hu => ktr_units)); intro f9 d9 k1 k2 k3 v1 v2 v3 h9 tk9 F9 N9; try dsimp only)
  k_steps
  · skip
    have hso := formOk hft9
    refine ne_dataH (by ke_read) (by ke_read) (by simp [SeqAt.shaped, PyData.canLay0, PyData.canLayAll0, PyData.depth, PyData.depthAll, hso]) (by simp [SeqAt.shaped, PyData.canLay0, PyData.canLayAll0, PyData.depth, PyData.depthAll, hso]) (by ke_room) ?_
    ke_norm
    have hyl := formLen hft9
    k_with "call ref" => (k_here; k_dflt (refine' Ctr.useK (ck_draw _ _ _ _ _ _ _  ?hw ?hn ?hc  ?kp ?kq) ?B ?F ?X (Pull.news ?P ?N) ?T ?hk ?hd ?hu ?_ (fun f => f.elim); (case B => k_asm); (case F => k_asm); (case X => k_asm); (case N => k_asm); (case T => k_asm); (case hk => first | exact rfl | assumption); (case hd => ktr_room); (case hu => ktr_units); (case P => repeat (first | exact Pull.head | apply Pull.tail)); (case hw => assumption); (case hn => repeat (first | assumption | exact NoW.nil | exact NoW.off (by assumption) (.head _) | refine NoW.append ?_ ?_ | refine NoW.cons (by first | exact rfl | assumption | exact isW_strs (by assumption) rfl) ?_)); (case hc => repeat (first | assumption | refine CellsIn.left ?_ | refine CellsIn.cons ?_)); (case kp => omega); (case kq => omega)); intro j9 t9 o9 hj1 hw9 h9 tk9 F9 N9; (try dsimp only); (try k_sweep))
    k_steps
    k_with "call ref" => (k_here; k_dflt (refine' Ctr.useK (ck_pickTS _ _ _ _ _ _ _ odds  ?hw ?hn ?hc  ?ht ?hS ?l0 ?l1) ?B ?F ?X (Pull.news ?P ?N) ?T ?hk ?hd ?hu ?_ (fun f => f.elim); (case B => k_asm); (case F => k_asm); (case X => k_asm); (case N => k_asm); (case T => k_asm); (case hk => first | exact rfl | assumption); (case hd => ktr_room); (case hu => ktr_units); (case P => repeat (first | exact Pull.head | apply Pull.tail)); (case hw => assumption); (case hn => repeat (first | assumption | exact NoW.nil | exact NoW.off (by assumption) (.head _) | refine NoW.append ?_ ?_ | refine NoW.cons (by first | exact rfl | assumption | exact isW_strs (by assumption) rfl) ?_)); (case hc => repeat (first | assumption | refine CellsIn.left ?_ | refine CellsIn.cons ?_)); (case ht => exact .inl (by k_mem)); (case hS => repeat (first| exact .nil| refine .cons _ _ ?_)); (case l0 => decide); (case l1 => decide)); intro q9 t9 o9 hq9 hw9 h9 tk9 F9 N9; (try dsimp only); (try k_sweep))
    k_steps
    have hql := oddsLen _ hq9
    k_steps
    refine Stop.in ?_
    (rename News g1 _ _ _ => N5); (rename Fr g1 _ _ _ => F5)
    refine' compE (m := mOf F5) ?h1 ?h2 ?h3 ?h4 ?h5 ?h6 ?h7 ?hs
    case h1 => exact rfl
    case h2 => exact rfl
    case h3 => decide
    case h4 => exact rfl
    case h5 => decide
    case h6 => exact rfl
    case hs => intro _; exact rfl
    case h7 =>
      unfold mOf
      k_steps
      (rename News g1 _ _ _ => N6); (rename Fr g1 _ _ _ => F6)
      rename_i ta0 k2 a2 h2 tk2 tx0 k1' a1 tb0 k0' a0 h1' da h0' l1'
      have N7 : News g1 L1 _ ((da, tupO [.str (Txt.slice y9 none (some (j9 : Int)) ++ q9 ++ Txt.slice y9 (some (j9 : Int)) none) ta0, .str (Str.ofString "1234567" ++ Txt.stripChars y9 (Str.ofString "0123456789")) tb0]) :: (wa, o9) :: (226, tabObj #[]) :: rest) := fun q hq => N6 q (by
        rcases List.mem_cons.mp hq with rfl | hq
        · exact .head _
        rcases List.mem_cons.mp hq with rfl | hq
        · exact .tail _ (.head _)
        · repeat (first | exact hq | apply List.Mem.tail))
      have hod : FormNot (Txt.slice y9 none (some (j9 : Int)) ++ q9 ++ Txt.slice y9 (some (j9 : Int)) none) (Str.ofString "") 0 := by
        obtain ⟨e1, e2, e3, e4⟩ := odds_bad _ hq9
        rw [e1]
        exact formNot_odd e2 e3 e4
      have hmn : FormNot (Str.ofString "1234567" ++ Txt.stripChars y9 (Str.ofString "0123456789")) (Str.ofString "") 0 := many_not _
      have lod : (Txt.slice y9 none (some (j9 : Int)) ++ q9 ++ Txt.slice y9 (some (j9 : Int)) none).length ≤ 1000 := by
        have e1 := fact_slice_ns y9 j9
        have e2 := fact_slice_sn y9 j9
        rw [len_app, len_app]
        omega
      have lmn : (Str.ofString "1234567" ++ Txt.stripChars y9 (Str.ofString "0123456789")).length ≤ 1000 := by
        have e1 := len_stripChars y9 (Str.ofString "0123456789")
        have e2 : (Str.ofString "1234567").length = 7 := by decide
        rw [len_app]
        omega
      generalize (Txt.slice y9 none (some (j9 : Int)) ++ q9 ++ Txt.slice y9 (some (j9 : Int)) none) = od at N7 hod lod F6 ⊢
      generalize (Str.ofString "1234567" ++ Txt.stripChars y9 (Str.ofString "0123456789")) = mn at N7 hmn lmn F6 ⊢
      refine .mk g1 _ _ _ _ (HeardJ (ktrTop dp un gd cn cs L a ccd cl outer) base g1 (envX cn cs L a ccd cl :: outer) (da, tupO [.str od ta0, .str mn tb0]) (wa, o9) rest 226 ⟨181, 23, 181, 56⟩ ("_law_form_right.<locals>." : Str)) rfl (.tup [.str od ta0, .str mn tb0]) (.head _) (fun i ys g nw e => e.hm1) (by rw [sizeLine_eq]; exact Nat.le_of_ble_eq_true rfl) F6 N7 ⟨B1, D1, T0, .nil, .head _, .tail _ (.head _), (fun q hq => .tail _ (.tail _ (.tail _ hq))), .inl (.tail _ (.tail _ (.head _)))⟩ ?turn ?fin
      case turn =>
        clear N7 F6 T0
        repeat (rename News g1 _ _ _ => N2; clear N2)
        repeat (rename Fr g1 _ _ _ => F2; clear F2)
        clear B1 X1 T1 D1
        intro i v ys g nw h3 tk3 oI oC I C D m2 E3 hv hJ hoC
        have B1 := hJ.B
        have D1 := hJ.D
        have X1 := Frag.In.keeps X B1.stays
        have T1 := Top.keeps T B1.stays
        refine strElim (v := v) (P := fun z => z.length ≤ 1000 ∧ FormNot z (Str.ofString "") 0) (two_cases (P := fun v => ∃ z u, v = .str z u ∧ z.length ≤ 1000 ∧ FormNot z (Str.ofString "") 0) hv ⟨_, _, rfl, lod, hod⟩ ⟨_, _, rfl, lmn, hmn⟩) fun z u hz hm2 F3 N3 hap => ?_
        have I3 := hoC.ns (N3 _ (.tail _ (.head _))).1
        have ht0 := hJ.htab.mem
        have hst := hJ.st (oI := oI) (oC := oC) (oD := LCg.lst ys) hap
        refine wpAny_tests_nil ?_
        k_steps
        refine lamBoth F3 N3 hst ?nt T1 (code229 X1) rfl rfl ?hf rfl rfl (fun f c' oc vs t ctv h4 tk4 F4 N4 hoc hvs hoffc => ?_)
        case nt => exact .off (Ne.symm (hap.off 226 ht0).1) (.off (Ne.symm (hap.off 226 ht0).2.1) (.cons rfl (.cons rfl (.cons (isTab_well hw9) hT))))
        case hf => exact fun _ => ⟨True.intro, rfl⟩
        have I4 := hoC.ns (N4 _ (.tail _ (.tail _ (.tail _ (.tail _ (.head _)))))).1
        clear I3 N3 F3
        k_steps
        have CL : Ctr w f [.str z u] _ 4 40 (fun _ _ => False) True := lamCtr N4 (binds := [(("each" : Str), .str z u)]) (.head _) (.tail _ (.head _)) hoc hvs rfl (locs rfl) rfl rfl rfl (by decide) (by decide) ?hev
        case hev =>
          intro loose mean mg mb dp un gd cn cs a ccd cl outer A₀ base h₀ L m s Q E B X T hk hd hu hret herr g1 L1 h1 FG F1 N1 B1 X1 T1
          k_with "call ref" => (k_here; k_dflt (refine' Ctr.use (c_form_bad _ _ _ _ _ hz.1 hz.2) ?B ?F ?X ?N ?T ?hk ?hd ?hu ?_ ?_; (case B => k_asm); (case F => k_asm); (case X => k_asm); (case N => k_asm); (case T => k_asm); (case hk => first | exact rfl | assumption); (case hd => ktr_room); (case hu => ktr_units)); rotate_left; (intro _ e9 t9 vs9 g9 h9 tk9 FG9 R9 RK9 U9; refine Passed.out ?_); rotate_right; (intro r9 n9 h9 tk9 ok9 F9 N9; obtain okF := ok9; try dsimp only))
          k_steps
          · (rename False => okF); exact okF.elim
          · refine Passed.in ?_
            refine frLeaveOn B1 FG9 R9 U9 fun h2 R2 RK2 U2 => ?_
            exact herr trivial _ _ _ g1 _ _ FG R2 RK2 U2
        refine CtrS.useK (ck_heardF w f z u _ 4 40 _ CL (Kept.fn (.head _))) B1 F4 X N4 T D1 rfl ?hd ?hu ?_
        case hd => ktr_room
        case hu => ktr_units
        intro t9 g9' h9 tk9 T9 F9 N9 B9 D9
        exact heardEnd hJ F9 N9 T9 B9 D9 hoc hvs hoffc hap
      case fin =>
        clear N7 F6 T0
        repeat (rename News g1 _ _ _ => N2; clear N2)
        repeat (rename Fr g1 _ _ _ => F2; clear F2)
        clear B1 X1 T1 D1
        intro D ys g nw hJ hne h3 tk3 F3 N3
        have B1 := hJ.B
        have D1 := hJ.D
        have T0 := hJ.T
        have X1 := Frag.In.keeps X B1.stays
        have T1 := Top.keeps T B1.stays
        obtain ⟨t5, u5, rfl⟩ := strs_two hJ.hys
        obtain ⟨ps, NW⟩ := hJ.back N3
        clear N3 hJ
        k_steps
        refine Stop.in ?_
        (rename News g _ _ _ => N5); (rename Fr g _ _ _ => F5)
        exact ⟨g, L1, _, (wa, o9) :: (226, tabObj ps) :: rest, T0, F5, newsTl (newsTl N5), fun h0' a b c d e => hret _ _ _ _ _ ⟨_, ps, rfl, hw9, rfl⟩ a b c d e⟩
end

end Mine
set_option Elab.async false
set_option maxRecDepth 100000
set_option maxHeartbeats 2000000
set_option compiler.extract_closed false
namespace Mine
noncomputable abbrev sp : Nat → Bool := Unicode.isSpace
noncomputable def stripL (l : List Nat) : List Nat := ((l.dropWhile sp).reverse.dropWhile sp).reverse
noncomputable def edge (m : List Nat) : Bool := (m.head?.all fun c => !sp c) && (m.getLast?.all fun c => !sp c)
theorem drop_tw (p : Nat → Bool) : ∀ l : List Nat, l.drop (l.takeWhile p).length = l.dropWhile p
  | [] => rfl
  | a :: r => by
    by_cases h : p a = true
    · rw [List.takeWhile_cons_of_pos h, List.dropWhile_cons_of_pos h]
      exact drop_tw p r
    · rw [List.takeWhile_cons_of_neg h, List.dropWhile_cons_of_neg h]
      rfl
theorem strip_cds (x : Str) : (Txt.strip x).cps.toList = stripL x.cps.toList := by
  have e : Txt.strip x = Builtin.Str.strSub x (stripLo Unicode.isSpace true x) (stripHi Unicode.isSpace true x (stripLo Unicode.isSpace true x)) := PyProof.Rows.stripBy_eq _ _ _ x
  rw [e, StrLaws.strSub_toList]
  unfold stripHi stripLo stripL
  rw [if_pos rfl, if_pos rfl, drop_tw]
  have e1 : x.length = (x.cps.toList.takeWhile Unicode.isSpace).length + (x.cps.toList.dropWhile Unicode.isSpace).length := by
    rw [← List.length_append, List.takeWhile_append_dropWhile]; simp [Str.length]
  have e2 := drop_tw sp (x.cps.toList.dropWhile sp).reverse
  rw [← e2, List.drop_reverse, List.reverse_reverse]
  congr 1
  rw [e1]
  delta sp
  omega
theorem stripL_mid {a m b : List Nat} (ha : a.all sp = true) (hb : b.all sp = true) (hm : edge m = true) : stripL (a ++ m ++ b) = m := by
  have ha' : ∀ c ∈ a, sp c = true := List.all_eq_true.mp ha
  have hb' : ∀ c ∈ b, sp c = true := List.all_eq_true.mp hb
  unfold stripL
  rw [List.append_assoc, List.dropWhile_append_of_pos ha']
  cases m with
  | nil =>
    have : ([] ++ b : List Nat).dropWhile sp = [] := by
      rw [List.nil_append, ← List.append_nil b, List.dropWhile_append_of_pos hb']; rfl
    rw [this]; rfl
  | cons c r =>
    unfold edge at hm
    rw [Bool.and_eq_true] at hm
    obtain ⟨h1, h2⟩ := hm
    have hc : ¬ sp c = true := by simpa using h1
    rw [List.cons_append, List.dropWhile_cons_of_neg hc, ← List.cons_append, List.reverse_append, List.dropWhile_append_of_pos (fun d hd => hb' d (List.mem_reverse.mp hd))]
    have h3 : ((c :: r).reverse).head?.all (fun c => !sp c) = true := by rw [List.head?_reverse]; exact h2
    cases hq : (c :: r).reverse with
    | nil => simp at hq
    | cons d t =>
      rw [hq] at h3
      have hd : ¬ sp d = true := by simpa using h3
      rw [List.dropWhile_cons_of_neg hd, ← hq, List.reverse_reverse]
theorem strip_is {x y : Str} {a b : List Nat} (h : x.cps.toList = a ++ y.cps.toList ++ b) (ha : a.all sp = true) (hb : b.all sp = true) (hm : edge y.cps.toList = true) : Txt.strip x = y :=
  Str.ext' (Array.toList_inj.mp (by rw [strip_cds, h, stripL_mid ha hb hm]))
theorem app_cds (x y : Str) : (x ++ y).cps.toList = x.cps.toList ++ y.cps.toList := by rw [Str.cps_append, Array.toList_append]
theorem app_assoc (x y z : Str) : x ++ y ++ z = x ++ (y ++ z) := Str.ext' (Array.toList_inj.mp (by simp only [app_cds, List.append_assoc]))
theorem app_nil (x : Str) : x ++ Str.ofString "" = x := Str.ext' (Array.toList_inj.mp (by rw [app_cds, show (Str.ofString "").cps.toList = [] from rfl, List.append_nil]))
theorem strip_mid {a y b : Str} (ha : a.cps.toList.all sp = true) (hb : b.cps.toList.all sp = true) (hm : edge y.cps.toList = true) : Txt.strip (a ++ y ++ b) = y :=
  strip_is (by rw [app_cds, app_cds]) ha hb hm
theorem strip_l {a y : Str} (ha : a.cps.toList.all sp = true) (hm : edge y.cps.toList = true) : Txt.strip (a ++ y) = y :=
  strip_is (b := []) (by rw [app_cds, List.append_nil]) ha rfl hm
theorem strip_r {y b : Str} (hb : b.cps.toList.all sp = true) (hm : edge y.cps.toList = true) : Txt.strip (y ++ b) = y :=
  strip_is (a := []) (by rw [app_cds, List.nil_append]) rfl hb hm
theorem strip_e {y : Str} (hm : edge y.cps.toList = true) : Txt.strip y = y :=
  strip_is (a := []) (b := []) (by rw [List.append_nil, List.nil_append]) rfl rfl hm
theorem edge_app {m n : List Nat} (hm : edge m = true) (hn : edge n = true) (m0 : m ≠ []) (n0 : n ≠ []) (k : List Nat) : edge (m ++ k ++ n) = true := by
  cases m with
  | nil => exact absurd rfl m0
  | cons c r =>
    unfold edge at hm hn ⊢
    rw [Bool.and_eq_true] at hm hn ⊢
    refine ⟨hm.1, ?_⟩
    rw [List.getLast?_append]
    cases hq : n.getLast? with
    | none => exact absurd (List.getLast?_eq_none_iff.mp hq) n0
    | some d => rw [hq] at hn; simpa using hn.2
theorem scan_app (x y : Str) : KWd.scan (x ++ y) = y.cps.toList.foldl KWd.step (KWd.scan x) := by
  unfold KWd.scan
  rw [app_cds, List.foldl_append]
theorem fold_sp : ∀ (b : List Nat) (ws : List Str), b.all sp = true → b.foldl KWd.step (ws, Str.empty) = (ws, Str.empty)
  | [], _, _ => rfl
  | c :: r, ws, h => by
    rw [List.all_cons, Bool.and_eq_true] at h
    rw [List.foldl_cons, show KWd.step (ws, Str.empty) c = (ws, Str.empty) by unfold KWd.step; rw [if_pos h.1]; rfl]
    exact fold_sp r ws h.2
theorem fold_gap {b : List Nat} {ws : List Str} {r : Str} (h : b.all sp = true) (hb : b ≠ []) (hr : r.length ≠ 0) : b.foldl KWd.step (ws, r) = (ws ++ [r], Str.empty) := by
  cases b with
  | nil => exact absurd rfl hb
  | cons c t =>
    rw [List.all_cons, Bool.and_eq_true] at h
    rw [List.foldl_cons, show KWd.step (ws, r) c = (ws ++ [r], Str.empty) by unfold KWd.step; rw [if_pos h.1]; exact if_neg hr]
    exact fold_sp t _ h.2
theorem fold_run : ∀ (z : List Nat) (ws : List Str) (r : Str), (z.all fun c => !sp c) = true → z.foldl KWd.step (ws, r) = (ws, r ++ ⟨z.toArray⟩)
  | [], ws, r, _ => by
    rw [List.foldl_nil]
    exact congrArg (Prod.mk ws) (Str.ext' (Array.toList_inj.mp (by rw [app_cds]; simp)))
  | c :: t, ws, r, h => by
    rw [List.all_cons, Bool.and_eq_true] at h
    have hc : ¬ sp c = true := by simpa using h.1
    rw [List.foldl_cons, show KWd.step (ws, r) c = (ws, r ++ ⟨#[c]⟩) by unfold KWd.step; rw [if_neg hc], fold_run t _ _ h.2]
    exact congrArg (Prod.mk ws) (Str.ext' (Array.toList_inj.mp (by simp [app_cds])))
theorem scan_blanks {x b : Str} {ws : List Str} (h : KWd.scan x = (ws, Str.empty)) (hb : b.cps.toList.all sp = true) : KWd.scan (x ++ b) = (ws, Str.empty) := by
  rw [scan_app, h]; exact fold_sp _ _ hb
theorem empty_app (z : Str) : Str.empty ++ z = z := Str.ext' (Array.toList_inj.mp (by rw [app_cds]; rfl))
/-- a word and blanks behind it -/
theorem scan_word {x z g : Str} {ws : List Str} (h : KWd.scan x = (ws, Str.empty)) (hz : (z.cps.toList.all fun c => !sp c) = true) (hz0 : z.length ≠ 0) (hg : g.cps.toList.all sp = true) (hg0 : g.length ≠ 0) : KWd.scan (x ++ z ++ g) = (ws ++ [z], Str.empty) := by
  rw [scan_app, scan_app, h, fold_run _ _ _ hz]
  have e : Str.empty ++ (⟨z.cps.toList.toArray⟩ : Str) = z := empty_app _
  rw [e]
  exact fold_gap hg (fun e => hg0 (by show g.cps.size = 0; rw [← Array.length_toList, e]; rfl)) hz0
theorem words_all {x : Str} {ws : List Str} (h : KWd.scan x = (ws, Str.empty)) : Txt.words x = ws := by
  rw [KWd.words_of h]; rfl
theorem words_last {x z : Str} {ws : List Str} (h : KWd.scan x = (ws, Str.empty)) (hz : (z.cps.toList.all fun c => !sp c) = true) (hz0 : z.length ≠ 0) : Txt.words (x ++ z) = ws ++ [z] := by
  have e : KWd.scan (x ++ z) = (ws, z) := by rw [scan_app, h, fold_run _ _ _ hz]; exact congrArg (Prod.mk ws) (empty_app _)
  rw [KWd.words_of e, if_neg hz0]
end Mine
set_option Elab.async false
set_option maxRecDepth 100000
set_option maxHeartbeats 2000000
set_option compiler.extract_closed false
namespace Mine
noncomputable def wS (l : List Nat) (j : Nat) : Bool := match l[j]? with
  | some c => Unicode.isAlnum c || (c == 45 && (decide (0 < (l.take j).length) && (l.take j).all Unicode.isAlpha))
  | none => false
theorem one_dash (c : Nat) : ((⟨#[c]⟩ : Str) == Str.ofString "-") = (c == 45) := by
  have e : (Str.ofString "-" : Str) = ⟨#[45]⟩ := by decide +kernel
  rw [e]
  by_cases h : c = 45
  · subst h; rfl
  · rw [beq_eq_false_iff_ne.mpr h]
    exact beq_eq_false_iff_ne.mpr fun e => h (one_eq.mp e)
theorem wordSign_eq {y : Str} {j c : Nat} (h : (cds y)[j]? = some c) : wordSign y j = wS (cds y) j := by
  have hj : j < y.length := by
    rw [← cds_len]
    exact (List.getElem?_eq_some_iff.mp h).1
  unfold wordSign wS
  rw [h]
  dsimp only
  rw [cds_item h]
  have e1 : Txt.isalnum (⟨#[c]⟩ : Str) = Unicode.isAlnum c := by
    show (decide ((#[c] : Array Nat).size > 0) && (#[c] : Array Nat).all Unicode.isAlnum) = _
    simp
  have e2 : Txt.isalpha (Txt.slice y none (some (j : Int))) = (decide (0 < ((cds y).take j).length) && ((cds y).take j).all Unicode.isAlpha) := by
    show (decide (Str.length _ > 0) && Array.all _ Unicode.isAlpha) = _
    have e3 := cds_to (Nat.le_of_lt hj)
    rw [← cds_len, ← Array.all_toList]
    show (decide ((cds _).length > 0) && (cds _).all Unicode.isAlpha) = _
    rw [e3]
  rw [e1, e2]
  show (_ || ((⟨#[c]⟩ : Str) == Str.ofString "-") && _) = _
  rw [one_dash]
theorem wS_app {s r : List Nat} {j : Nat} (h : j < s.length) : wS (s ++ r) j = wS s j := by
  unfold wS
  rw [List.getElem?_append_left h, List.take_append_of_le_length (Nat.le_of_lt h)]
theorem wordEnd_uniq {y : Str} {i j : Nat} (hi : WordEnd y i) (hj : WordEnd y j) : i = j := by
  rcases Nat.lt_trichotomy i j with h | h | h
  · have a := hj.2.1 i h
    rw [hi.2.2 (Nat.lt_of_lt_of_le h hj.1)] at a
    cases a
  · exact h
  · have a := hi.2.1 j h
    rw [hj.2.2 (Nat.lt_of_lt_of_le h hi.1)] at a
    cases a
theorem firstEnd_uniq {y : Str} {i j : Nat} (hi : FirstEnd y i) (hj : FirstEnd y j) : i = j := by
  rcases Nat.lt_trichotomy i j with h | h | h
  · have a := hj.2.1 i h
    rw [hi.2.2 (Nat.lt_of_lt_of_le h hj.1)] at a
    cases a
  · exact h
  · have a := hi.2.1 j h
    rw [hj.2.2 (Nat.lt_of_lt_of_le h hi.1)] at a
    cases a
theorem alen (x y : Str) : (x ++ y).length = x.length + y.length := by rw [← cds_len, ← cds_len, ← cds_len, cds_append, List.length_append]
theorem at_left {s r : Str} {j : Nat} (h : j < s.length) : ∃ c, (cds (s ++ r))[j]? = some c ∧ (cds s)[j]? = some c := by
  have h' : j < (cds s).length := by rw [cds_len]; exact h
  refine ⟨(cds s)[j], ?_, List.getElem?_eq_getElem h'⟩
  rw [cds_append, List.getElem?_append_left h', List.getElem?_eq_getElem h']
theorem at_mid {s r : Str} : (cds (s ++ r))[s.length]? = (cds r).head? := by
  rw [cds_append, ← cds_len, List.getElem?_append_right (Nat.le_refl _), Nat.sub_self, List.head?_eq_getElem?]
theorem wordEnd_of {s r : Str} (hs : ∀ j, j < s.length → wS (cds s) j = true) (hr : ∀ c, (cds r).head? = some c → Unicode.isAlnum c = false ∧ c ≠ 45) : WordEnd (s ++ r) s.length := by
  refine ⟨by rw [alen]; omega, fun j hj => ?_, fun h => ?_⟩
  · obtain ⟨c, h1, h2⟩ := at_left (r := r) hj
    rw [wordSign_eq h1, cds_append, wS_app (by rw [cds_len]; exact hj)]
    exact hs j hj
  · have hr0 : (cds r) ≠ [] := fun e => by rw [alen, ← cds_len r, e] at h; simp at h
    obtain ⟨c, hc⟩ : ∃ c, (cds r).head? = some c := ⟨_, List.head?_eq_some_head hr0⟩
    have hm := (at_mid (s := s) (r := r)).trans hc
    rw [wordSign_eq hm]
    unfold wS
    rw [hm]
    dsimp only
    obtain ⟨h1, h2⟩ := hr c hc
    rw [h1, beq_eq_false_iff_ne.mpr h2]
    rfl
theorem cut_l (s r : Str) : Txt.slice (s ++ r) none (some (s.length : Int)) = s := str_of_cds (by
  rw [cds_to (by rw [alen]; omega), cds_append, ← cds_len, List.take_left])
theorem cut_r (s r : Str) : Txt.slice (s ++ r) (some (s.length : Int)) none = r := str_of_cds (by
  rw [cds_from (by rw [alen]; omega), cds_append, ← cds_len, List.drop_left])
theorem parted_word {x s r c b e : Str} (h : PartedIs x c b e) (hx : Txt.strip x = s ++ r) (hs : ∀ j, j < s.length → wS (cds s) j = true) (hr : ∀ c, (cds r).head? = some c → Unicode.isAlnum c = false ∧ c ≠ 45) :
    cmdOf s = some c ∧ (((Txt.slice (Txt.strip r) none (some 1) == Str.ofString "/") = false ∧ b = Str.ofString "" ∧ e = Txt.strip r) ∨
     ((Txt.slice (Txt.strip r) none (some 1) == Str.ofString "/") = true ∧ ∃ k, FirstEnd (Txt.strip (Txt.slice (Txt.strip r) (some 1) none)) k ∧ b = Txt.slice (Txt.strip (Txt.slice (Txt.strip r) (some 1) none)) none (some (k : Int)) ∧ e = Txt.strip (Txt.slice (Txt.strip (Txt.slice (Txt.strip r) (some 1) none)) (some (k : Int)) none))) := by
  obtain ⟨i, h1, h2, h3⟩ := h
  rw [hx] at h1 h2
  obtain rfl := wordEnd_uniq h1 (wordEnd_of hs hr)
  rw [cut_l] at h2
  unfold tailAt restAt at h3
  rw [hx, cut_r] at h3
  exact ⟨h2, h3⟩
theorem parted_not {x s r : Str} (h : PartedNot x) (hx : Txt.strip x = s ++ r) (hs : ∀ j, j < s.length → wS (cds s) j = true) (hr : ∀ c, (cds r).head? = some c → Unicode.isAlnum c = false ∧ c ≠ 45) (h0 : 0 < s.length) : cmdOf s = none := by
  obtain ⟨i, h1, h2⟩ := h
  rw [hx] at h1 h2
  obtain rfl := wordEnd_uniq h1 (wordEnd_of hs hr)
  rw [cut_l] at h2
  rcases h2 with h2 | h2
  · omega
  · exact h2
theorem blankAt_eq {y : Str} {j c : Nat} (h : (cds y)[j]? = some c) : blankAt y j = (c == 32 || c == 9) := by
  unfold blankAt
  rw [cds_item h]
  have h := StrLaws.found_one (Str.ofString " \t") c
  have e : (Str.ofString " \t").cps.toList = [32, 9] := by decide +kernel
  rw [e] at h
  rw [h, Bool.eq_iff_iff]
  simp only [decide_eq_true_eq, List.mem_cons, List.not_mem_nil, or_false, Bool.or_eq_true, beq_iff_eq]
theorem first1 (y : Str) : (Txt.slice y none (some 1) == Str.ofString "/") = ((cds y).head? == some 47) := by
  have e : (Str.ofString "/" : Str) = ⟨#[47]⟩ := by decide +kernel
  rw [e]
  by_cases h : 1 ≤ y.length
  · have e1 : cds (Txt.slice y none (some 1)) = (cds y).take 1 := cds_to h
    match hq : cds y with
    | [] => rw [← cds_len, hq] at h; simp at h
    | c :: t =>
      have e2 : Txt.slice y none (some 1) = ⟨#[c]⟩ := str_of_cds (by rw [e1, hq]; rfl)
      rw [e2]
      show _ = (some c == some 47)
      by_cases hc : c = 47
      · subst hc; rfl
      · rw [beq_eq_false_iff_ne.mpr fun e => hc (one_eq.mp e), beq_eq_false_iff_ne.mpr fun e => hc (Option.some.inj e)]
  · have hz : y.length = 0 := by omega
    obtain rfl := KWd.len0 hz
    decide +kernel
theorem firstEnd_of {m r : Str} (hm : ∀ c ∈ cds m, sp c = false) (hr : ∀ c, (cds r).head? = some c → c = 32 ∨ c = 9) : FirstEnd (m ++ r) m.length := by
  refine ⟨by rw [alen]; omega, fun j hj => ?_, fun h => ?_⟩
  · obtain ⟨c, h1, h2⟩ := at_left (r := r) hj
    rw [blankAt_eq h1]
    have hc := hm c (List.mem_of_getElem? h2)
    have h32 : c ≠ 32 := fun e => by rw [e] at hc; exact absurd hc (by decide +kernel)
    have h9 : c ≠ 9 := fun e => by rw [e] at hc; exact absurd hc (by decide +kernel)
    rw [beq_eq_false_iff_ne.mpr h32, beq_eq_false_iff_ne.mpr h9]
    rfl
  · have hr0 : (cds r) ≠ [] := fun e => by rw [alen, ← cds_len r, e] at h; simp at h
    obtain ⟨c, hc⟩ : ∃ c, (cds r).head? = some c := ⟨_, List.head?_eq_some_head hr0⟩
    rw [blankAt_eq ((at_mid (s := m) (r := r)).trans hc)]
    rcases hr c hc with rfl | rfl <;> rfl
end Mine
set_option Elab.async false
set_option maxRecDepth 100000
set_option maxHeartbeats 2000000
set_option compiler.extract_closed false
namespace Mine
noncomputable def stemChk (l : List Nat) : Bool := decide (0 < l.length) && decide (l.length ≤ 20) && (List.range l.length).all (wS l) && l.all (· < 128) && edge l
theorem names_chk : ∀ z ∈ names, ((List.range z.length).all (fun j => stemChk ((cds z).take (j + 1))) && stemChk (cds z)) = true := by decide +kernel
theorem shorts_chk : ∀ q ∈ shorts, stemChk (cds q.1) = true := by decide +kernel
theorem wrongs_chk : ∀ z ∈ wrongs, stemChk (cds z) = true := by decide +kernel
theorem stem_chk {y : Str} (h : StemOk y) : stemChk (cds y) = true := by
  rcases h with h | ⟨q, hq, rfl⟩ | ⟨z, hz, j, hj, rfl⟩ | h
  · exact ((Bool.and_eq_true _ _).mp (names_chk y h)).2
  · exact shorts_chk q hq
  · have h1 := ((Bool.and_eq_true _ _).mp (names_chk z hz)).1
    have h2 := List.all_eq_true.mp h1 j (List.mem_range.mpr hj)
    have e : cds (Txt.slice z none (some (1 + (j : Int)))) = (cds z).take (j + 1) := by
      have := cds_to (x := z) (i := j + 1) (by omega)
      rw [← this]
      congr 3
      omega
    rw [e]; exact h2
  · exact wrongs_chk y h
theorem stem_facts {y : Str} (h : StemOk y) : 0 < y.length ∧ y.length ≤ 20 ∧ (∀ j, j < y.length → wS (cds y) j = true) ∧ y.cps.all (· < 128) = true ∧ edge (cds y) = true := by
  have h := stem_chk h
  unfold stemChk at h
  simp only [Bool.and_eq_true, decide_eq_true_eq] at h
  obtain ⟨⟨⟨⟨h1, h2⟩, h3⟩, h4⟩, h5⟩ := h
  rw [cds_len] at h1 h2
  refine ⟨h1, h2, fun j hj => List.all_eq_true.mp h3 j (List.mem_range.mpr (by rw [cds_len]; exact hj)), ?_, h5⟩
  rw [← Array.all_toList]; exact h4
end Mine
set_option Elab.async false
set_option maxRecDepth 100000
set_option maxHeartbeats 2000000
set_option compiler.extract_closed false
namespace Mine
noncomputable def rests : List Str := [Str.ofString "", Str.ofString "main", Str.ofString "a.c:3", Str.ofString "*0x1000", Str.ofString "i + 1", Str.ofString "p->x / 2", Str.ofString "(char) 'a'", Str.ofString "3 4", Str.ofString "$1"]
noncomputable def seps : List Str := [Str.ofString " ", Str.ofString "  ", Str.ofString "\t "]
noncomputable def gaps : List Str := [Str.ofString " ", Str.ofString "   ", Str.ofString "\t"]
noncomputable def starts : List Str := [Str.ofString "", Str.ofString "*", Str.ofString "/x", Str.ofString "-b", Str.ofString "!", Str.ofString "= 3", Str.ofString "(p)"]
noncomputable def blk (c : Nat) : Bool := c == 32 || c == 9
noncomputable def MarkOk (m : Str) : Prop := cds m ≠ [] ∧ ∀ c ∈ cds m, sp c = false
theorem rests_chk : ∀ z ∈ rests, edge (cds z) = true ∧ ((cds z).head? == some 47) = false ∧ z.length ≤ 20 ∧ (z = Str.ofString "" ∨ cds z ≠ []) := by decide +kernel
theorem blanks_chk : ∀ z ∈ blanks, (cds z).all blk = true ∧ z.length ≤ 2 := by decide +kernel
theorem gaps_chk : ∀ z ∈ gaps, (cds z).all blk = true ∧ z.length ≤ 3 ∧ cds z ≠ [] := by decide +kernel
theorem seps_chk : ∀ z ∈ seps, (cds z).all blk = true ∧ z.length ≤ 3 ∧ cds z ≠ [] := by decide +kernel
theorem blk_sp {c : Nat} (h : blk c = true) : sp c = true := by
  unfold blk at h
  simp only [Bool.or_eq_true, beq_iff_eq] at h
  rcases h with rfl | rfl <;> decide +kernel
theorem all_sp {l : List Nat} (h : l.all blk = true) : l.all sp = true := List.all_eq_true.mpr fun c hc => blk_sp (List.all_eq_true.mp h c hc)
theorem blk_head {l m : List Nat} (h : l.all blk = true) (hl : l ≠ []) : ∀ c, (l ++ m).head? = some c → c = 32 ∨ c = 9 := by
  cases l with
  | nil => exact absurd rfl hl
  | cons a r =>
    intro c hc
    rw [List.all_cons, Bool.and_eq_true] at h
    have : a = c := Option.some.inj hc
    subst this
    have h := h.1
    unfold blk at h
    simpa using h
theorem not_word {c : Nat} (h : c = 32 ∨ c = 9 ∨ c = 47) : Unicode.isAlnum c = false ∧ c ≠ 45 := by
  rcases h with rfl | rfl | rfl <;> decide +kernel
theorem mark_edge {m : Str} (h : MarkOk m) : edge (cds m) = true := by
  unfold edge
  rw [Bool.and_eq_true]
  constructor
  · cases e : (cds m).head? with
    | none => rfl
    | some c => simpa using h.2 c (List.mem_of_head? e)
  · cases e : (cds m).getLast? with
    | none => rfl
    | some c => simpa using h.2 c (List.mem_of_getLast? e)
noncomputable def LineParts (stroke tl mk : Str) : Prop :=
  (mk = Str.ofString "" ∧ ((cds tl ≠ [] ∧ stroke ∈ gaps) ∨ (tl = Str.ofString "" ∧ stroke ∈ blanks))) ∨ (∃ b1 ∈ blanks, ∃ b2 ∈ seps, stroke = b1 ++ Str.ofString "/" ++ mk ++ b2 ∧ MarkOk mk)
theorem slash_cds : cds (Str.ofString "/") = [47] := by decide +kernel
theorem slash_cds' : (Str.ofString "/").cps.toList = [47] := slash_cds
theorem nil_cds : cds (Str.ofString "") = [] := by decide +kernel
theorem parted_slash {x s r u c b e mk tl : Str} (h : PartedIs x c b e) (hx : Txt.strip x = s ++ r) (hs : ∀ j, j < s.length → wS (cds s) j = true) (hr : ∀ c, (cds r).head? = some c → Unicode.isAlnum c = false ∧ c ≠ 45)
    (hR : Txt.strip r = Str.ofString "/" ++ (mk ++ u)) (hm : MarkOk mk) (hu : ∀ c, (cds u).head? = some c → c = 32 ∨ c = 9) (hmu : edge (cds (mk ++ u)) = true) (ht : Txt.strip u = tl) : cmdOf s = some c ∧ b = mk ∧ e = tl := by
  obtain ⟨h1, h2⟩ := parted_word h hx hs hr
  refine ⟨h1, ?_⟩
  have hf : (Txt.slice (Txt.strip r) none (some 1) == Str.ofString "/") = true := by
    rw [first1, hR, cds_append, slash_cds]; rfl
  have ec : Txt.slice (Txt.strip r) (some 1) none = mk ++ u := by
    rw [hR]
    exact cut_r (Str.ofString "/") (mk ++ u)
  rcases h2 with ⟨h2, _⟩ | ⟨_, k, hk, rfl, rfl⟩
  · rw [hf] at h2; cases h2
  · rw [ec, strip_e hmu] at hk ⊢
    obtain rfl := firstEnd_uniq hk (firstEnd_of hm.2 hu)
    rw [cut_l, cut_r]
    exact ⟨rfl, ht⟩
theorem parted_plain {x s r c b e tl : Str} (h : PartedIs x c b e) (hx : Txt.strip x = s ++ r) (hs : ∀ j, j < s.length → wS (cds s) j = true) (hr : ∀ c, (cds r).head? = some c → Unicode.isAlnum c = false ∧ c ≠ 45)
    (hR : Txt.strip r = tl) (hf : ((cds tl).head? == some 47) = false) : cmdOf s = some c ∧ b = Str.ofString "" ∧ e = tl := by
  obtain ⟨h1, h2⟩ := parted_word h hx hs hr
  refine ⟨h1, ?_⟩
  rw [hR, first1, hf] at h2
  rcases h2 with ⟨_, h2⟩ | ⟨h2, _⟩
  · exact h2
  · cases h2
theorem line_law {b3 b4 st stroke tl mk : Str} (hs0 : 0 < st.length) (hs : ∀ j, j < st.length → wS (cds st) j = true) (hse : edge (cds st) = true) (h3 : b3 ∈ blanks) (h4 : b4 ∈ blanks) (ht : tl ∈ rests) (hp : LineParts stroke tl mk) :
    (∀ {c b e}, PartedIs (b3 ++ st ++ stroke ++ tl ++ b4) c b e → cmdOf st = some c ∧ b = mk ∧ e = tl) ∧ (PartedNot (b3 ++ st ++ stroke ++ tl ++ b4) → cmdOf st = none) := by
  have a3 := all_sp (blanks_chk _ h3).1
  have a4 := all_sp (blanks_chk _ h4).1
  obtain ⟨t1, t2, _, t3⟩ := rests_chk _ ht
  have sne : cds st ≠ [] := fun e => by rw [← cds_len, e] at hs0; exact absurd hs0 (by decide)
  rcases hp with ⟨rfl, ⟨ht0, hg⟩ | ⟨rfl, hg⟩⟩ | ⟨b1, hb1, b2, hb2, rfl, hm⟩
  · obtain ⟨g1, _, g2⟩ := gaps_chk _ hg
    have hx : Txt.strip (b3 ++ st ++ stroke ++ tl ++ b4) = st ++ (stroke ++ tl) := strip_is (a := cds b3) (b := cds b4) (by simp only [app_cds, List.append_assoc, cds]) a3 a4 (by
      simp only [app_cds]; rw [← List.append_assoc]; exact edge_app hse t1 sne ht0 _)
    have hr : ∀ c, (cds (stroke ++ tl)).head? = some c → Unicode.isAlnum c = false ∧ c ≠ 45 := fun c hc => not_word (by
      rw [cds_append] at hc; exact (blk_head g1 g2 c hc).imp id .inl)
    exact ⟨fun h => parted_plain h hx hs hr (strip_l (all_sp g1) t1) t2, fun h => parted_not h hx hs hr hs0⟩
  · obtain ⟨g1, _⟩ := blanks_chk _ hg
    have hx : Txt.strip (b3 ++ st ++ stroke ++ Str.ofString "" ++ b4) = st ++ Str.ofString "" := strip_is (a := cds b3) (b := cds stroke ++ cds b4) (by
        simp only [app_cds, List.append_assoc, cds]; rfl) a3 (by rw [List.all_append, all_sp g1, a4]; rfl) (by
      rw [app_cds]; show edge (cds st ++ []) = true; rw [List.append_nil]; exact hse)
    have hr : ∀ c, (cds (Str.ofString "")).head? = some c → Unicode.isAlnum c = false ∧ c ≠ 45 := fun c hc => by rw [nil_cds] at hc; cases hc
    exact ⟨fun h => parted_plain h hx hs hr (strip_e rfl) t2, fun h => parted_not h hx hs hr hs0⟩
  · obtain ⟨g1, _⟩ := blanks_chk _ hb1
    obtain ⟨g2, _, g3⟩ := seps_chk _ hb2
    have hme := mark_edge hm
    have head_ : ∀ z : Str, ∀ c, (cds (b1 ++ (Str.ofString "/" ++ z))).head? = some c → Unicode.isAlnum c = false ∧ c ≠ 45 := fun z c hc => not_word (by
      rw [cds_append, cds_append, slash_cds] at hc
      by_cases hb : cds b1 = []
      · rw [hb] at hc; exact .inr (.inr (Option.some.inj hc).symm)
      · exact (blk_head g1 hb c hc).imp id .inl)
    rcases t3 with rfl | t3
    · have hx : Txt.strip (b3 ++ st ++ (b1 ++ Str.ofString "/" ++ mk ++ b2) ++ Str.ofString "" ++ b4) = st ++ (b1 ++ (Str.ofString "/" ++ mk)) := strip_is (a := cds b3) (b := cds b2 ++ cds b4) (by
          simp only [app_cds, List.append_assoc, cds]; rfl) a3 (by rw [List.all_append, all_sp g2, a4]; rfl) (by
        have := edge_app hse hme sne hm.1 (cds b1 ++ [47])
        simpa only [app_cds, slash_cds', List.append_assoc] using this)
      have hR : Txt.strip (b1 ++ (Str.ofString "/" ++ mk)) = Str.ofString "/" ++ (mk ++ Str.ofString "") := by
        rw [app_nil]
        exact strip_l (all_sp g1) (by have := edge_app (m := [47]) (n := cds mk) (by decide +kernel) hme (by simp) hm.1 []; simpa only [app_cds, slash_cds', List.append_nil] using this)
      exact ⟨fun h => parted_slash h hx hs (head_ _) hR hm (fun c hc => by rw [nil_cds] at hc; cases hc) (by rw [app_nil]; exact hme) (strip_e rfl), fun h => parted_not h hx hs (head_ _) hs0⟩
    · have hx : Txt.strip (b3 ++ st ++ (b1 ++ Str.ofString "/" ++ mk ++ b2) ++ tl ++ b4) = st ++ (b1 ++ (Str.ofString "/" ++ (mk ++ (b2 ++ tl)))) := strip_is (a := cds b3) (b := cds b4) (by
          simp only [app_cds, List.append_assoc, cds]) a3 a4 (by
        have := edge_app hse t1 sne t3 (cds b1 ++ [47] ++ cds mk ++ cds b2)
        simpa only [app_cds, slash_cds', List.append_assoc] using this)
      have hR : Txt.strip (b1 ++ (Str.ofString "/" ++ (mk ++ (b2 ++ tl)))) = Str.ofString "/" ++ (mk ++ (b2 ++ tl)) := by
        exact strip_l (all_sp g1) (by have := edge_app (m := [47]) (n := cds tl) (by decide +kernel) t1 (by simp) t3 (cds mk ++ cds b2); simpa only [app_cds, slash_cds', List.append_assoc] using this)
      refine ⟨fun h => parted_slash h hx hs (head_ _) hR hm (fun c hc => ?_) ?_ (strip_l (all_sp g2) t1), fun h => parted_not h hx hs (head_ _) hs0⟩
      · rw [cds_append] at hc; exact blk_head g2 g3 c hc
      · have := edge_app hme t1 hm.1 t3 (cds b2); simpa only [app_cds, slash_cds', List.append_assoc] using this
end Mine
set_option Elab.async false
set_option maxRecDepth 100000
set_option maxHeartbeats 2000000
set_option compiler.extract_closed false
namespace Mine
noncomputable def strsFrom : Nat → List Str → List Value
  | _, [] => []
  | k, x :: r => .str x k :: strsFrom (k + 1) r
theorem strsFrom_are : ∀ (l : List Str) (k : Nat), StrsAre (strsFrom k l) l
  | [], _ => .nil
  | _ :: r, k => .cons _ _ (strsFrom_are r (k + 1))
theorem restsTup (w : World) (rest : Led) : TupIn w rest 170 (strsFrom 409 rests) := .inr rfl
theorem starts_chk : ∀ z ∈ starts, edge (cds z) = true ∧ z.length ≤ 3 ∧ (z.length = 0 ∨ ((cds z).head?.isSome = true ∧ wS (cds z) 0 = false)) := by decide +kernel
theorem cmd_nil : cmdOf (Str.ofString "") = none := by decide +kernel
theorem odd_law {b5 b6 q c b e : Str} (h5 : b5 ∈ blanks) (h6 : b6 ∈ blanks) (hq : q ∈ starts) (h : PartedIs (b5 ++ q ++ b6) c b e) : False := by
  obtain ⟨i, h1, h2, _⟩ := h
  obtain ⟨e1, e2, e3⟩ := starts_chk _ hq
  rw [strip_mid (all_sp (blanks_chk _ h5).1) (all_sp (blanks_chk _ h6).1) e1] at h1 h2
  have h0 : WordEnd q 0 := ⟨Nat.zero_le _, fun j hj => absurd hj (Nat.not_lt_zero _), fun hl => by
    rcases e3 with e3 | ⟨e3, e4⟩
    · omega
    · obtain ⟨c, hc⟩ := Option.isSome_iff_exists.mp e3
      rw [List.head?_eq_getElem?] at hc
      rw [wordSign_eq hc]; exact e4⟩
  obtain rfl := wordEnd_uniq h1 h0
  have ec : Txt.slice q none (some ((0 : Nat) : Int)) = Str.ofString "" := str_of_cds (by rw [cds_to (Nat.zero_le _)]; rfl)
  rw [ec, cmd_nil] at h2
  cases h2
theorem names_good : ∀ z ∈ names, (z == Str.ofString "refused") = false := by decide +kernel
theorem shorts_good : ∀ q ∈ shorts, (q.2 == Str.ofString "refused") = false := by decide +kernel
theorem getS_mem (x : Str) : ∀ l : List (Str × Str), getS l x = Str.ofString "" ∨ ∃ q ∈ l, getS l x = q.2
  | [] => .inl rfl
  | (a, b) :: l => by
    show (if (a == x) = true then b else getS l x) = _ ∨ ∃ q ∈ _, (if (a == x) = true then b else getS l x) = _
    by_cases h : (a == x) = true
    · rw [if_pos h]; exact .inr ⟨_, .head _, rfl⟩
    · rw [if_neg h]
      rcases getS_mem x l with e | ⟨q, hq, e⟩
      · exact .inl e
      · exact .inr ⟨q, .tail _ hq, e⟩
theorem cmd_in {x c : Str} (h : cmdOf x = some c) : c ∈ names ∨ ∃ q ∈ shorts, c = q.2 := by
  unfold cmdOf at h
  split at h
  · rename_i h1
    obtain ⟨y, hy, e⟩ := List.any_eq_true.mp h1
    obtain rfl := eq_of_beq e
    obtain rfl := Option.some.inj h
    exact .inl hy
  · split at h
    · rename_i h2
      obtain rfl := Option.some.inj h
      rcases getS_mem x shorts with e | ⟨q, hq, e⟩
      · rw [e] at h2; exact absurd h2 (by decide)
      · exact .inr ⟨q, hq, e⟩
    · match hq : names.filter (fun z => Txt.startswith z x), h with
      | [a], h =>
        obtain rfl := Option.some.inj h
        exact .inl (List.mem_filter.mp (hq ▸ List.mem_singleton_self _)).1
theorem cmd_good {x c : Str} (h : cmdOf x = some c) : (c == Str.ofString "refused") = false := by
  rcases cmd_in h with h | ⟨q, hq, rfl⟩
  · exact names_good _ h
  · exact shorts_good q hq
theorem names_ok : ∀ z ∈ names, PyData.strOk z = true := by decide +kernel
theorem shorts_ok : ∀ q ∈ shorts, PyData.strOk q.2 = true := by decide +kernel
theorem rests_ok : ∀ z ∈ rests, PyData.strOk z = true := by decide +kernel
theorem meant_ok (x : Str) : PyData.strOk (meantOf x) = true := by
  unfold meantOf
  cases h : cmdOf x with
  | none => decide +kernel
  | some c =>
    rcases cmd_in h with h | ⟨q, hq, rfl⟩
    · exact names_ok _ h
    · exact shorts_ok q hq
theorem meant_some {x c : Str} (h : cmdOf x = some c) : meantOf x = c := by unfold meantOf; rw [h]; rfl
theorem meant_none {x : Str} (h : cmdOf x = none) : meantOf x = Str.ofString "refused" := by unfold meantOf; rw [h]; rfl
end Mine
set_option Elab.async false
set_option maxRecDepth 100000
set_option maxHeartbeats 2000000
set_option compiler.extract_closed false
namespace Mine
theorem sliceMin (x : Str) (i j : Int) (h : (x.length : Int) ≤ j) : Txt.slice x (some i) (some j) = Txt.slice x (some i) (some (x.length : Int)) := by
  show StrLaws.sliceText x _ _ = StrLaws.sliceText x _ _
  have e : Builtin.Str.strSliceIndices (some i) (some j) 1 x.length = Builtin.Str.strSliceIndices (some i) (some (x.length : Int)) 1 x.length := by
    have h1 : ¬ (j < 0) := by omega
    have h2 : ¬ ((x.length : Int) < 0) := by omega
    have h3 : min j (x.length : Int) = x.length := by omega
    have h4 : min (x.length : Int) (x.length : Int) = x.length := by omega
    simp [Builtin.Str.strSliceIndices, h1, h2, h3, h4]
  unfold StrLaws.sliceText
  rw [e]
theorem cds_cut (x : Str) (i k : Nat) (h : i ≤ x.length) : cds (Txt.slice x (some (i : Int)) (some ((i : Int) + k))) = ((cds x).drop i).take k := by
  by_cases hk : i + k ≤ x.length
  · rw [eq_of_beq (slice_closesL (x := x) (i := (i : Int)) (j := (i : Int) + k) (by omega) (by omega) (by omega))]
    show ((cds x).drop (i : Int).toNat).take ((i : Int) + k - i).toNat = _
    congr 1
    omega
  · rw [sliceMin x _ _ (by omega), eq_of_beq (slice_closesL (x := x) (i := (i : Int)) (j := (x.length : Int)) (by omega) (by omega) (by omega))]
    show ((cds x).drop (i : Int).toNat).take ((x.length : Int) - i).toNat = _
    rw [Int.toNat_natCast, List.take_of_length_le (by rw [List.length_drop, cds_len]; omega), List.take_of_length_le (by rw [List.length_drop, cds_len]; omega)]
noncomputable def nameL (l : List Nat) : Bool := match l with | [] => false | c :: _ => Unicode.isAlnum c || c == 95 || c == 36
noncomputable def ifL (l : List Nat) (i : Nat) : Bool := ((l.drop i).take 2 == [105, 102] && !nameL (((l.drop i).drop 2).take 1)) && (decide (i = 0) || blk (l.getD (i - 1) 0))
theorem nameSign_eq {y : Str} {l : List Nat} (h : cds y = l) (h1 : l.length ≤ 1) : nameSign (orBlank y) = nameL l := by
  subst h
  match hq : cds y, h1 with
  | [], _ =>
    have : y.length = 0 := by rw [← cds_len, hq]; rfl
    unfold orBlank
    rw [if_pos this]
    decide +kernel
  | [c], _ =>
    have : y.length ≠ 0 := by rw [← cds_len, hq]; exact Nat.succ_ne_zero 0
    unfold orBlank
    rw [if_neg this]
    obtain rfl : y = ⟨#[c]⟩ := str_of_cds (by rw [hq])
    unfold nameSign nameL
    have e1 : Txt.isalnum (⟨#[c]⟩ : Str) = Unicode.isAlnum c := by
      show (decide ((#[c] : Array Nat).size > 0) && (#[c] : Array Nat).all Unicode.isAlnum) = _
      simp
    have one : ∀ d : Nat, ((⟨#[c]⟩ : Str) == ⟨#[d]⟩) = (c == d) := fun d => by
      by_cases h : c = d
      · subst h; rw [beq_self_eq_true, beq_self_eq_true]
      · rw [beq_eq_false_iff_ne.mpr h]
        exact beq_eq_false_iff_ne.mpr fun e => h (one_eq.mp e)
    have e2 : (Str.ofString "_" : Str) = ⟨#[95]⟩ := by decide +kernel
    have e3 : (Str.ofString "$" : Str) = ⟨#[36]⟩ := by decide +kernel
    rw [e1]
    show (_ || (⟨#[c]⟩ : Str) == Str.ofString "_" || (⟨#[c]⟩ : Str) == Str.ofString "$") = _
    rw [e2, e3, one, one]
theorem ifAt_eq {y : Str} {i : Nat} (h : i < y.length) : ifAt y i = ifL (cds y) i := by
  unfold ifAt wordAt ifL
  have e1 : (Txt.slice y (some (i : Int)) (some ((i : Int) + 2)) == Str.ofString "if") = (((cds y).drop i).take 2 == [105, 102]) := by
    have h2 := cds_cut y i 2 (by omega)
    have h3 : cds (Str.ofString "if") = [105, 102] := by decide +kernel
    rw [Bool.eq_iff_iff, beq_iff_eq, beq_iff_eq, ← h2, ← h3]
    exact ⟨fun e => congrArg cds e, fun e => str_of_cds e⟩
  by_cases hi : i + 2 ≤ y.length
  · have e2 : nameSign (orBlank (Txt.slice y (some ((i : Int) + 2)) (some ((i : Int) + 3)))) = nameL (((cds y).drop i).drop 2 |>.take 1) := by
      refine nameSign_eq ?_ (by rw [List.length_take]; omega)
      have := cds_cut y (i + 2) 1 hi
      rw [List.drop_drop]
      rw [← this]
      have e3 : ((i : Int) + 3) = ((i + 2 : Nat) : Int) + (1 : Nat) := by omega
      rw [e3]
      rfl
    rw [e1, e2]
    by_cases h0 : i = 0
    · subst h0; rw [decide_eq_true rfl, Bool.true_or, Bool.true_or]
    · rw [decide_eq_false h0, Bool.false_or, Bool.false_or]
      congr 1
      have hm : i - 1 < (cds y).length := by rw [cds_len]; omega
      have e3 : (cds y)[i - 1]? = some ((cds y)[i - 1]) := List.getElem?_eq_getElem hm
      have e4 : ((i : Int) - 1) = ((i - 1 : Nat) : Int) := by omega
      have e5 := blankAt_eq e3
      unfold blankAt at e5
      rw [e4, e5, List.getD_eq_getElem?_getD, e3]
      rfl
  · have e3 : (((cds y).drop i).take 2 == [105, 102]) = false := by
      rw [beq_eq_false_iff_ne]
      intro e
      have := congrArg List.length e
      rw [List.length_take, List.length_drop, cds_len] at this
      simp at this
      omega
    rw [e1, e3]
    rfl
noncomputable def places : List Str := [Str.ofString "", Str.ofString "main", Str.ofString "a.c:12", Str.ofString "*0x1010", Str.ofString "iffy", Str.ofString "sif", Str.ofString "a.c:if1", Str.ofString "+3", Str.ofString "notif", Str.ofString "x.if"]
noncomputable def conds : List Str := [Str.ofString "i > 3", Str.ofString "x", Str.ofString "(a)", Str.ofString "p == 0 && q", Str.ofString "!if_so", Str.ofString "1 if 2"]
noncomputable def pads : List Str := [Str.ofString " ", Str.ofString " \t"]
noncomputable def wides : List Str := [Str.ofString " ", Str.ofString "  ", Str.ofString "\t"]
noncomputable def BtwOk (cond btw : Str) : Prop := btw ∈ wides ∨ (btw = Str.ofString "" ∧ (Builtin.Str.occurrences (Str.ofString "(!") (Txt.item cond 0) 0 (Str.ofString "(!").length 1).isEmpty = false)
noncomputable def PadOk (p gp : Str) : Prop := (cds p ≠ [] ∧ gp ∈ pads) ∨ (p = Str.ofString "" ∧ gp = Str.ofString "")
noncomputable def placeChk (p gp t : List Nat) : Bool :=
  let l := p ++ gp ++ [105, 102] ++ t
  let i := p.length + gp.length
  edge l && (List.range i).all (fun j => !ifL l j) && ifL l i
noncomputable def stopChk (p : List Nat) (gp : List Nat) : Bool := stripL (p ++ gp) == p
theorem places_chk : ∀ p ∈ places, (edge (cds p) = true ∧ (List.range p.length).all (fun j => !ifL (cds p) j) = true ∧ p.length ≤ 20 ∧ (p = Str.ofString "" ∨ cds p ≠ [])) ∧
    ∀ gp ∈ (if p = Str.ofString "" then [Str.ofString ""] else pads), placeChk (cds p) (cds gp) [] = true ∧ stopChk (cds p) (cds gp) = true ∧
      ∀ c ∈ conds, ∀ b ∈ wides, placeChk (cds p) (cds gp) (cds b ++ cds c) = true := by decide +kernel
theorem places_chk0 : ∀ p ∈ places, ∀ gp ∈ (if p = Str.ofString "" then [Str.ofString ""] else pads), ∀ c ∈ [Str.ofString "(a)", Str.ofString "!if_so"], placeChk (cds p) (cds gp) (cds c) = true := by decide +kernel
theorem conds_chk : ∀ c ∈ conds, cds c ≠ [] ∧ edge (cds c) = true ∧ c.length ≤ 20 ∧ ((Builtin.Str.occurrences (Str.ofString "(!") (Txt.item c 0) 0 (Str.ofString "(!").length 1).isEmpty = false → c ∈ [Str.ofString "(a)", Str.ofString "!if_so"]) := by decide +kernel
theorem wides_chk : ∀ z ∈ wides, (cds z).all blk = true ∧ z.length ≤ 3 := by decide +kernel
theorem pads_len : ∀ z ∈ pads, z.length ≤ 3 := by decide +kernel
theorem pad_mem {p gp : Str} (h : PadOk p gp) : gp ∈ (if p = Str.ofString "" then [Str.ofString ""] else pads) := by
  rcases h with ⟨h, hg⟩ | ⟨rfl, rfl⟩
  · rw [if_neg (fun e => h (by rw [e]; exact nil_cds))]; exact hg
  · rw [if_pos rfl]; exact .head _
theorem placeChk_of {p gp cond btw : Str} (hp : p ∈ places) (hg : PadOk p gp) (hc : cond ∈ conds) (hb : BtwOk cond btw) : placeChk (cds p) (cds gp) (cds btw ++ cds cond) = true := by
  rcases hb with hb | ⟨rfl, h⟩
  · exact ((places_chk p hp).2 gp (pad_mem hg)).2.2 cond hc btw hb
  · rw [nil_cds, List.nil_append]
    exact places_chk0 p hp gp (pad_mem hg) cond ((conds_chk cond hc).2.2.2 h)
theorem iff_cds : cds (Str.ofString "if") = [105, 102] := by decide +kernel
/-- what the check says of the text itself -/
theorem place_scan {y : Str} {p gp t : List Nat} (h : placeChk p gp t = true) (hy : cds y = p ++ gp ++ [105, 102] ++ t) : p.length + gp.length < y.length ∧ p.length + gp.length + 2 ≤ y.length ∧ edge (cds y) = true ∧ (∀ j, j < p.length + gp.length → ifAt y j = false) ∧ ifAt y (p.length + gp.length) = true ∧
    cds (Txt.slice y none (some ((p.length + gp.length : Nat) : Int))) = p ++ gp ∧ cds (Txt.slice y (some (((p.length + gp.length : Nat) : Int) + 2)) none) = t := by
  unfold placeChk at h
  dsimp only at h
  rw [← hy] at h
  simp only [Bool.and_eq_true] at h
  obtain ⟨⟨h1, h2⟩, h3⟩ := h
  have hl : y.length = p.length + gp.length + 2 + t.length := by rw [← cds_len, hy]; simp; omega
  refine ⟨by omega, by omega, h1, fun j hj => ?_, ?_, ?_, ?_⟩
  · rw [ifAt_eq (by omega)]
    have := List.all_eq_true.mp h2 j (List.mem_range.mpr hj)
    simpa using this
  · rw [ifAt_eq (by omega)]; exact h3
  · rw [cds_to (by omega), hy, List.append_assoc (p ++ gp), List.take_left' (by simp)]
  · have := cds_from (x := y) (i := p.length + gp.length + 2) (by omega)
    have e : (((p.length + gp.length : Nat) : Int) + 2) = ((p.length + gp.length + 2 : Nat) : Int) := by omega
    rw [e, this, hy, List.drop_left' (by simp; omega)]
theorem first_if {y : Str} {i k : Nat} (hi : ifAt y i = true) (hj : ∀ j, j < i → ifAt y j = false) (hk : ifAt y k = true) (hkj : ∀ j, j < k → ifAt y j = false) : i = k := by
  rcases Nat.lt_trichotomy i k with h | h | h
  · rw [hkj i h] at hi; cases hi
  · exact h
  · rw [hj k h] at hk; cases hk
theorem place1 {b1 p b2 : Str} (h1 : b1 ∈ blanks) (h2 : b2 ∈ blanks) (hp : p ∈ places) : (∀ {q c}, PlaceIs (b1 ++ p ++ b2) q c → q = p ∧ c = Str.ofString "") ∧ ¬ PlaceNot (b1 ++ p ++ b2) := by
  obtain ⟨⟨e1, e2, _⟩, _⟩ := places_chk p hp
  have hs : Txt.strip (b1 ++ p ++ b2) = p := strip_mid (all_sp (blanks_chk _ h1).1) (all_sp (blanks_chk _ h2).1) e1
  have hno : ∀ i, i < p.length → ifAt p i = false := fun i hi => by
    rw [ifAt_eq hi]
    have := List.all_eq_true.mp e2 i (List.mem_range.mpr hi)
    simpa using this
  constructor
  · rintro q c (⟨_, rfl, rfl⟩ | ⟨i, hi, _, hif, _⟩)
    · exact ⟨hs, rfl⟩
    · rw [hs] at hi hif
      rw [hno i hi] at hif; cases hif
  · rintro ⟨i, hi, _, hif, _⟩
    rw [hs] at hi hif
    rw [hno i hi] at hif; cases hif
theorem place2 {b1 p gp btw cond b3 : Str} (h1 : b1 ∈ blanks) (h3 : b3 ∈ blanks) (hp : p ∈ places) (hg : PadOk p gp) (hc : cond ∈ conds) (hb : BtwOk cond btw) :
    (∀ {q c}, PlaceIs (b1 ++ p ++ gp ++ Str.ofString "if" ++ btw ++ cond ++ b3) q c → q = p ∧ c = cond) ∧ ¬ PlaceNot (b1 ++ p ++ gp ++ Str.ofString "if" ++ btw ++ cond ++ b3) := by
  have hk := placeChk_of hp hg hc hb
  obtain ⟨c1, c2, _⟩ := conds_chk cond hc
  have hy : cds (p ++ gp ++ Str.ofString "if" ++ (btw ++ cond)) = cds p ++ cds gp ++ [105, 102] ++ (cds btw ++ cds cond) := by simp only [cds_append, iff_cds]
  obtain ⟨s1, s2, s3, s4, s5, s6, s7⟩ := place_scan hk hy
  have hs : Txt.strip (b1 ++ p ++ gp ++ Str.ofString "if" ++ btw ++ cond ++ b3) = p ++ gp ++ Str.ofString "if" ++ (btw ++ cond) :=
    strip_is (a := cds b1) (b := cds b3) (by simp only [app_cds, List.append_assoc, cds]) (all_sp (blanks_chk _ h1).1) (all_sp (blanks_chk _ h3).1) s3
  have hcond : Txt.strip (Txt.slice (p ++ gp ++ Str.ofString "if" ++ (btw ++ cond)) (some ((((cds p).length + (cds gp).length : Nat) : Int) + 2)) none) = cond := by
    refine strip_is (a := cds btw) (b := []) (by rw [List.append_nil]; exact s7) ?_ rfl c2
    rcases hb with hb | ⟨rfl, _⟩
    · exact all_sp (wides_chk _ hb).1
    · rfl
  have hplace : Txt.strip (Txt.slice (p ++ gp ++ Str.ofString "if" ++ (btw ++ cond)) none (some (((cds p).length + (cds gp).length : Nat) : Int))) = p := by
    have := ((places_chk p hp).2 gp (pad_mem hg)).2.1
    unfold stopChk at this
    exact Str.ext' (Array.toList_inj.mp (by rw [strip_cds]; exact (congrArg stripL s6).trans (eq_of_beq this)))
  constructor
  · rintro q c (⟨h, _, _⟩ | ⟨i, hi, hj, hif, _, rfl, rfl⟩)
    · rw [hs] at h
      rw [h _ s1] at s5; cases s5
    · rw [hs] at hj hif ⊢
      obtain rfl := first_if hif hj s5 s4
      exact ⟨hplace, hcond⟩
  · rintro ⟨i, hi, hj, hif, he⟩
    rw [hs] at hj hif he
    obtain rfl := first_if hif hj s5 s4
    unfold condAt at he
    rw [hcond] at he
    exact c1 (by rw [eq_of_beq he]; exact nil_cds)
theorem place3 {b1 p gp b3 q c : Str} (h1 : b1 ∈ blanks) (h3 : b3 ∈ blanks) (hp : p ∈ places) (hg : PadOk p gp) : ¬ PlaceIs (b1 ++ p ++ gp ++ Str.ofString "if" ++ b3) q c := by
  have hk := ((places_chk p hp).2 gp (pad_mem hg)).1
  have hy : cds (p ++ gp ++ Str.ofString "if") = cds p ++ cds gp ++ [105, 102] ++ [] := by simp only [cds_append, iff_cds, List.append_nil]
  obtain ⟨s1, s2, s3, s4, s5, s6, s7⟩ := place_scan hk hy
  have hs : Txt.strip (b1 ++ p ++ gp ++ Str.ofString "if" ++ b3) = p ++ gp ++ Str.ofString "if" :=
    strip_is (a := cds b1) (b := cds b3) (by simp only [app_cds, List.append_assoc, cds]) (all_sp (blanks_chk _ h1).1) (all_sp (blanks_chk _ h3).1) s3
  rintro (⟨h, _, _⟩ | ⟨i, hi, hj, hif, he, _, _⟩)
  · rw [hs] at h
    rw [h _ s1] at s5; cases s5
  · rw [hs] at hj hif he
    obtain rfl := first_if hif hj s5 s4
    unfold condAt at he
    have e : Txt.strip (Txt.slice (p ++ gp ++ Str.ofString "if") (some ((((cds p).length + (cds gp).length : Nat) : Int) + 2)) none) = Str.ofString "" :=
      strip_is (a := []) (b := []) (by rw [List.append_nil, List.nil_append]; exact s7) rfl rfl rfl
    rw [e] at he
    exact absurd he (by decide)
end Mine
set_option Elab.async false
set_option maxRecDepth 100000
set_option maxHeartbeats 2000000
set_option compiler.extract_closed false
namespace Mine
local macro_rules | `(tactic| walk_at $s:str) => `(tactic| k_extra $s)
theorem fillP20 : r = r ∧ K = K := by k_fill; exact ⟨rfl, rfl⟩
theorem form_mark {y lt : Str} {cnt sz : Int} (h : FormText y cnt lt sz) (h0 : y.length ≠ 0) : MarkOk y := by
  obtain ⟨ct, hct, mk, hl, hm, rfl, _⟩ := h
  refine ⟨fun e => h0 (by rw [← cds_len, e]; rfl), fun c hc => ?_⟩
  rw [cds_append] at hc
  rcases List.mem_append.mp hc with hc | hc
  · have : ∀ ct ∈ counts, ∀ c ∈ cds ct, sp c = false := by decide +kernel
    exact this _ hct _ hc
  · have : ∀ c ∈ cds signs12, sp c = false := by decide +kernel
    exact this _ (hm.1 _ hc)
theorem form_ok {y lt : Str} {cnt sz : Int} (h : FormText y cnt lt sz) : PyData.strOk y = true := by
  obtain ⟨ct, hct, mk, hl, hm, rfl, _⟩ := h
  show Array.all _ _ = true
  rw [← Array.all_toList, List.all_eq_true]
  intro c hc
  rw [show (ct ++ mk).cps.toList = cds ct ++ cds mk from cds_append _ _] at hc
  rcases List.mem_append.mp hc with hc | hc
  · have : ∀ ct ∈ counts, ∀ c ∈ cds ct, decide (c < 0x110000) = true := by decide +kernel
    exact this _ hct _ hc
  · have : ∀ c ∈ cds signs12, decide (c < 0x110000) = true := by decide +kernel
    exact this _ (hm.1 _ hc)
theorem c_blanks2 (w : World) (rest : Led) (wa ca : Addr) (o : Obj) (hw : Well ca o) (hn : NoW wa rest) (hc : CellsIn rest ca) :
    Ctr w 193 [.ref wa] ((wa, o) :: rest) 3 16 (fun r n => ∃ b t o', r = .str b t ∧ b ∈ blanks ∧ b.length ≤ 2 ∧ Well ca o' ∧ n = (wa, o') :: rest) False :=
  (c_blanks w rest wa ca o hw hn hc).mono fun r n h => by
    obtain ⟨b, t, o', h1, h2, h3⟩ := h
    exact ⟨b, t, o', h1, h2, (blanks_chk _ h2).2, h3⟩
theorem ck_blanks2 (w : World) (rest : Led) (wa ca : Addr) (o : Obj) (hw : Well ca o) (hn : NoW wa rest) (hc : CellsIn rest ca) :
    Ctr w 193 [.ref wa] ((wa, o) :: rest) 3 16 (KOk fun Z9 => ∀ b t o', b ∈ blanks → b.length ≤ 2 → Well ca o' → Z9 (.str b t) ((wa, o') :: rest)) False :=
  (c_blanks2 w rest wa ca o hw hn hc).mono fun _ _ h Z9 hk => by
    obtain ⟨b, t, o', rfl, h1, h2, h3, rfl⟩ := h
    exact hk b t o' h1 h2 h3
theorem c_form2 (w : World) (rest : Led) (wa ca : Addr) (o : Obj) (hw : Well ca o) (hn : NoW wa rest) (hc : CellsIn rest ca) :
    Ctr w 224 [.ref wa] ((wa, o) :: rest) 3 16 (fun r n => ∃ o' ad bd y cnt lt sz t1 t2 t3 t4, FormText y cnt lt sz ∧ y.length ≤ 9 ∧ Well ca o' ∧ r = .ref ad ∧ n = (ad, tupO [.str y t1, .ref bd]) :: (bd, tupO [.int cnt t2, .str lt t3, .int sz t4]) :: (wa, o') :: rest) False :=
  (c_form w rest wa ca o hw hn hc).mono fun r n h => by
    obtain ⟨o', ad, bd, y, cnt, lt, sz, t1, t2, t3, t4, h1, h2⟩ := h
    exact ⟨o', ad, bd, y, cnt, lt, sz, t1, t2, t3, t4, h1, formLen h1, h2⟩
theorem ck_form2 (w : World) (rest : Led) (wa ca : Addr) (o : Obj) (hw : Well ca o) (hn : NoW wa rest) (hc : CellsIn rest ca) :
    Ctr w 224 [.ref wa] ((wa, o) :: rest) 3 16 (KOk fun Z9 => ∀ o' ad bd y cnt lt sz t1 t2 t3 t4, FormText y cnt lt sz → y.length ≤ 9 → Well ca o' → Z9 (.ref ad) ((ad, tupO [.str y t1, .ref bd]) :: (bd, tupO [.int cnt t2, .str lt t3, .int sz t4]) :: (wa, o') :: rest)) False :=
  (c_form2 w rest wa ca o hw hn hc).mono fun _ _ h Z9 hk => by
    obtain ⟨o', ad, bd, y, cnt, lt, sz, t1, t2, t3, t4, h1, h2, h3, rfl, rfl⟩ := h
    exact hk o' ad bd y cnt lt sz t1 t2 t3 t4 h1 h2 h3
theorem c_pickTN (w : World) (rest : Led) (wa ca : Addr) (o : Obj) (ta : Addr) (vs : List Value) (xs : List Str) (N : Nat) (hw : Well ca o) (hn : NoW wa rest) (hc : CellsIn rest ca) (ht : TupIn w rest ta vs) (hS : StrsAre vs xs) (l0 : 0 < xs.length) (l1 : xs.length ≤ 1000) (hN : ∀ y ∈ xs, y.length ≤ N) :
    Ctr w 186 [.ref wa, .ref ta] ((wa, o) :: rest) 2 12 (fun r n => ∃ y t o', r = .str y t ∧ y ∈ xs ∧ y.length ≤ N ∧ Well ca o' ∧ n = (wa, o') :: rest) False :=
  (c_pickTS w rest wa ca o ta vs xs hw hn hc ht hS l0 l1).mono fun r n h => by
    obtain ⟨b, t, o', h1, h2, h3⟩ := h
    exact ⟨b, t, o', h1, h2, hN _ h2, h3⟩
theorem ck_pickTN (w : World) (rest : Led) (wa ca : Addr) (o : Obj) (ta : Addr) (vs : List Value) (xs : List Str) (N : Nat) (hw : Well ca o) (hn : NoW wa rest) (hc : CellsIn rest ca) (ht : TupIn w rest ta vs) (hS : StrsAre vs xs) (l0 : 0 < xs.length) (l1 : xs.length ≤ 1000) (hN : ∀ y ∈ xs, y.length ≤ N) :
    Ctr w 186 [.ref wa, .ref ta] ((wa, o) :: rest) 2 12 (KOk fun Z9 => ∀ y t o', y ∈ xs → y.length ≤ N → Well ca o' → Z9 (.str y t) ((wa, o') :: rest)) False :=
  (c_pickTN w rest wa ca o ta vs xs N hw hn hc ht hS l0 l1 hN).mono fun _ _ h Z9 hk => by
    obtain ⟨y, t, o', rfl, h1, h2, h3, rfl⟩ := h
    exact hk y t o' h1 h2 h3
theorem newsPick {h₀ h : Heap} {L : Addr} {l r : Led} {q : Addr × Obj} (N : News h₀ L h l) (h1 : q ∈ l) (h2 : ∀ x ∈ r, x ∈ l) : News h₀ L h (q :: r) := fun x hx => N x (by
  rcases List.mem_cons.mp hx with rfl | hx
  · exact h1
  · exact h2 _ hx)
theorem x_mark : MarkOk (Str.ofString "x") := ⟨by decide +kernel, by decide +kernel⟩
theorem c_hcmd (w : World) (news : Led) (x : Str) (t : Tok) (hx : x.length ≤ 1000) : CtrS w 200 [.ref 87, .str x t] news 5 40 (fun r n => ∃ t', r = .str (meantOf x) t' ∧ n = news) :=
  (c_heard w 87 x t news 3 20 _ _ (c_command_of w news x t hx) (Kept.ofK rfl)).mono fun r n h => by
    rcases h with ⟨⟨y, t', rfl, e⟩, rfl⟩ | ⟨e, rfl, t', rfl⟩
    · exact ⟨t', by rw [meant_some e], rfl⟩
    · exact ⟨t', by rw [meant_none e], rfl⟩
theorem ck_hcmd (w : World) (news : Led) (x : Str) (t : Tok) (hx : x.length ≤ 1000) : CtrS w 200 [.ref 87, .str x t] news 5 40 (KOk fun Z9 => ∀ t', Z9 (.str (meantOf x) t') news) :=
  (c_hcmd w news x t hx).mono fun _ _ h Z9 hk => by
    obtain ⟨t', rfl, rfl⟩ := h
    exact hk t'
theorem c_hline (w : World) (news : Led) {b3 st stroke tl b4 mk : Str} (t : Tok) (hs : StemOk st) (h3 : b3 ∈ blanks) (h4 : b4 ∈ blanks) (ht : tl ∈ rests) (hp : LineParts stroke tl mk) (hl : (b3 ++ st ++ stroke ++ tl ++ b4).length ≤ 1000) : CtrS w 200 [.ref 108, .str (b3 ++ st ++ stroke ++ tl ++ b4) t] news 7 60
    (fun r n => (∃ (ad : Addr) (t1 t2 t3 : Tok), (meantOf st == Str.ofString "refused") = false ∧ r = .ref ad ∧ n = (ad, tupO [.str (meantOf st) t1, .str mk t2, .str tl t3]) :: news) ∨ (∃ t', (meantOf st == Str.ofString "refused") = true ∧ r = .str (Str.ofString "refused") t' ∧ n = news)) :=
  (c_heard w 108 _ t news 5 40 _ _ (c_parted w news _ t hl) (Kept.ofK rfl)).mono fun r n h => by
    obtain ⟨hs0, hs1, hs2, hs3, hs4⟩ := stem_facts hs
    obtain ⟨l1, l2⟩ := line_law hs0 hs2 hs4 h3 h4 ht hp
    rcases h with ⟨ad, c, b, e, t1, t2, t3, hP, rfl, rfl⟩ | ⟨e, rfl, t', rfl⟩
    · obtain ⟨e1, rfl, rfl⟩ := l1 hP
      exact .inl ⟨ad, t1, t2, t3, by rw [meant_some e1]; exact cmd_good e1, rfl, by rw [meant_some e1]⟩
    · exact .inr ⟨t', by rw [meant_none (l2 e)]; rfl, rfl, rfl⟩
theorem ck_hline (w : World) (news : Led) {b3 st stroke tl b4 mk : Str} (t : Tok) (hs : StemOk st) (h3 : b3 ∈ blanks) (h4 : b4 ∈ blanks) (ht : tl ∈ rests) (hp : LineParts stroke tl mk) (hl : (b3 ++ st ++ stroke ++ tl ++ b4).length ≤ 1000) : CtrS w 200 [.ref 108, .str (b3 ++ st ++ stroke ++ tl ++ b4) t] news 7 60
    (KOk fun Z9 => (∀ (ad : Addr) (t1 t2 t3 : Tok), (meantOf st == Str.ofString "refused") = false → Z9 (.ref ad) ((ad, tupO [.str (meantOf st) t1, .str mk t2, .str tl t3]) :: news)) ∧ (∀ t', (meantOf st == Str.ofString "refused") = true → Z9 (.str (Str.ofString "refused") t') news)) :=
  (c_hline w news t hs h3 h4 ht hp hl).mono fun _ _ h Z9 hk => by
    rcases h with ⟨ad, t1, t2, t3, h1, rfl, rfl⟩ | ⟨t', h1, rfl, rfl⟩
    · exact hk.1 ad t1 t2 t3 h1
    · exact hk.2 t' h1
theorem c_hodd (w : World) (news : Led) {b5 q b6 : Str} (t : Tok) (h5 : b5 ∈ blanks) (h6 : b6 ∈ blanks) (hq : q ∈ starts) (hl : (b5 ++ q ++ b6).length ≤ 1000) : CtrS w 200 [.ref 108, .str (b5 ++ q ++ b6) t] news 7 60 (fun r n => ∃ t', r = .str (Str.ofString "refused") t' ∧ n = news) :=
  (c_heard w 108 _ t news 5 40 _ _ (c_parted w news _ t hl) (Kept.ofK rfl)).mono fun r n h => by
    rcases h with ⟨ad, c, b, e, t1, t2, t3, hP, rfl, rfl⟩ | ⟨e, rfl, t', rfl⟩
    · exact (odd_law h5 h6 hq hP).elim
    · exact ⟨t', rfl, rfl⟩
theorem ck_hodd (w : World) (news : Led) {b5 q b6 : Str} (t : Tok) (h5 : b5 ∈ blanks) (h6 : b6 ∈ blanks) (hq : q ∈ starts) (hl : (b5 ++ q ++ b6).length ≤ 1000) : CtrS w 200 [.ref 108, .str (b5 ++ q ++ b6) t] news 7 60 (KOk fun Z9 => ∀ t', Z9 (.str (Str.ofString "refused") t') news) :=
  (c_hodd w news t h5 h6 hq hl).mono fun _ _ h Z9 hk => by
    obtain ⟨t', rfl, rfl⟩ := h
    exact hk t'
inductive LineQ (rest : Led) (wa ca L1 : Addr) (g1 : Heap) (s : Shared) (y z : Str) (f : Flow) (s' : Shared) : Prop
  | mk (h' : Heap) (tt : Nat) (m' : Str → Option Value) (o' : Obj) (stroke mk : Str) (ta tb ts tm : Tok) (hf : f = .next) (hs : s' = { s with heap := h', toks := tt }) (hw : Well ca o') (hp : LineParts stroke z mk) (hk : PyData.strOk mk = true)
      (e1 : m' ("stem" : Str) = some (.str y ta)) (e2 : m' ("tail_here" : Str) = some (.str z tb)) (e3 : m' ("well" : Str) = some (.ref wa)) (e4 : m' ("stroke" : Str) = some (.str stroke ts)) (e5 : m' ("marks_here" : Str) = some (.str mk tm))
      (F : Fr g1 L1 h' m') (N : News g1 L1 h' ((wa, o') :: rest)) (hl : stroke.length ≤ 15) : LineQ rest wa ca L1 g1 s y z f s'
inductive LineR (A : Around) (base g1 : Heap) (es : List Env) (rest : Led) (wa ca L1 : Addr) (s : Shared) (f : Flow) (s' : Shared) : Prop
  | mk (g h' : Heap) (tt : Nat) (m' : Str → Option Value) (o' : Obj) (hf : f = .next) (hs : s' = { s with heap := h', toks := tt }) (hw : Well ca o') (e1 : m' ("well" : Str) = some (.ref wa)) (T : KtsTurn (fsOf es) g1 g)
      (F : Fr g L1 h' m') (N : News g L1 h' ((wa, o') :: rest)) (B : Below A base es g) (D : KtsDicts (fsOf es) g) : LineR A base g1 es rest wa ca L1 s f s'
theorem LineQ.elim {rest : Led} {wa ca L1 : Addr} {g1 : Heap} {s : Shared} {y z : Str} {k : Flow → Shared → Prop} {Q9 : Flow → Shared → Prop} (hQ : Q9 = fun f s' => LineQ rest wa ca L1 g1 s y z f s')
    (h : ∀ (h' : Heap) (tt : Nat) (m' : Str → Option Value) (o' : Obj) (stroke mk : Str) (ta tb ts tm : Tok), Well ca o' → LineParts stroke z mk → PyData.strOk mk = true → stroke.length ≤ 15 →
      Fr g1 L1 h' (fun n => if n = ("stem" : Str) then some (.str y ta) else if n = ("tail_here" : Str) then some (.str z tb) else if n = ("stroke" : Str) then some (.str stroke ts) else if n = ("marks_here" : Str) then some (.str mk tm) else if n = ("well" : Str) then some (.ref wa) else m' n) →
      News g1 L1 h' ((wa, o') :: rest) → k .next { s with heap := h', toks := tt }) (f : Flow) (s' : Shared) (q : Q9 f s') : k f s' := by
  subst hQ
  obtain ⟨h5, tk5, m5, o5, stroke, mk, ta, tb, ts, tm, rfl, rfl, hw5, hlp, hok, e1, e2, e3, e4, e5, F5, N5, hsl⟩ := q
  exact h _ _ _ _ _ _ _ _ _ _ hw5 hlp hok hsl (Fr.known0 (n := ("stem" : Str)) (Fr.known0 (n := ("tail_here" : Str)) (Fr.known0 (n := ("stroke" : Str)) (Fr.known0 (n := ("marks_here" : Str)) (Fr.known0 (n := ("well" : Str)) F5 e3) e5) e4) e2) e1) N5
theorem LineR.elim {A : Around} {base g1 : Heap} {es : List Env} {rest : Led} {wa ca L1 : Addr} {s : Shared} {k : Flow → Shared → Prop} {Q9 : Flow → Shared → Prop} (hQ : Q9 = fun f s' => LineR A base g1 es rest wa ca L1 s f s')
    (h : ∀ (g h' : Heap) (tt : Nat) (m' : Str → Option Value) (o' : Obj), Well ca o' → KtsTurn (fsOf es) g1 g → Fr g L1 h' (fun n => if n = ("well" : Str) then some (.ref wa) else m' n) → News g L1 h' ((wa, o') :: rest) → Below A base es g → KtsDicts (fsOf es) g →
      k .next { s with heap := h', toks := tt }) (f : Flow) (s' : Shared) (q : Q9 f s') : k f s' := by
  subst hQ
  obtain ⟨g5, h5, tk5, m5, o5, rfl, rfl, hw5, e1, T0, F5, N5, B1, D1⟩ := q
  exact h _ _ _ _ _ hw5 T0 (Fr.known0 (n := ("well" : Str)) F5 e1) N5 B1 D1
section
set_option maxHeartbeats 8000000
theorem c_line_right (w : World) (rest : Led) (wa ca : Addr) (o : Obj) (hw : Well ca o) (hn : NoW wa rest) (hc : CellsIn rest ca) :
    CtrS w 236 [.ref wa] ((wa, o) :: rest) 8 200 (fun r n => ∃ o', r = .bool true ∧ Well ca o' ∧ n = (wa, o') :: rest) := by
  intro loose mean mg mb dp un gd cn cs a ccd cl outer A₀ base h₀ L m s Q E B F X N T D hk hd hu hret
  k_with_none
  refine wpAny_call ?_
  k_dflt (refine' enterT ?k1 ?k2 ?k3 ?k4 ?k5 ?kD ?kA ?kF ?kK ?k6 ?k7 ?k8 ?k9 ?kB ?_ ?c2 ?c3 ?c4 ?c5; (case kA => exact rfl); (case kF => exact rfl); (case kK => assumption); (case k1 => assumption); (case k2 => assumption); (case k3 => assumption); (case k4 => assumption); (case k5 => assumption); (case kD => assumption); (case k6 => k_is); (case k7 => k_is); (case k8 => ktr_room); (case k9 => exact BindsTo.of_eq rfl); (case c5 => decide); (case kB => exact locs rfl); (case c2 => exact rfl); (case c3 => exact rfl); (case c4 => exact rfl); k_whole)
  intro g1 L1 h1 F1 N1 B1 X1 T1 D1
  replace F1 : Fr g1 L1 h1 (fun y9 => List.lookup y9 [(("well" : Str), .ref wa)]) := F1
  have T0 : KtsTurn (fsOf (envX cn cs L a ccd cl :: outer)) g1 g1 := KtsTurn.refl
  clear F N D
  dsimp only
  k_unmd
  k_fold
  k_with "LeaveT" => (refine Stop.out ?_)
  k_with "exec If Compare" => ((fail_if_success (have inq9 : InCut := by assumption)); refine Stop.out ?_)
  k_with "call ref" => (k_here; k_dflt (refine' Ctr.useK (ck_stem _ _ _ _ _  ?hw ?hn ?hc ) ?B ?F ?X (Pull.news ?P ?N) ?T ?hk ?hd ?hu ?_ (fun f => f.elim); (case B => k_asm); (case F => k_asm); (case X => k_asm); (case N => k_asm); (case T => k_asm); (case hk => first | exact rfl | assumption); (case hd => ktr_room); (case hu => ktr_units); (case P => repeat (first | exact Pull.head | apply Pull.tail)); (case hw => assumption); (case hn => repeat (first | assumption | exact NoW.nil | exact NoW.off (by assumption) (.head _) | refine NoW.append ?_ ?_ | refine NoW.cons (by first | exact rfl | assumption | exact isW_strs (by assumption) rfl) ?_)); (case hc => repeat (first | assumption | refine CellsIn.left ?_ | refine CellsIn.cons ?_)); skip); intro y9 t9 o9 hy9 hw9 h9 tk9 F9 N9; (try dsimp only); (try k_sweep))
  k_with "call ref" => (k_here; k_dflt (refine' Ctr.useK (ck_pickTN _ _ _ _ _ _ _ rests 20  ?hw ?hn ?hc  ?ht ?hS ?l0 ?l1 ?hN) ?B ?F ?X (Pull.news ?P ?N) ?T ?hk ?hd ?hu ?_ (fun f => f.elim); (case B => k_asm); (case F => k_asm); (case X => k_asm); (case N => k_asm); (case T => k_asm); (case hk => first | exact rfl | assumption); (case hd => ktr_room); (case hu => ktr_units); (case P => repeat (first | exact Pull.head | apply Pull.tail)); (case hw => assumption); (case hn => repeat (first | assumption | exact NoW.nil | exact NoW.off (by assumption) (.head _) | refine NoW.append ?_ ?_ | refine NoW.cons (by first | exact rfl | assumption | exact isW_strs (by assumption) rfl) ?_)); (case hc => repeat (first | assumption | refine CellsIn.left ?_ | refine CellsIn.cons ?_)); (case ht => exact restsTup _ _); (case hS => exact strsFrom_are _ _); (case l0 => decide); (case l1 => decide); (case hN => exact fun y hy => (rests_chk y hy).2.2.1)); intro z9 t9 o9 hz9 hzl9 hw9 h9 tk9 F9 N9; (try dsimp only); (try k_sweep))
  k_steps
  refine Stop.in ?_
  (rename News g1 _ _ _ => N5); (rename Fr g1 _ _ _ => F5)
  replace N5 := newsTl N5
  obtain ⟨Q9, hQ9⟩ : ∃ Q9 : Flow → Shared → Prop, Q9 = fun f s' => LineQ rest wa ca L1 g1 s y9 z9 f s' := ⟨_, rfl⟩
  refine wpAny_mono (Q := Q9) ?one ?nx (fun _ _ e => e)
  case one =>
    have inq : InCut := ⟨⟩
    -- DEV(
    k_with "truthy str" => (k_here; (try dsimp only); refine SBL.truthy (by have := formLen (by assumption); omega) ?_)
    k_with "call ref" => (k_here; k_dflt (refine' Ctr.useK (ck_draw _ _ _ _ _ _ _  ?hw ?hn ?hc  ?kp ?kq) ?B ?F ?X (Pull.news ?P ?N) ?T ?hk ?hd ?hu ?_ (fun f => f.elim); (case B => k_asm); (case F => k_asm); (case X => k_asm); (case N => k_asm); (case T => k_asm); (case hk => first | exact rfl | assumption); (case hd => ktr_room); (case hu => ktr_units); (case P => repeat (first | exact Pull.head | apply Pull.tail)); (case hw => assumption); (case hn => repeat (first | assumption | exact NoW.nil | exact NoW.off (by assumption) (.head _) | refine NoW.append ?_ ?_ | refine NoW.cons (by first | exact rfl | assumption | exact isW_strs (by assumption) rfl) ?_)); (case hc => repeat (first | assumption | refine CellsIn.left ?_ | refine CellsIn.cons ?_)); (case kp => omega); (case kq => omega)); intro j9 t9 o9 hj1 hw9 h9 tk9 F9 N9; (try dsimp only); (try k_sweep))
    k_with "call ref" => (k_here; k_dflt (refine' Ctr.useK (ck_form2 _ _ _ _ _  ?hw ?hn ?hc ) ?B ?F ?X (Pull.news ?P ?N) ?T ?hk ?hd ?hu ?_ (fun f => f.elim); (case B => k_asm); (case F => k_asm); (case X => k_asm); (case N => k_asm); (case T => k_asm); (case hk => first | exact rfl | assumption); (case hd => ktr_room); (case hu => ktr_units); (case P => repeat (first | exact Pull.head | apply Pull.tail)); (case hw => assumption); (case hn => repeat (first | assumption | exact NoW.nil | exact NoW.off (by assumption) (.head _) | refine NoW.append ?_ ?_ | refine NoW.cons (by first | exact rfl | assumption | exact isW_strs (by assumption) rfl) ?_)); (case hc => repeat (first | assumption | refine CellsIn.left ?_ | refine CellsIn.cons ?_)); skip); intro o9 ad9 bd9 f9 cnt9 lt9 sz9 ta9 tb9 tc9 td9 hft9 hfl9 hw9 h9 tk9 F9 N9; (try dsimp only); (try k_sweep))
    k_with "call ref" => (k_here; k_dflt (refine' Ctr.useK (ck_blanks2 _ _ _ _ _  ?hw ?hn ?hc ) ?B ?F ?X (Pull.news ?P ?N) ?T ?hk ?hd ?hu ?_ (fun f => f.elim); (case B => k_asm); (case F => k_asm); (case X => k_asm); (case N => k_asm); (case T => k_asm); (case hk => first | exact rfl | assumption); (case hd => ktr_room); (case hu => ktr_units); (case P => repeat (first | exact Pull.head | apply Pull.tail)); (case hw => assumption); (case hn => repeat (first | assumption | exact NoW.nil | exact NoW.off (by assumption) (.head _) | refine NoW.append ?_ ?_ | refine NoW.cons (by first | exact rfl | assumption | exact isW_strs (by assumption) rfl) ?_)); (case hc => repeat (first | assumption | refine CellsIn.left ?_ | refine CellsIn.cons ?_)); skip); intro b9 t9 o9 hb9 hbl9 hw9 h9 tk9 F9 N9; (try dsimp only); (try k_sweep))
    k_with "call ref" => (k_here; k_dflt (refine' Ctr.useK (ck_pickTN _ _ _ _ _ _ _ seps 3  ?hw ?hn ?hc  ?ht ?hS ?l0 ?l1 ?hN) ?B ?F ?X (Pull.news ?P ?N) ?T ?hk ?hd ?hu ?_ (fun f => f.elim); (case B => k_asm); (case F => k_asm); (case X => k_asm); (case N => k_asm); (case T => k_asm); (case hk => first | exact rfl | assumption); (case hd => ktr_room); (case hu => ktr_units); (case P => repeat (first | exact Pull.head | apply Pull.tail)); (case hw => assumption); (case hn => repeat (first | assumption | exact NoW.nil | exact NoW.off (by assumption) (.head _) | refine NoW.append ?_ ?_ | refine NoW.cons (by first | exact rfl | assumption | exact isW_strs (by assumption) rfl) ?_)); (case hc => repeat (first | assumption | refine CellsIn.left ?_ | refine CellsIn.cons ?_)); (case ht => exact .inl (by k_mem)); (case hS => repeat (first| exact .nil| refine .cons _ _ ?_)); (case l0 => decide); (case l1 => decide); (case hN => exact fun y hy => (seps_chk y hy).2.1)); intro d9 t9 o9 hd9 hdl9 hw9 h9 tk9 F9 N9; (try dsimp only); (try k_sweep))
    k_with "call ref" => (k_here; k_dflt (refine' Ctr.useK (ck_pickTN _ _ _ _ _ _ _ gaps 3  ?hw ?hn ?hc  ?ht ?hS ?l0 ?l1 ?hN) ?B ?F ?X (Pull.news ?P ?N) ?T ?hk ?hd ?hu ?_ (fun f => f.elim); (case B => k_asm); (case F => k_asm); (case X => k_asm); (case N => k_asm); (case T => k_asm); (case hk => first | exact rfl | assumption); (case hd => ktr_room); (case hu => ktr_units); (case P => repeat (first | exact Pull.head | apply Pull.tail)); (case hw => assumption); (case hn => repeat (first | assumption | exact NoW.nil | exact NoW.off (by assumption) (.head _) | refine NoW.append ?_ ?_ | refine NoW.cons (by first | exact rfl | assumption | exact isW_strs (by assumption) rfl) ?_)); (case hc => repeat (first | assumption | refine CellsIn.left ?_ | refine CellsIn.cons ?_)); (case ht => exact .inl (by k_mem)); (case hS => repeat (first| exact .nil| refine .cons _ _ ?_)); (case l0 => decide); (case l1 => decide); (case hN => exact fun y hy => (gaps_chk y hy).2.1)); intro e9 t9 o9 he9 hel9 hw9 h9 tk9 F9 N9; (try dsimp only); (try k_sweep))
    k_steps
    · (rename ((_ : Nat) : Int) ≠ 0 => h0)
      have e1 : (Str.ofString "/").length = 1 := by decide
      (rename News g1 _ _ _ => NN); (rename Fr g1 _ _ _ => FF)
      rw [hQ9]
      exact .mk _ _ _ _ _ f9 _ _ _ _ rfl rfl (by assumption) (.inr ⟨_, hb9, _, hd9, rfl, form_mark hft9 (by omega)⟩) (form_ok hft9) (by exact rfl) (by exact rfl) (by exact rfl) (by exact rfl) (by exact rfl) FF (newsPick NN (by repeat (first | exact List.Mem.head _ | apply List.Mem.tail)) (fun x hx => by repeat (first | exact hx | apply List.Mem.tail))) (by omega)
    · (rename ((_ : Nat) : Int) = 0 => h0)
      have e1 : (Str.ofString "/").length = 1 := by decide
      have e2 : (Str.ofString "x").length = 1 := by decide
      (rename News g1 _ _ _ => NN); (rename Fr g1 _ _ _ => FF)
      rw [hQ9]
      exact .mk _ _ _ _ _ (Str.ofString "x") _ _ _ _ rfl rfl (by assumption) (.inr ⟨_, hb9, _, hd9, rfl, x_mark⟩) (by decide +kernel) (by exact rfl) (by exact rfl) (by exact rfl) (by exact rfl) (by exact rfl) FF (newsPick NN (by repeat (first | exact List.Mem.head _ | apply List.Mem.tail)) (fun x hx => by repeat (first | exact hx | apply List.Mem.tail))) (by omega)
    · (rename (_ != _) = true => h0)
      (rename News g1 _ _ _ => NN); (rename Fr g1 _ _ _ => FF)
      rw [hQ9]
      exact .mk _ _ _ _ _ _ _ _ _ _ rfl rfl (by assumption) (.inl ⟨rfl, .inl ⟨fun e => absurd (str_of_cds (e.trans nil_cds.symm)) (by simpa using h0), he9⟩⟩) (by decide +kernel) (by exact rfl) (by exact rfl) (by exact rfl) (by exact rfl) (by exact rfl) FF (newsPick NN (by repeat (first | exact List.Mem.head _ | apply List.Mem.tail)) (fun x hx => by repeat (first | exact hx | apply List.Mem.tail))) (by omega)
    · (rename (_ != _) = false => h0)
      (rename News g1 _ _ _ => NN); (rename Fr g1 _ _ _ => FF)
      rw [hQ9]
      exact .mk _ _ _ _ _ _ _ _ _ _ rfl rfl (by assumption) (.inl ⟨rfl, .inr ⟨by simpa using h0, hb9⟩⟩) (by decide +kernel) (by exact rfl) (by exact rfl) (by exact rfl) (by exact rfl) (by exact rfl) FF (newsPick NN (by repeat (first | exact List.Mem.head _ | apply List.Mem.tail)) (fun x hx => by repeat (first | exact hx | apply List.Mem.tail))) (by omega)
    -- DEV)
  case nx =>
    (rename News g1 _ _ _ => No); (rename Fr g1 _ _ _ => Fo); clear No Fo
    repeat (rename News g1 _ _ _ => N2; clear N2)
    repeat (rename Fr g1 _ _ _ => F2; clear F2)
    refine LineQ.elim hQ9 ?_
    clear hQ9 Q9
    intro h5 tk5 m5 o5 stroke mk ta tb ts tm hw5 hlp hok hsl F5 N5
    have hs1 := (stem_facts hy9).2.1
    have hs3 := (stem_facts hy9).2.2.2.1
    k_with "call ref" => (k_here; k_dflt (refine' Ctr.useK (ck_blanks2 _ _ _ _ _  ?hw ?hn ?hc ) ?B ?F ?X (Pull.news ?P ?N) ?T ?hk ?hd ?hu ?_ (fun f => f.elim); (case B => k_asm); (case F => k_asm); (case X => k_asm); (case N => k_asm); (case T => k_asm); (case hk => first | exact rfl | assumption); (case hd => ktr_room); (case hu => ktr_units); (case P => repeat (first | exact Pull.head | apply Pull.tail)); (case hw => assumption); (case hn => repeat (first | assumption | exact NoW.nil | exact NoW.off (by assumption) (.head _) | refine NoW.append ?_ ?_ | refine NoW.cons (by first | exact rfl | assumption | exact isW_strs (by assumption) rfl) ?_)); (case hc => repeat (first | assumption | refine CellsIn.left ?_ | refine CellsIn.cons ?_)); skip); intro b9 t9 o9 hb9 hbl9 hw9 h9 tk9 F9 N9; (try dsimp only); (try k_sweep))
    k_with "call ref" => (k_here; k_dflt (refine' Ctr.useK (ck_meant _ _ _ _ (Nat.le_trans hs1 (by decide)) hs3) ?B ?F ?X ?N ?T ?hk ?hd ?hu ?_ (fun f => f.elim); (case B => k_asm); (case F => k_asm); (case X => k_asm); (case N => k_asm); (case T => k_asm); (case hk => first | exact rfl | assumption); (case hd => ktr_room); (case hu => ktr_units)); intro tz9 h9 tk9 F9 N9; try dsimp only)
    k_with "exec If BoolOp" => ((fail_if_success (have inq9 : InCut := by assumption)); refine Stop.out ?_)
    k_steps
    refine Stop.in ?_
    obtain ⟨Q9, hQ9⟩ : ∃ Q9 : Flow → Shared → Prop, Q9 = fun f s' => LineR (ktrTop dp un gd cn cs L a ccd cl outer) base g1 (envX cn cs L a ccd cl :: outer) rest wa ca L1 s f s' := ⟨_, rfl⟩
    refine wpAny_mono (Q := Q9) ?one2 ?nx2 (fun _ _ e => e)
    case one2 =>
      have inq : InCut := ⟨⟩
      k_with "call ref" => (k_here; k_dflt (refine' CtrS.useK (ck_hcmd _ _ _ _ (by omega)) ?B ?F ?X ?N ?T ?D ?hk ?hd ?hu ?_; (case B => k_asm); (case F => k_asm); (case X => assumption); (case N => k_asm); (case T => assumption); (case D => assumption); (case hk => first | exact rfl | assumption); (case hd => ktr_room); (case hu => ktr_units)); intro tz9 g9 h9 tk9 T9 F9 N9 B9 D9; clear B1 X1 T1 D1; have X1 := Frag.In.keeps X B9.stays; have T1 := Top.keeps T B9.stays; have B1 := B9; have D1 := D9; clear B9 D9; replace T0 := KtsTurn.trans T0 T9; clear T9; (try dsimp only))
      k_with "call ref" => (k_here; k_dflt (refine' CtrS.useK (ck_hline _ _ _ hy9 (by assumption) (by assumption) hz9 hlp (by omega)) ?B ?F ?X ?N ?T ?D ?hk ?hd ?hu ?_; (case B => k_asm); (case F => k_asm); (case X => assumption); (case N => k_asm); (case T => assumption); (case D => assumption); (case hk => first | exact rfl | assumption); (case hd => ktr_room); (case hu => ktr_units)); refine ⟨?_, ?_⟩; (intro ad8 t1 t2 t3 hme g9 h9 tk9 T9 F9 N9 B9 D9; clear B1 X1 T1 D1; have X1 := Frag.In.keeps X B9.stays; have T1 := Top.keeps T B9.stays; have B1 := B9; have D1 := D9; clear B9 D9; replace T0 := KtsTurn.trans T0 T9; clear T9; (try dsimp only)); rotate_left; (intro t1 hme g9 h9 tk9 T9 F9 N9 B9 D9; clear B1 X1 T1 D1; have X1 := Frag.In.keeps X B9.stays; have T1 := Top.keeps T B9.stays; have B1 := B9; have D1 := D9; clear B9 D9; replace T0 := KtsTurn.trans T0 T9; clear T9; (try dsimp only)); rotate_left)
      k_steps
      · (rename (_ != _) = true => hx)
        simp at hx
      · have hok1 := meant_ok y9
        have hok2 := rests_ok _ hz9
        refine ne_dataH (by ke_read) (by ke_read) (by simp [SeqAt.shaped, PyData.canLay0, PyData.canLayAll0, PyData.depth, PyData.depthAll, hok, hok1, hok2]) (by simp [SeqAt.shaped, PyData.canLay0, PyData.canLayAll0, PyData.depth, PyData.depthAll, hok, hok1, hok2]) (by ke_room) ?_
        ke_norm
        k_steps
        (rename News _ _ _ _ => NN); (rename Fr _ _ _ _ => FF)
        rw [hQ9]
        exact .mk _ _ _ _ _ rfl rfl (by assumption) (by exact rfl) T0 FF (newsPick NN (by repeat (first | exact List.Mem.head _ | apply List.Mem.tail)) (fun x hx => by repeat (first | exact hx | apply List.Mem.tail))) B1 D1
      · (rename News _ _ _ _ => NN); (rename Fr _ _ _ _ => FF)
        rw [hQ9]
        exact .mk _ _ _ _ _ rfl rfl (by assumption) (by exact rfl) T0 FF NN B1 D1
    case nx2 =>
      (rename News g1 _ _ _ => No); (rename Fr g1 _ _ _ => Fo); clear No Fo
      repeat (rename News g1 _ _ _ => N2; clear N2)
      repeat (rename Fr g1 _ _ _ => F2; clear F2)
      clear B1 X1 T1 D1 T0
      refine LineR.elim hQ9 ?_
      clear hQ9 Q9
      intro g5 h5 tk5 m5 o5 hw5 T0 F5 N5 B1 D1
      have X1 := Frag.In.keeps X B1.stays
      have T1 := Top.keeps T B1.stays
      k_with "call ref" => (k_here; k_dflt (refine' Ctr.useK (ck_pickTN _ _ _ _ _ _ _ starts 3  ?hw ?hn ?hc  ?ht ?hS ?l0 ?l1 ?hN) ?B ?F ?X (Pull.news ?P ?N) ?T ?hk ?hd ?hu ?_ (fun f => f.elim); (case B => k_asm); (case F => k_asm); (case X => k_asm); (case N => k_asm); (case T => k_asm); (case hk => first | exact rfl | assumption); (case hd => ktr_room); (case hu => ktr_units); (case P => repeat (first | exact Pull.head | apply Pull.tail)); (case hw => assumption); (case hn => repeat (first | assumption | exact NoW.nil | exact NoW.off (by assumption) (.head _) | refine NoW.append ?_ ?_ | refine NoW.cons (by first | exact rfl | assumption | exact isW_strs (by assumption) rfl) ?_)); (case hc => repeat (first | assumption | refine CellsIn.left ?_ | refine CellsIn.cons ?_)); (case ht => exact .inl (by k_mem)); (case hS => repeat (first| exact .nil| refine .cons _ _ ?_)); (case l0 => decide); (case l1 => decide); (case hN => exact fun y hy => (starts_chk y hy).2.1)); intro q9 t9 o9 hq9 hql9 hw9 h9 tk9 F9 N9; (try dsimp only); (try k_sweep))
      k_with "call ref" => (k_here; k_dflt (refine' CtrS.useK (ck_hodd _ _ _ (by assumption) (by assumption) hq9 (by omega)) ?B ?F ?X ?N ?T ?D ?hk ?hd ?hu ?_; (case B => k_asm); (case F => k_asm); (case X => assumption); (case N => k_asm); (case T => assumption); (case D => assumption); (case hk => first | exact rfl | assumption); (case hd => ktr_room); (case hu => ktr_units)); intro tz9 g9 h9 tk9 T9 F9 N9 B9 D9; clear B1 X1 T1 D1; have X1 := Frag.In.keeps X B9.stays; have T1 := Top.keeps T B9.stays; have B1 := B9; have D1 := D9; clear B9 D9; replace T0 := KtsTurn.trans T0 T9; clear T9; (try dsimp only))
      k_steps
      refine Stop.in ?_
      (rename News _ _ _ _ => NN); (rename Fr _ _ _ _ => FF)
      exact ⟨_, L1, _, (wa, o9) :: rest, T0, FF, (newsPick NN (by repeat (first | exact List.Mem.head _ | apply List.Mem.tail)) (fun x hx => by repeat (first | exact hx | apply List.Mem.tail))), fun h0' a b c d e => hret _ _ _ _ _ ⟨_, congrArg Value.bool (beq_self_eq_true _), hw9, rfl⟩ a b c d e⟩
end

end Mine
set_option Elab.async false
set_option maxRecDepth 100000
set_option maxHeartbeats 2000000
set_option compiler.extract_closed false
namespace Mine
local macro_rules | `(tactic| walk_at $s:str) => `(tactic| k_extra $s)
theorem fillP21 : r = r ∧ K = K := by k_fill; exact ⟨rfl, rfl⟩
theorem placesTup (w : World) (rest : Led) : TupIn w rest 171 (strsFrom 419 places) := .inr rfl
theorem condsTup (w : World) (rest : Led) : TupIn w rest 172 (strsFrom 430 conds) := .inr rfl
theorem places_ok : ∀ p ∈ places, PyData.strOk p = true := by decide +kernel
theorem conds_ok : ∀ p ∈ conds, PyData.strOk p = true := by decide +kernel
theorem conds_pos : ∀ p ∈ conds, 0 < p.length := by decide +kernel
theorem c_pl1 (w : World) (news : Led) {b1 p b2 : Str} (t : Tok) (h1 : b1 ∈ blanks) (h2 : b2 ∈ blanks) (hp : p ∈ places) (hl : (b1 ++ p ++ b2).length ≤ 1000) : Ctr w 129 [.str (b1 ++ p ++ b2) t] news 3 20
    (fun r n => ∃ (ad : Addr) (t1 t2 : Tok), r = .ref ad ∧ n = (ad, tupO [.str p t1, .str (Str.ofString "") t2]) :: news) False :=
  (c_place w news _ t hl).mono2 (fun r n h => by
    obtain ⟨ad, q, c, t1, t2, hP, rfl, rfl⟩ := h
    obtain ⟨rfl, rfl⟩ := (place1 h1 h2 hp).1 hP
    exact ⟨ad, t1, t2, rfl, rfl⟩) (place1 h1 h2 hp).2
theorem ck_pl1 (w : World) (news : Led) {b1 p b2 : Str} (t : Tok) (h1 : b1 ∈ blanks) (h2 : b2 ∈ blanks) (hp : p ∈ places) (hl : (b1 ++ p ++ b2).length ≤ 1000) : Ctr w 129 [.str (b1 ++ p ++ b2) t] news 3 20
    (KOk fun Z9 => ∀ (ad : Addr) (t1 t2 : Tok), Z9 (.ref ad) ((ad, tupO [.str p t1, .str (Str.ofString "") t2]) :: news)) False :=
  (c_pl1 w news t h1 h2 hp hl).mono fun _ _ h Z9 hk => by
    obtain ⟨ad, t1, t2, rfl, rfl⟩ := h
    exact hk ad t1 t2
theorem c_pl2 (w : World) (news : Led) {b1 p gp btw cond b3 : Str} (t : Tok) (h1 : b1 ∈ blanks) (h3 : b3 ∈ blanks) (hp : p ∈ places) (hg : PadOk p gp) (hc : cond ∈ conds) (hb : BtwOk cond btw) (hl : (b1 ++ p ++ gp ++ Str.ofString "if" ++ btw ++ cond ++ b3).length ≤ 1000) :
    Ctr w 129 [.str (b1 ++ p ++ gp ++ Str.ofString "if" ++ btw ++ cond ++ b3) t] news 3 20
    (fun r n => ∃ (ad : Addr) (t1 t2 : Tok), r = .ref ad ∧ n = (ad, tupO [.str p t1, .str cond t2]) :: news) False :=
  (c_place w news _ t hl).mono2 (fun r n h => by
    obtain ⟨ad, q, c, t1, t2, hP, rfl, rfl⟩ := h
    obtain ⟨rfl, rfl⟩ := (place2 h1 h3 hp hg hc hb).1 hP
    exact ⟨ad, t1, t2, rfl, rfl⟩) (place2 h1 h3 hp hg hc hb).2
theorem ck_pl2 (w : World) (news : Led) {b1 p gp btw cond b3 : Str} (t : Tok) (h1 : b1 ∈ blanks) (h3 : b3 ∈ blanks) (hp : p ∈ places) (hg : PadOk p gp) (hc : cond ∈ conds) (hb : BtwOk cond btw) (hl : (b1 ++ p ++ gp ++ Str.ofString "if" ++ btw ++ cond ++ b3).length ≤ 1000) :
    Ctr w 129 [.str (b1 ++ p ++ gp ++ Str.ofString "if" ++ btw ++ cond ++ b3) t] news 3 20
    (KOk fun Z9 => ∀ (ad : Addr) (t1 t2 : Tok), Z9 (.ref ad) ((ad, tupO [.str p t1, .str cond t2]) :: news)) False :=
  (c_pl2 w news t h1 h3 hp hg hc hb hl).mono fun _ _ h Z9 hk => by
    obtain ⟨ad, t1, t2, rfl, rfl⟩ := h
    exact hk ad t1 t2
theorem c_hpl (w : World) (news : Led) {b1 p gp b3 : Str} (t : Tok) (h1 : b1 ∈ blanks) (h3 : b3 ∈ blanks) (hp : p ∈ places) (hg : PadOk p gp) (hl : (b1 ++ p ++ gp ++ Str.ofString "if" ++ b3).length ≤ 1000) :
    CtrS w 200 [.ref 129, .str (b1 ++ p ++ gp ++ Str.ofString "if" ++ b3) t] news 5 40 (fun r n => ∃ t', r = .str (Str.ofString "refused") t' ∧ n = news) :=
  (c_heard w 129 _ t news 3 20 _ _ (c_place w news _ t hl) (Kept.ofK rfl)).mono fun r n h => by
    rcases h with ⟨ad, q, c, t1, t2, hP, rfl, rfl⟩ | ⟨e, rfl, t', rfl⟩
    · exact (place3 h1 h3 hp hg hP).elim
    · exact ⟨t', rfl, rfl⟩
theorem ck_hpl (w : World) (news : Led) {b1 p gp b3 : Str} (t : Tok) (h1 : b1 ∈ blanks) (h3 : b3 ∈ blanks) (hp : p ∈ places) (hg : PadOk p gp) (hl : (b1 ++ p ++ gp ++ Str.ofString "if" ++ b3).length ≤ 1000) :
    CtrS w 200 [.ref 129, .str (b1 ++ p ++ gp ++ Str.ofString "if" ++ b3) t] news 5 40 (KOk fun Z9 => ∀ t', Z9 (.str (Str.ofString "refused") t') news) :=
  (c_hpl w news t h1 h3 hp hg hl).mono fun _ _ h Z9 hk => by
    obtain ⟨t', rfl, rfl⟩ := h
    exact hk t'
inductive PlaceQ (rest : Led) (wa ca L1 : Addr) (g1 : Heap) (s : Shared) (p q : Str) (f : Flow) (s' : Shared) : Prop
  | mk (h' : Heap) (tt : Nat) (m' : Str → Option Value) (o' : Obj) (b1 btw : Str) (ta tb tc td : Tok) (hf : f = .next) (hs : s' = { s with heap := h', toks := tt }) (hw : Well ca o') (hb : BtwOk q btw) (hl : btw.length ≤ 3)
      (e1 : m' ("ahead" : Str) = some (.str (b1 ++ p) ta)) (e2 : m' ("place" : Str) = some (.str p tb)) (e3 : m' ("condition" : Str) = some (.str q tc)) (e4 : m' ("between" : Str) = some (.str btw td)) (e5 : m' ("well" : Str) = some (.ref wa))
      (F : Fr g1 L1 h' m') (N : News g1 L1 h' ((wa, o') :: rest)) (h1 : b1 ∈ blanks) (h2 : b1.length ≤ 2) : PlaceQ rest wa ca L1 g1 s p q f s'
theorem PlaceQ.elim {rest : Led} {wa ca L1 : Addr} {g1 : Heap} {s : Shared} {p q : Str} {k : Flow → Shared → Prop} {Q9 : Flow → Shared → Prop} (hQ : Q9 = fun f s' => PlaceQ rest wa ca L1 g1 s p q f s')
    (h : ∀ (h' : Heap) (tt : Nat) (m' : Str → Option Value) (o' : Obj) (b1 btw : Str) (ta tb tc td : Tok), Well ca o' → BtwOk q btw → btw.length ≤ 3 →
      Fr g1 L1 h' (fun n => if n = ("ahead" : Str) then some (.str (b1 ++ p) ta) else if n = ("place" : Str) then some (.str p tb) else if n = ("condition" : Str) then some (.str q tc) else if n = ("between" : Str) then some (.str btw td) else if n = ("well" : Str) then some (.ref wa) else m' n) →
      News g1 L1 h' ((wa, o') :: rest) → b1 ∈ blanks → b1.length ≤ 2 → k .next { s with heap := h', toks := tt }) (f : Flow) (s' : Shared) (q9 : Q9 f s') : k f s' := by
  subst hQ
  obtain ⟨h5, tk5, m5, o5, b1, btw, ta, tb, tc, td, rfl, rfl, hw5, hbt, hbtl, e1, e2, e3, e4, e5, F5, N5, hb1, hbl1⟩ := q9
  exact h _ _ _ _ _ _ _ _ _ _ hw5 hbt hbtl (Fr.known0 (n := ("ahead" : Str)) (Fr.known0 (n := ("place" : Str)) (Fr.known0 (n := ("condition" : Str)) (Fr.known0 (n := ("between" : Str)) (Fr.known0 (n := ("well" : Str)) F5 e5) e4) e3) e2) e1) N5 hb1 hbl1
inductive PlaceR (rest : Led) (wa ca L1 : Addr) (g1 : Heap) (s : Shared) (p q b1 btw : Str) (f : Flow) (s' : Shared) : Prop
  | mk (h' : Heap) (tt : Nat) (m' : Str → Option Value) (o' : Obj) (gp : Str) (ta tb tc td : Tok) (hf : f = .next) (hs : s' = { s with heap := h', toks := tt }) (hw : Well ca o') (hp : PadOk p gp) (hl : gp.length ≤ 3)
      (e1 : m' ("place" : Str) = some (.str p tb)) (e2 : m' ("condition" : Str) = some (.str q tc)) (e3 : m' ("between" : Str) = some (.str btw td)) (e4 : m' ("stop" : Str) = some (.str (b1 ++ p ++ gp ++ Str.ofString "if") ta)) (e5 : m' ("well" : Str) = some (.ref wa))
      (F : Fr g1 L1 h' m') (N : News g1 L1 h' ((wa, o') :: rest)) : PlaceR rest wa ca L1 g1 s p q b1 btw f s'
theorem PlaceR.elim {rest : Led} {wa ca L1 : Addr} {g1 : Heap} {s : Shared} {p q b1 btw : Str} {k : Flow → Shared → Prop} {Q9 : Flow → Shared → Prop} (hQ : Q9 = fun f s' => PlaceR rest wa ca L1 g1 s p q b1 btw f s')
    (h : ∀ (h' : Heap) (tt : Nat) (m' : Str → Option Value) (o' : Obj) (gp : Str) (ta tb tc td : Tok), Well ca o' → PadOk p gp → gp.length ≤ 3 →
      Fr g1 L1 h' (fun n => if n = ("place" : Str) then some (.str p tb) else if n = ("condition" : Str) then some (.str q tc) else if n = ("between" : Str) then some (.str btw td) else if n = ("stop" : Str) then some (.str (b1 ++ p ++ gp ++ Str.ofString "if") ta) else if n = ("well" : Str) then some (.ref wa) else m' n) →
      News g1 L1 h' ((wa, o') :: rest) → k .next { s with heap := h', toks := tt }) (f : Flow) (s' : Shared) (q9 : Q9 f s') : k f s' := by
  subst hQ
  obtain ⟨h5, tk5, m5, o5, gp, ta, tb, tc, td, rfl, rfl, hw5, hpd, hpdl, e1, e2, e3, e4, e5, F5, N5⟩ := q9
  exact h _ _ _ _ _ _ _ _ _ hw5 hpd hpdl (Fr.known0 (n := ("place" : Str)) (Fr.known0 (n := ("condition" : Str)) (Fr.known0 (n := ("between" : Str)) (Fr.known0 (n := ("stop" : Str)) (Fr.known0 (n := ("well" : Str)) F5 e5) e4) e3) e2) e1) N5
section
set_option maxHeartbeats 8000000
theorem c_place_right (w : World) (rest : Led) (wa ca : Addr) (o : Obj) (hw : Well ca o) (hn : NoW wa rest) (hc : CellsIn rest ca) :
    CtrS w 243 [.ref wa] ((wa, o) :: rest) 8 200 (fun r n => ∃ o', r = .bool true ∧ Well ca o' ∧ n = (wa, o') :: rest) := by
  intro loose mean mg mb dp un gd cn cs a ccd cl outer A₀ base h₀ L m s Q E B F X N T D hk hd hu hret
  k_with_none
  refine wpAny_call ?_
  k_dflt (refine' enterT ?k1 ?k2 ?k3 ?k4 ?k5 ?kD ?kA ?kF ?kK ?k6 ?k7 ?k8 ?k9 ?kB ?_ ?c2 ?c3 ?c4 ?c5; (case kA => exact rfl); (case kF => exact rfl); (case kK => assumption); (case k1 => assumption); (case k2 => assumption); (case k3 => assumption); (case k4 => assumption); (case k5 => assumption); (case kD => assumption); (case k6 => k_is); (case k7 => k_is); (case k8 => ktr_room); (case k9 => exact BindsTo.of_eq rfl); (case c5 => decide); (case kB => exact locs rfl); (case c2 => exact rfl); (case c3 => exact rfl); (case c4 => exact rfl); k_whole)
  intro g1 L1 h1 F1 N1 B1 X1 T1 D1
  replace F1 : Fr g1 L1 h1 (fun y9 => List.lookup y9 [(("well" : Str), .ref wa)]) := F1
  have T0 : KtsTurn (fsOf (envX cn cs L a ccd cl :: outer)) g1 g1 := KtsTurn.refl
  clear F N D
  dsimp only
  k_unmd
  k_fold
  k_with "LeaveT" => (refine Stop.out ?_)
  k_with "exec Assign cons IfExp" => ((fail_if_success (have inq9 : InCut := by assumption)); refine Stop.out ?_)
  k_with "call ref" => (k_here; k_dflt (refine' Ctr.useK (ck_pickTN _ _ _ _ _ _ _ places 20  ?hw ?hn ?hc  ?ht ?hS ?l0 ?l1 ?hN) ?B ?F ?X (Pull.news ?P ?N) ?T ?hk ?hd ?hu ?_ (fun f => f.elim); (case B => k_asm); (case F => k_asm); (case X => k_asm); (case N => k_asm); (case T => k_asm); (case hk => first | exact rfl | assumption); (case hd => ktr_room); (case hu => ktr_units); (case P => repeat (first | exact Pull.head | apply Pull.tail)); (case hw => assumption); (case hn => repeat (first | assumption | exact NoW.nil | exact NoW.off (by assumption) (.head _) | refine NoW.append ?_ ?_ | refine NoW.cons (by first | exact rfl | assumption | exact isW_strs (by assumption) rfl) ?_)); (case hc => repeat (first | assumption | refine CellsIn.left ?_ | refine CellsIn.cons ?_)); (case ht => exact placesTup _ _); (case hS => exact strsFrom_are _ _); (case l0 => decide); (case l1 => decide); (case hN => exact fun y hy => (places_chk y hy).1.2.2.1)); intro p9 t9 o9 hp9 hpl9 hw9 h9 tk9 F9 N9; (try dsimp only); (try k_sweep))
  k_with "call ref" => (k_here; k_dflt (refine' Ctr.useK (ck_pickTN _ _ _ _ _ _ _ conds 20  ?hw ?hn ?hc  ?ht ?hS ?l0 ?l1 ?hN) ?B ?F ?X (Pull.news ?P ?N) ?T ?hk ?hd ?hu ?_ (fun f => f.elim); (case B => k_asm); (case F => k_asm); (case X => k_asm); (case N => k_asm); (case T => k_asm); (case hk => first | exact rfl | assumption); (case hd => ktr_room); (case hu => ktr_units); (case P => repeat (first | exact Pull.head | apply Pull.tail)); (case hw => assumption); (case hn => repeat (first | assumption | exact NoW.nil | exact NoW.off (by assumption) (.head _) | refine NoW.append ?_ ?_ | refine NoW.cons (by first | exact rfl | assumption | exact isW_strs (by assumption) rfl) ?_)); (case hc => repeat (first | assumption | refine CellsIn.left ?_ | refine CellsIn.cons ?_)); (case ht => exact condsTup _ _); (case hS => exact strsFrom_are _ _); (case l0 => decide); (case l1 => decide); (case hN => exact fun y hy => (conds_chk y hy).2.2.1)); intro q9 t9 o9 hq9 hql9 hw9 h9 tk9 F9 N9; (try dsimp only); (try k_sweep))
  k_with "call ref" => (k_here; k_dflt (refine' Ctr.useK (ck_blanks2 _ _ _ _ _  ?hw ?hn ?hc ) ?B ?F ?X (Pull.news ?P ?N) ?T ?hk ?hd ?hu ?_ (fun f => f.elim); (case B => k_asm); (case F => k_asm); (case X => k_asm); (case N => k_asm); (case T => k_asm); (case hk => first | exact rfl | assumption); (case hd => ktr_room); (case hu => ktr_units); (case P => repeat (first | exact Pull.head | apply Pull.tail)); (case hw => assumption); (case hn => repeat (first | assumption | exact NoW.nil | exact NoW.off (by assumption) (.head _) | refine NoW.append ?_ ?_ | refine NoW.cons (by first | exact rfl | assumption | exact isW_strs (by assumption) rfl) ?_)); (case hc => repeat (first | assumption | refine CellsIn.left ?_ | refine CellsIn.cons ?_)); skip); intro b9 t9 o9 hb9 hbl9 hw9 h9 tk9 F9 N9; (try dsimp only); (try k_sweep))
  k_with "call ref" => (k_here; k_dflt (refine' Ctr.useK (ck_pl1 _ _ _ (by assumption) (by assumption) hp9 (by omega)) ?B ?F ?X ?N ?T ?hk ?hd ?hu ?_ (fun f => f.elim); (case B => k_asm); (case F => k_asm); (case X => k_asm); (case N => k_asm); (case T => k_asm); (case hk => first | exact rfl | assumption); (case hd => ktr_room); (case hu => ktr_units)); intro ad8 t1 t2 h9 tk9 F9 N9; try dsimp only)
  have hok0 : PyData.strOk (Str.ofString "") = true := by decide +kernel
  k_with "compareOp NotEq ref ref" => ((have hok1 := places_ok _ hp9); (have hok2 := conds_ok _ hq9); refine ne_dataH (by ke_read) (by ke_read) (by simp [SeqAt.shaped, PyData.canLay0, PyData.canLayAll0, PyData.depth, PyData.depthAll, hok0, hok1, hok2]) (by simp [SeqAt.shaped, PyData.canLay0, PyData.canLayAll0, PyData.depth, PyData.depthAll, hok0, hok1, hok2]) (by ke_room) ?_; ke_norm)
  k_steps
  refine Stop.in ?_
  have hcp := conds_pos _ hq9
  
  (rename News g1 _ _ _ => N5)
  replace N5 : News g1 L1 _ ((wa, o9) :: rest) := (have NN := N5; (newsPick NN (by repeat (first | exact List.Mem.head _ | apply List.Mem.tail)) (fun x hx => by repeat (first | exact hx | apply List.Mem.tail))))
  obtain ⟨Q9, hQ9⟩ : ∃ Q9 : Flow → Shared → Prop, Q9 = fun f s' => PlaceQ rest wa ca L1 g1 s p9 q9 f s' := ⟨_, rfl⟩
  refine wpAny_mono (Q := Q9) ?one ?nx (fun _ _ e => e)
  case one =>
    have inq : InCut := ⟨⟩
    k_with "call ref" => (k_here; k_dflt (refine' Ctr.useK (ck_draw _ _ _ _ _ _ _  ?hw ?hn ?hc  ?kp ?kq) ?B ?F ?X (Pull.news ?P ?N) ?T ?hk ?hd ?hu ?_ (fun f => f.elim); (case B => k_asm); (case F => k_asm); (case X => k_asm); (case N => k_asm); (case T => k_asm); (case hk => first | exact rfl | assumption); (case hd => ktr_room); (case hu => ktr_units); (case P => repeat (first | exact Pull.head | apply Pull.tail)); (case hw => assumption); (case hn => repeat (first | assumption | exact NoW.nil | exact NoW.off (by assumption) (.head _) | refine NoW.append ?_ ?_ | refine NoW.cons (by first | exact rfl | assumption | exact isW_strs (by assumption) rfl) ?_)); (case hc => repeat (first | assumption | refine CellsIn.left ?_ | refine CellsIn.cons ?_)); (case kp => omega); (case kq => omega)); intro j9 t9 o9 hj1 hw9 h9 tk9 F9 N9; (try dsimp only); (try k_sweep))
    k_with "call ref" => (k_here; k_dflt (refine' Ctr.useK (ck_pickTN _ _ _ _ _ _ _ wides 3  ?hw ?hn ?hc  ?ht ?hS ?l0 ?l1 ?hN) ?B ?F ?X (Pull.news ?P ?N) ?T ?hk ?hd ?hu ?_ (fun f => f.elim); (case B => k_asm); (case F => k_asm); (case X => k_asm); (case N => k_asm); (case T => k_asm); (case hk => first | exact rfl | assumption); (case hd => ktr_room); (case hu => ktr_units); (case P => repeat (first | exact Pull.head | apply Pull.tail)); (case hw => assumption); (case hn => repeat (first | assumption | exact NoW.nil | exact NoW.off (by assumption) (.head _) | refine NoW.append ?_ ?_ | refine NoW.cons (by first | exact rfl | assumption | exact isW_strs (by assumption) rfl) ?_)); (case hc => repeat (first | assumption | refine CellsIn.left ?_ | refine CellsIn.cons ?_)); (case ht => exact .inl (by k_mem)); (case hS => repeat (first| exact .nil| refine .cons _ _ ?_)); (case l0 => decide); (case l1 => decide); (case hN => exact fun y hy => (wides_chk y hy).2)); intro e9 t9 o9 he9 hle9 hw9 h9 tk9 F9 N9; (try dsimp only); (try k_sweep))
    k_steps
    · (rename News _ _ _ _ => NN); (rename Fr _ _ _ _ => FF)
      rw [hQ9]
      exact .mk _ _ _ _ _ _ _ _ _ _ rfl rfl (by assumption) (.inl he9) hle9 (by exact rfl) (by exact rfl) (by exact rfl) (by exact rfl) (by exact rfl) FF (newsPick NN (by repeat (first | exact List.Mem.head _ | apply List.Mem.tail)) (fun x hx => by repeat (first | exact hx | apply List.Mem.tail))) (by assumption) (by assumption)
    · (rename News _ _ _ _ => NN); (rename Fr _ _ _ _ => FF)
      rw [hQ9]
      exact .mk _ _ _ _ _ _ _ _ _ _ rfl rfl (by assumption) (.inr ⟨rfl, by assumption⟩) (by decide) (by exact rfl) (by exact rfl) (by exact rfl) (by exact rfl) (by exact rfl) FF (newsPick NN (by repeat (first | exact List.Mem.head _ | apply List.Mem.tail)) (fun x hx => by repeat (first | exact hx | apply List.Mem.tail))) (by assumption) (by assumption)
    · (rename News _ _ _ _ => NN); (rename Fr _ _ _ _ => FF)
      rw [hQ9]
      exact .mk _ _ _ _ _ _ _ _ _ _ rfl rfl (by assumption) (.inl he9) hle9 (by exact rfl) (by exact rfl) (by exact rfl) (by exact rfl) (by exact rfl) FF (newsPick NN (by repeat (first | exact List.Mem.head _ | apply List.Mem.tail)) (fun x hx => by repeat (first | exact hx | apply List.Mem.tail))) (by assumption) (by assumption)
  case nx =>
    repeat (rename News _ _ _ _ => N2; clear N2)
    repeat (rename Fr _ _ _ _ => F2; clear F2)
    refine PlaceQ.elim hQ9 ?_
    clear hQ9 Q9
    intro h5 tk5 m5 o5 b1 btw ta tb tc td hw5 hbt hbtl F5 N5 hb1 hbl1
    k_with "exec Assign cons BinOp" => ((fail_if_success (have inq9 : InCut := by assumption)); refine Stop.out ?_)
    k_steps
    refine Stop.in ?_
    obtain ⟨Q9, hQ9⟩ : ∃ Q9 : Flow → Shared → Prop, Q9 = fun f s' => PlaceR rest wa ca L1 g1 s p9 q9 b1 btw f s' := ⟨_, rfl⟩
    refine wpAny_mono (Q := Q9) ?one2 ?nx2 (fun _ _ e => e)
    case one2 =>
      have inq : InCut := ⟨⟩
      k_with "call ref" => (k_here; k_dflt (refine' Ctr.useK (ck_pickTN _ _ _ _ _ _ _ pads 3  ?hw ?hn ?hc  ?ht ?hS ?l0 ?l1 ?hN) ?B ?F ?X (Pull.news ?P ?N) ?T ?hk ?hd ?hu ?_ (fun f => f.elim); (case B => k_asm); (case F => k_asm); (case X => k_asm); (case N => k_asm); (case T => k_asm); (case hk => first | exact rfl | assumption); (case hd => ktr_room); (case hu => ktr_units); (case P => repeat (first | exact Pull.head | apply Pull.tail)); (case hw => assumption); (case hn => repeat (first | assumption | exact NoW.nil | exact NoW.off (by assumption) (.head _) | refine NoW.append ?_ ?_ | refine NoW.cons (by first | exact rfl | assumption | exact isW_strs (by assumption) rfl) ?_)); (case hc => repeat (first | assumption | refine CellsIn.left ?_ | refine CellsIn.cons ?_)); (case ht => exact .inl (by k_mem)); (case hS => repeat (first| exact .nil| refine .cons _ _ ?_)); (case l0 => decide); (case l1 => decide); (case hN => exact fun y hy => pads_len y hy)); intro d9 t9 o9 hd9 hld9 hw9 h9 tk9 F9 N9; (try dsimp only); (try k_sweep))
      k_steps
      · (rename (_ != _) = true => h0)
        (rename News _ _ _ _ => NN); (rename Fr _ _ _ _ => FF)
        rw [hQ9]
        exact .mk _ _ _ _ _ _ _ _ _ rfl rfl (by assumption) (.inl ⟨fun e => absurd (str_of_cds (e.trans nil_cds.symm)) (by simpa using h0), hd9⟩) hld9 (by exact rfl) (by exact rfl) (by exact rfl) (by exact rfl) (by exact rfl) FF (newsPick NN (by repeat (first | exact List.Mem.head _ | apply List.Mem.tail)) (fun x hx => by repeat (first | exact hx | apply List.Mem.tail)))
      · (rename (_ != _) = false => h0)
        (rename News _ _ _ _ => NN); (rename Fr _ _ _ _ => FF)
        rw [hQ9]
        exact .mk _ _ _ _ _ _ _ _ _ rfl rfl (by assumption) (.inr ⟨by simpa using h0, rfl⟩) (by decide) (by exact rfl) (by exact rfl) (by exact rfl) (by exact rfl) (by exact rfl) FF (newsPick NN (by repeat (first | exact List.Mem.head _ | apply List.Mem.tail)) (fun x hx => by repeat (first | exact hx | apply List.Mem.tail)))
    case nx2 =>
      repeat (rename News _ _ _ _ => N2; clear N2)
      repeat (rename Fr _ _ _ _ => F2; clear F2)
      refine PlaceR.elim hQ9 ?_
      clear hQ9 Q9
      intro h5 tk5 m5 o5 gp ta tb tc td hw5 hpd hpdl F5 N5
      have hsl : (b1 ++ p9 ++ gp ++ Str.ofString "if").length ≤ 30 := by
        have : (Str.ofString "if").length = 2 := by decide
        rw [alen, alen, alen]
        omega
      k_with "call ref" => (k_here; k_dflt (refine' Ctr.useK (ck_pl2 _ _ _ hb1 (by assumption) hp9 hpd hq9 hbt (by omega)) ?B ?F ?X ?N ?T ?hk ?hd ?hu ?_ (fun f => f.elim); (case B => k_asm); (case F => k_asm); (case X => k_asm); (case N => k_asm); (case T => k_asm); (case hk => first | exact rfl | assumption); (case hd => ktr_room); (case hu => ktr_units)); intro ad8 t1 t2 h9 tk9 F9 N9; try dsimp only)
      k_with "call ref" => (k_here; k_dflt (refine' CtrS.useK (ck_hpl _ _ _ hb1 (by assumption) hp9 hpd (by omega)) ?B ?F ?X ?N ?T ?D ?hk ?hd ?hu ?_; (case B => k_asm); (case F => k_asm); (case X => assumption); (case N => k_asm); (case T => assumption); (case D => assumption); (case hk => first | exact rfl | assumption); (case hd => ktr_room); (case hu => ktr_units)); intro tz9 g9 h9 tk9 T9 F9 N9 B9 D9; clear B1 X1 T1 D1; have X1 := Frag.In.keeps X B9.stays; have T1 := Top.keeps T B9.stays; have B1 := B9; have D1 := D9; clear B9 D9; replace T0 := KtsTurn.trans T0 T9; clear T9; (try dsimp only))
      k_steps
      refine Stop.in ?_
      (rename News _ _ _ _ => NN); (rename Fr _ _ _ _ => FF)
      exact ⟨_, L1, _, (wa, o9) :: rest, T0, FF, (newsPick NN (by repeat (first | exact List.Mem.head _ | apply List.Mem.tail)) (fun x hx => by repeat (first | exact hx | apply List.Mem.tail))), fun h0' a b c d e => hret _ _ _ _ _ ⟨_, congrArg Value.bool (beq_self_eq_true _), hw9, rfl⟩ a b c d e⟩
end

end Mine
set_option Elab.async false
set_option maxRecDepth 100000
set_option maxHeartbeats 2000000
set_option compiler.extract_closed false
namespace Mine
section
variable {prog : Program} {w : World} {A : Around} {E : Value → Shared → Prop} {s : Shared} {env : Env} {h₀ : Heap} {x : Str} {body : List Stmt} {Q : Flow → Shared → Prop}
/-- a loop over range(n), by an invariant; the ledger may change from turn to turn -/
theorem iter_rangeG {r : Addr} {n : Nat} {t u v : Tok} {m₀ : Str → Option Value} {news : Led} (J : Nat → (Str → Option Value) → Led → Prop)
    (hh : A.handled = none) (hr : IsRange s.heap r 0 (n : Int) 1 t u v) (hn : n ≤ 1000) (F : Fr h₀ env.locals s.heap m₀) (N : News h₀ env.locals s.heap news) (hj : J 0 m₀ news)
    (turn : ∀ i u m₁ nx h tk own, i < n → OwnOff own (nx.map (·.1)) → J i m₁ nx → Fr h₀ env.locals h (fun y => if y = x then some (.int (i : Nat) u) else m₁ y) → News h₀ env.locals h (nx ++ own) →
      wpAny (model prog w) A (execs body env) (InvPostG h₀ env.locals (J (i + 1)) own { s with heap := h, toks := tk } Q) E { s with heap := h, toks := tk })
    (done : ∀ m₁ nx h tk, J n m₁ nx → Fr h₀ env.locals h m₁ → News h₀ env.locals h nx → Q .next { s with heap := h, toks := tk }) :
    wpAny (model prog w) A (pyIter (.ref r)) (fun it s₂ => LoopAtV prog w A h₀ env x body Q E it s₂) E s := by
  refine wpAny_pyIter_range hr (small_one (by omega) (by omega) (by omega) (by omega)) ?_
  have hz : Builtin.Range.rangeSize 0 (n : Int) 1 = (n : Int) := by rw [rangeSize_nat]; simp
  refine kdr_loop J (Walks.range (prog := prog) (w := w) hh s.heap.objs.size 0 1 n) (fun a h => h) (fun a h => h) (fun i h hS b hb => ?_) ?_ ?_ ?_ (by show IsRangeIter _ _ _ _ _; rw [hz]; simpa using Heap.get?_push_size _ rfl) (F.push _) (fun p hp => ⟨Heap.get?_push_of_some _ (N p hp).1, (N p hp).2⟩) hj ?_ done
  · rw [List.mem_singleton.mp hb]
    exact ⟨_, hS⟩
  · intro hm
    exact absurd F.ns.lt ((List.mem_singleton.mp hm) ▸ Nat.lt_irrefl _)
  · intro b' hb
    rw [List.mem_singleton.mp hb]
    exact next_is_new F
  · intro p hp hI
    exact absurd (Heap.lt_size (N p hp).1) ((List.mem_singleton.mp hI) ▸ Nat.lt_irrefl _)
  · rintro i v m₁ nx h tk own hi ⟨u, rfl⟩ hoff hj' F₁ N₁
    have e : (0 : Int) + (i : Int) * 1 = (i : Int) := by omega
    rw [e] at F₁
    exact turn i u m₁ nx h tk own hi hoff hj' F₁ N₁
end
end Mine
set_option Elab.async false
set_option maxRecDepth 100000
set_option maxHeartbeats 2000000
set_option compiler.extract_closed false
namespace Mine
noncomputable def lows : List Int := [0, 1, 7, 12, 999999998]
noncomputable def shown (k : Int) : Str := Str.ofString (toString k)
noncomputable def wordOf (k : Int) (j : Nat) : Str := if j = 0 then shown k else shown k ++ Str.ofString "-" ++ shown (k + (j : Int) - 1)
noncomputable def zeros (k : Int) : List Str := if k < 100000000 then [Str.ofString "", Str.ofString "0"] else [Str.ofString ""]
noncomputable def pieceOf (k : Int) (j : Nat) : List Int := rangeKs k (max 1 j)
noncomputable def tooBig (ns : List Int) : Bool := ns.any fun k => decide (999999999 < k)
theorem words_chk : ∀ k ∈ lows, ∀ j ∈ [0, 1, 2, 3], (shown k).length ≤ 9 ∧ (wordOf k j).length ≤ 20 ∧ (pieceOf k j).all (fun x => decide (0 ≤ x) && decide (x ≤ 1000000000)) = true ∧ (pieceOf k j).length ≤ 3 ∧ (j = 0 ∨ (shown (k + (j : Int) - 1)).length ≤ 10) ∧
    ∀ z ∈ zeros k, ((cds (z ++ wordOf k j)).all fun c => !sp c) = true ∧ (z ++ wordOf k j).length ≠ 0 ∧ wordNums (z ++ wordOf k j) = if tooBig (pieceOf k j) = true then none else some (pieceOf k j) := by decide +kernel
noncomputable def NumsIs (text : Str) (ns : List Int) : Prop := ∃ ws, KWd.scan text = (ws, Str.empty) ∧ (∀ k ∈ ns, 0 ≤ k ∧ k ≤ 1000000000) ∧ numsOf ws = if tooBig ns = true then none else some ns
theorem numsOf_none (z : Str) : ∀ (l : List Str), numsOf l = none → numsOf (l ++ [z]) = none
  | [], h => by cases h
  | a :: r, h => by
    show (match wordNums a, numsOf (r ++ [z]) with | some a, some b => some (a ++ b) | _, _ => none) = none
    have h' : (match wordNums a, numsOf r with | some a, some b => some (a ++ b) | _, _ => none) = none := h
    cases e : wordNums a with
    | none => rfl
    | some x =>
      cases e2 : numsOf r with
      | none => rw [numsOf_none z r e2]
      | some y => rw [e, e2] at h'; cases h'
theorem nums_start {b : Str} (h : b ∈ blanks) : NumsIs b [] := by
  refine ⟨[], ?_, fun _ h => (nomatch h), rfl⟩
  have := scan_blanks (x := Str.empty) (b := b) KWd.scan_empty (all_sp (blanks_chk _ h).1)
  rwa [empty_app] at this
theorem wides_ne : ∀ z ∈ wides, z.length ≠ 0 := by decide +kernel
theorem j4 {j : Nat} (h : j < 4) : j ∈ [0, 1, 2, 3] := by
  match j, h with
  | 0, _ => decide
  | 1, _ => decide
  | 2, _ => decide
  | 3, _ => decide
theorem nums_step {text g z : Str} {ns : List Int} {k : Int} {j : Nat} (h : NumsIs text ns) (hk : k ∈ lows) (hj : j < 4) (hz : z ∈ zeros k) (hg : g ∈ wides) : NumsIs (text ++ z ++ wordOf k j ++ g) (ns ++ pieceOf k j) := by
  obtain ⟨ws, h1, h2, h3⟩ := h
  obtain ⟨_, _, w3, _, _, w6⟩ := words_chk k hk j (j4 hj)
  obtain ⟨w7, w8, w9⟩ := w6 z hz
  refine ⟨ws ++ [z ++ wordOf k j], ?_, fun x hx => ?_, ?_⟩
  · rw [app_assoc text]
    exact scan_word h1 w7 w8 (all_sp (wides_chk _ hg).1) (wides_ne _ hg)
  · rcases List.mem_append.mp hx with hx | hx
    · exact h2 x hx
    · have := List.all_eq_true.mp w3 x hx
      simpa using this
  · have et : tooBig (ns ++ pieceOf k j) = (tooBig ns || tooBig (pieceOf k j)) := List.any_append
    rw [et]
    cases hb : tooBig ns with
    | true =>
      rw [hb, if_pos rfl] at h3
      rw [numsOf_none _ _ h3]; rfl
    | false =>
      rw [hb, if_neg Bool.false_ne_true] at h3
      rw [numsOf_snoc _ _ _ h3, w9]
      cases tooBig (pieceOf k j) <;> rfl
theorem nums_good {text : Str} {ns : List Int} (h : NumsIs text ns) (hb : tooBig ns = false) : numsOf (Txt.words text) = some ns := by
  obtain ⟨ws, h1, h2, h3⟩ := h
  rw [words_all h1, h3, hb]; rfl
theorem nums_bad {text : Str} {ns : List Int} (h : NumsIs text ns) (hb : tooBig ns = true) : numsOf (Txt.words text) = none := by
  obtain ⟨ws, h1, h2, h3⟩ := h
  rw [words_all h1, h3, hb]; rfl
noncomputable def oddNums : List Str := [Str.ofString "x", Str.ofString "5-3", Str.ofString "1-2000", Str.ofString "-", Str.ofString "3-", Str.ofString "-4", Str.ofString "1234567890", Str.ofString "1--2", Str.ofString "0x1", Str.ofString "1,2", Str.ofString "+1", Str.ofString "2-x", Str.ofString "1.0"]
theorem oddNums_chk : ∀ z ∈ oddNums, ((cds z).all fun c => !sp c) = true ∧ z.length ≠ 0 ∧ z.length ≤ 10 ∧ wordNums z = none := by decide +kernel
theorem nums_odd {text q : Str} {ns : List Int} (h : NumsIs text ns) (hq : q ∈ oddNums) : numsOf (Txt.words (text ++ Str.ofString " " ++ q)) = none := by
  obtain ⟨ws, h1, h2, h3⟩ := h
  obtain ⟨o1, o2, _, o4⟩ := oddNums_chk _ hq
  rw [words_last (scan_blanks h1 (b := Str.ofString " ") (by decide +kernel)) o1 o2]
  cases hn : numsOf ws with
  | none => exact numsOf_none _ _ hn
  | some x => rw [numsOf_snoc _ _ _ hn, o4]; rfl
end Mine
set_option Elab.async false
set_option maxRecDepth 100000
set_option maxHeartbeats 2000000
set_option compiler.extract_closed false
namespace Mine
noncomputable def wholes : List Int := [0, 3, 88, 999999999]
theorem wholes_chk : ∀ k ∈ wholes, 0 ≤ k ∧ k ≤ 999999999 ∧ (shown k).length ≤ 9 ∧ cds (shown k) ≠ [] ∧ edge (cds (shown k)) = true ∧ (∀ c ∈ cds (shown k), sp c = false) ∧ wholeOf (shown k) = k ∧ (shown k == Str.ofString "") = false := by decide +kernel
theorem pads_chk : ∀ z ∈ pads, (cds z).all blk = true ∧ cds z ≠ [] := by decide +kernel
theorem nar_line {b1 b2 pd tl : Str} {k : Int} {i : Nat} (h1 : b1 ∈ blanks) (h2 : b2 ∈ blanks) (hk : k ∈ wholes) (ht : tl ∈ rests) (hp : PadOk tl pd) (hi : FirstEnd (Txt.strip (b1 ++ shown k ++ pd ++ tl ++ b2)) i) :
    Txt.slice (Txt.strip (b1 ++ shown k ++ pd ++ tl ++ b2)) none (some (i : Int)) = shown k ∧ Txt.strip (Txt.slice (Txt.strip (b1 ++ shown k ++ pd ++ tl ++ b2)) (some (i : Int)) none) = tl := by
  have a1 := all_sp (blanks_chk _ h1).1
  have a2 := all_sp (blanks_chk _ h2).1
  obtain ⟨_, _, _, k0, k1, k2, _, _⟩ := wholes_chk _ hk
  obtain ⟨t1, _, _, _⟩ := rests_chk _ ht
  rcases hp with ⟨ht0, hg⟩ | ⟨rfl, rfl⟩
  · obtain ⟨g1, g2⟩ := pads_chk _ hg
    have hx : Txt.strip (b1 ++ shown k ++ pd ++ tl ++ b2) = shown k ++ (pd ++ tl) := strip_is (a := cds b1) (b := cds b2) (by simp only [app_cds, List.append_assoc, cds]) a1 a2 (by
      have := edge_app k1 t1 k0 ht0 (cds pd); simpa only [app_cds, List.append_assoc] using this)
    rw [hx] at hi ⊢
    obtain rfl := firstEnd_uniq hi (firstEnd_of k2 (fun c hc => by rw [cds_append] at hc; exact blk_head g1 g2 c hc))
    rw [cut_l, cut_r]
    exact ⟨rfl, strip_l (all_sp g1) t1⟩
  · have hx : Txt.strip (b1 ++ shown k ++ Str.ofString "" ++ Str.ofString "" ++ b2) = shown k ++ Str.ofString "" := by
      rw [app_nil, app_nil, app_nil]
      exact strip_mid a1 a2 k1
    rw [hx] at hi ⊢
    obtain rfl := firstEnd_uniq hi (firstEnd_of k2 (fun c hc => by rw [nil_cds] at hc; cases hc))
    rw [cut_l, cut_r]
    exact ⟨rfl, strip_e rfl⟩
theorem take_tw (p : Nat → Bool) : ∀ (l : List Nat) (i : Nat), i ≤ l.length → (∀ j c, j < i → l[j]? = some c → p c = true) → (∀ c, l[i]? = some c → p c = false) → l.take i = l.takeWhile p
  | [], i, hi, _, _ => by
    have : i = 0 := by simpa using hi
    subst this; rfl
  | a :: r, 0, _, _, h => by
    have := h a rfl
    rw [List.takeWhile_cons_of_neg (by rw [this]; exact Bool.false_ne_true)]
    rfl
  | a :: r, i + 1, hi, h, h' => by
    rw [List.takeWhile_cons_of_pos (h 0 a (Nat.succ_pos _) rfl), List.take_succ_cons, take_tw p r i (Nat.le_of_succ_le_succ hi) (fun j c hj e => h (j + 1) c (Nat.succ_lt_succ hj) e) h']
theorem first_take {y : Str} {i : Nat} (h : FirstEnd y i) : cds (Txt.slice y none (some (i : Int))) = (cds y).takeWhile (fun c => !blk c) := by
  rw [cds_to h.1]
  refine take_tw _ _ _ (by rw [cds_len]; exact h.1) (fun j c hj e => ?_) fun c e => ?_
  · have := h.2.1 j hj
    rw [blankAt_eq e] at this
    show (!(c == 32 || c == 9)) = true
    rw [this]; rfl
  · have hl : i < y.length := by rw [← cds_len]; exact (List.getElem?_eq_some_iff.mp e).1
    have := h.2.2 hl
    rw [blankAt_eq e] at this
    show (!(c == 32 || c == 9)) = false
    rw [this]; rfl
noncomputable def narBad (l : List Nat) : Bool := let w := (stripL l).takeWhile (fun c => !blk c); w == [] || decide (wholeOf ⟨w.toArray⟩ < 0)
theorem nar_bad {x : Str} {i : Nat} (h : narBad (cds x) = true) (hi : FirstEnd (Txt.strip x) i) : (Txt.slice (Txt.strip x) none (some (i : Int)) == Str.ofString "") = true ∨ wholeOf (Txt.slice (Txt.strip x) none (some (i : Int))) < 0 := by
  have e := first_take hi
  rw [show cds (Txt.strip x) = stripL (cds x) from strip_cds x] at e
  unfold narBad at h
  dsimp only at h
  rw [← e] at h
  rcases Bool.or_eq_true _ _ ▸ h with h | h
  · refine .inl (beq_iff_eq.mpr (str_of_cds ?_))
    rw [eq_of_beq h]; exact nil_cds.symm
  · exact .inr (of_decide_eq_true h)
noncomputable def narWrong : List Str := [Str.ofString "x 3", Str.ofString "1234567890 a", Str.ofString "-1", Str.ofString "3a", Str.ofString "1-2 x"]
theorem narWrong_chk : ∀ z ∈ narWrong, narBad (cds z) = true ∧ z.length ≤ 12 := by decide +kernel
theorem narBlank_chk : ∀ z ∈ blanks, narBad (cds z) = true := by decide +kernel
noncomputable def cntWrong : List Str := [Str.ofString "x", Str.ofString "-1", Str.ofString "1 2", Str.ofString "1234567890", Str.ofString "0x2"]
theorem cntWrong_chk : ∀ z ∈ cntWrong, edge (cds z) = true ∧ (z == Str.ofString "") = false ∧ wholeOf z < 0 ∧ z.length ≤ 12 := by decide +kernel
theorem cnt_wrong {z : Str} (h : z ∈ cntWrong) : (Txt.strip z == Str.ofString "") = false ∧ wholeOf (Txt.strip z) < 0 := by
  obtain ⟨h1, h2, h3, _⟩ := cntWrong_chk _ h
  rw [strip_e h1]
  exact ⟨h2, h3⟩
theorem cnt_blank {b : Str} (h : b ∈ blanks) : Txt.strip b = Str.ofString "" := by
  have := strip_is (x := b) (y := Str.ofString "") (a := cds b) (b := []) (by rw [List.append_nil, show (Str.ofString "").cps.toList = [] from rfl, List.append_nil]) (all_sp (blanks_chk _ h).1) rfl rfl
  exact this
theorem cnt_zero {b : Str} (h : b ∈ blanks) : Txt.strip (b ++ Str.ofString "0" ++ b) = Str.ofString "0" := strip_mid (all_sp (blanks_chk _ h).1) (all_sp (blanks_chk _ h).1) (by decide +kernel)
theorem cnt_whole {b : Str} {k : Int} (h : b ∈ blanks) (hk : k ∈ wholes) : Txt.strip (shown k ++ b) = shown k := strip_r (all_sp (blanks_chk _ h).1) (wholes_chk _ hk).2.2.2.2.1
end Mine
set_option Elab.async false
set_option maxRecDepth 100000
set_option maxHeartbeats 2000000
set_option compiler.extract_closed false
namespace Mine
local macro_rules | `(tactic| walk_at $s:str) => `(tactic| k_extra $s)
theorem fillP22 : r = r ∧ K = K := by k_fill; exact ⟨rfl, rfl⟩
theorem isW_ints {vs : List Value} {ns : List Int} {n : Nat} (h : IntsAre vs ns) : isW (W.listOf vs.toArray n) = false := by
  unfold isW W.listOf
  cases h with
  | nil => rfl
  | cons k t h => rfl
theorem memInt {vs : List Value} {ns : List Int} (h : IntsAre vs ns) : ∀ {v : Value}, v ∈ vs → ∃ k t, v = .int k t ∧ k ∈ ns := by
  induction h with
  | nil => intro v e; simp at e
  | cons k t _ ih =>
    intro v e
    rcases List.mem_cons.mp e with rfl | e
    · exact ⟨k, t, rfl, .head _⟩
    · obtain ⟨k', t', e1, e2⟩ := ih e
      exact ⟨k', t', e1, .tail _ e2⟩
theorem c_pickI (w : World) (rest : Led) (wa ca : Addr) (o : Obj) (ta : Addr) (vs : List Value) (ns : List Int) (hw : Well ca o) (hn : NoW wa rest) (hc : CellsIn rest ca) (ht : TupIn w rest ta vs) (hI : IntsAre vs ns) (l0 : 0 < ns.length) (l1 : ns.length ≤ 1000) :
    Ctr w 186 [.ref wa, .ref ta] ((wa, o) :: rest) 2 12 (fun r n => ∃ k t o', r = .int k t ∧ k ∈ ns ∧ Well ca o' ∧ n = (wa, o') :: rest) False :=
  (c_pick w rest wa ca o ta vs hw hn hc ht (by rw [hI.length]; exact l0) (by rw [hI.length]; exact l1)).mono fun r n h => by
    obtain ⟨v, o', rfl, hv, hw', hn'⟩ := h
    obtain ⟨k, t, rfl, hk⟩ := memInt hI hv
    exact ⟨k, t, o', rfl, hk, hw', hn'⟩
theorem c_pickIN (w : World) (rest : Led) (wa ca : Addr) (o : Obj) (ta : Addr) (vs : List Value) (ns : List Int) (N : Int) (hw : Well ca o) (hn : NoW wa rest) (hc : CellsIn rest ca) (ht : TupIn w rest ta vs) (hI : IntsAre vs ns) (l0 : 0 < ns.length) (l1 : ns.length ≤ 1000) (hN : ∀ k ∈ ns, 0 ≤ k ∧ k ≤ N) :
    Ctr w 186 [.ref wa, .ref ta] ((wa, o) :: rest) 2 12 (fun r n => ∃ k t o', r = .int k t ∧ k ∈ ns ∧ 0 ≤ k ∧ k ≤ N ∧ Well ca o' ∧ n = (wa, o') :: rest) False :=
  (c_pickI w rest wa ca o ta vs ns hw hn hc ht hI l0 l1).mono fun r n h => by
    obtain ⟨k, t, o', h1, h2, h3⟩ := h
    exact ⟨k, t, o', h1, h2, (hN k h2).1, (hN k h2).2, h3⟩
theorem ck_pickIN (w : World) (rest : Led) (wa ca : Addr) (o : Obj) (ta : Addr) (vs : List Value) (ns : List Int) (N : Int) (hw : Well ca o) (hn : NoW wa rest) (hc : CellsIn rest ca) (ht : TupIn w rest ta vs) (hI : IntsAre vs ns) (l0 : 0 < ns.length) (l1 : ns.length ≤ 1000) (hN : ∀ k ∈ ns, 0 ≤ k ∧ k ≤ N) :
    Ctr w 186 [.ref wa, .ref ta] ((wa, o) :: rest) 2 12 (KOk fun Z9 => ∀ k t o', k ∈ ns → 0 ≤ k → k ≤ N → Well ca o' → Z9 (.int k t) ((wa, o') :: rest)) False :=
  (c_pickIN w rest wa ca o ta vs ns N hw hn hc ht hI l0 l1 hN).mono fun _ _ h Z9 hk => by
    obtain ⟨k, t, o', rfl, h1, h2, h3, h4, rfl⟩ := h
    exact hk k t o' h1 h2 h3 h4
noncomputable def isCell (o : Obj) : Bool := match o.data with
  | .cell _ => true
  | _ => false
noncomputable def NoC (c : Addr) (rest : Led) : Prop := ∀ q ∈ rest, isCell q.2 = false ∨ q.1 ≠ c
theorem NoC.cons {c : Addr} {q : Addr × Obj} {r : Led} (h : isCell q.2 = false) (N : NoC c r) : NoC c (q :: r) := fun x hx => by
  rcases List.mem_cons.mp hx with rfl | hx
  · exact .inl h
  · exact N _ hx
theorem NoC.append {c : Addr} {r r' : Led} (N : NoC c r) (N' : NoC c r') : NoC c (r ++ r') := fun x hx => by
  rcases List.mem_append.mp hx with hx | hx
  · exact N _ hx
  · exact N' _ hx
theorem NoC.off {c : Addr} {own : Led} {adr : List Addr} (h : OwnOff own adr) (hm : c ∈ adr) : NoC c own := fun x hx => .inr (h x hx _ hm)
theorem NoC.lt {L : Nat} : ∀ {rest : Led}, AllLt L rest → NoC (L + 1) rest
  | [], _ => fun _ h => (nomatch h)
  | p :: r, h => fun x hx => by
    rcases List.mem_cons.mp hx with rfl | hx
    · exact .inr (Nat.ne_of_lt (Nat.lt_succ_of_lt h.1))
    · exact NoC.lt h.2 _ hx
theorem isW_cell {o : Obj} {cv : Option Value} (h : o.data = .cell cv) : isW o = false := by unfold isW; rw [h]
theorem isCell_well {ca : Addr} {o : Obj} (h : Well ca o) : isCell o = false := by
  obtain ⟨_, _, _, _, _, rfl, _⟩ := h
  rfl
theorem storeCell {M : Model} {A : Around} {E : Value → Shared → Prop} {s : Shared} {h₀ : Heap} {L a c : Addr} {m : Str → Option Value} {cn : Str} {cs : Scope} {ccd : Value} {cl : List (Str × Addr)} {x : Str} {v : Value} {Q : Unit → Shared → Prop} {o : Obj} {v₀ : Option Value} {l rest : Led}
    (F : Fr h₀ L s.heap m) (N : News h₀ L s.heap l) (P : Pull (c, o) l rest) (hd : o.data = .cell v₀) (hn : NoC c rest) (hc : cl.lookup x = some c) (hk : cs.kind = .function) (hx : (envX cn cs L a ccd cl).kindOf x = some .cell)
    (h : ∀ h' o', Fr h₀ L h' m → News h₀ L h' ((c, o') :: rest) → o'.data = .cell (some v) → Q () { s with heap := h' }) : wpAny M A (storeName (envX cn cs L a ccd cl) x v) Q E s := by
  have N1 := P.news N
  have hmem := N1 (c, o) (.head _)
  have h2 : ∀ q ∈ rest, q.1 ≠ c := fun q hq e => by
    rcases hn q hq with h3 | h3
    · have h4 := (N1 q (.tail _ hq)).1
      rw [e, hmem.1] at h4
      rw [← Option.some.inj h4] at h3
      unfold isCell at h3
      rw [hd] at h3
      cases h3
    · exact h3 e
  refine wpAny_storeName_cell hk hx hc ⟨o, hmem.1, hd⟩ fun h' hv hs => ?_
  obtain ⟨o', ho', hd'⟩ := hv
  refine h h' o' ⟨F.ns.sameBut hs (Ne.symm hmem.2.1), fun b ob e => (hs.2 b (fun q => ?_)).trans (F.keep b ob e), F.above⟩ (News.setAt (own := []) (rest := rest) N1 (fun _ h => (nomatch h)) h2 hs ho') hd'
  rw [q, hmem.2.2] at e; cases e
inductive WordJ (rest own : Led) (wa ca da L1 : Addr) (g1 : Heap) (s : Shared) (k : Int) (j : Nat) (text : Str) (due : Obj) (f : Flow) (s' : Shared) : Prop
  | mk (h' : Heap) (tt : Nat) (m' : Str → Option Value) (o' oc : Obj) (t1 t2 t3 : Tok) (hf : f = .next) (hs : s' = { s with heap := h', toks := tt }) (hw : Well ca o') (hc : oc.data = .cell (some (.int k t1)))
      (e1 : m' ("text" : Str) = some (.str text t2)) (e2 : m' ("due" : Str) = some (.ref da)) (e3 : m' ("well" : Str) = some (.ref wa)) (e4 : m' ("word" : Str) = some (.str (wordOf k j) t3)) (e5 : ∃ t4, m' ("more" : Str) = some (.int j t4))
      (F : Fr g1 L1 h' m') (N : News g1 L1 h' ((wa, o') :: (da, due) :: (L1 + 1, oc) :: (245, tabObj #[]) :: (rest ++ own))) : WordJ rest own wa ca da L1 g1 s k j text due f s'
theorem WordJ.elim {rest own : Led} {wa ca da L1 : Addr} {g1 : Heap} {s : Shared} {kk : Int} {j : Nat} {text : Str} {due : Obj} {k : Flow → Shared → Prop} {Q9 : Flow → Shared → Prop} (hQ : Q9 = fun f s' => WordJ rest own wa ca da L1 g1 s kk j text due f s')
    (h : ∀ (h' : Heap) (tt : Nat) (m' : Str → Option Value) (o' oc : Obj) (t1 t2 t3 t4 : Tok), Well ca o' → oc.data = .cell (some (.int kk t1)) →
      Fr g1 L1 h' (fun n => if n = ("text" : Str) then some (.str text t2) else if n = ("due" : Str) then some (.ref da) else if n = ("well" : Str) then some (.ref wa) else if n = ("word" : Str) then some (.str (wordOf kk j) t3) else if n = ("more" : Str) then some (.int j t4) else m' n) →
      News g1 L1 h' ((wa, o') :: (da, due) :: (L1 + 1, oc) :: (245, tabObj #[]) :: (rest ++ own)) → k .next { s with heap := h', toks := tt }) (f : Flow) (s' : Shared) (q9 : Q9 f s') : k f s' := by
  subst hQ
  obtain ⟨h5, tk5, m5, o5, oc5, t5, t6, t7, rfl, rfl, hw5, hoc5, e1, e2, e3, e4, ⟨t8, e5⟩, F5, N5⟩ := q9
  exact h _ _ _ _ _ _ _ _ _ hw5 hoc5 (Fr.known0 (n := ("text" : Str)) (Fr.known0 (n := ("due" : Str)) (Fr.known0 (n := ("well" : Str)) (Fr.known0 (n := ("word" : Str)) (Fr.known0 (n := ("more" : Str)) F5 e5) e4) e3) e2) e1) N5
inductive TextJ (rest own : Led) (wa ca da L1 : Addr) (g1 : Heap) (s : Shared) (k : Int) (j : Nat) (text : Str) (due : Obj) (f : Flow) (s' : Shared) : Prop
  | mk (h' : Heap) (tt : Nat) (m' : Str → Option Value) (o' oc : Obj) (z g : Str) (t1 t2 t3 : Tok) (hf : f = .next) (hs : s' = { s with heap := h', toks := tt }) (hw : Well ca o') (hc : oc.data = .cell (some (.int k t1))) (hz : z ∈ zeros k) (hg : g ∈ wides)
      (e1 : m' ("text" : Str) = some (.str (text ++ z ++ wordOf k j ++ g) t2)) (e2 : m' ("due" : Str) = some (.ref da)) (e3 : m' ("well" : Str) = some (.ref wa)) (e5 : m' ("more" : Str) = some (.int j t3))
      (F : Fr g1 L1 h' m') (N : News g1 L1 h' ((wa, o') :: (da, due) :: (L1 + 1, oc) :: (245, tabObj #[]) :: (rest ++ own))) : TextJ rest own wa ca da L1 g1 s k j text due f s'
theorem TextJ.elim {rest own : Led} {wa ca da L1 : Addr} {g1 : Heap} {s : Shared} {kk : Int} {j : Nat} {text : Str} {due : Obj} {k : Flow → Shared → Prop} {Q9 : Flow → Shared → Prop} (hQ : Q9 = fun f s' => TextJ rest own wa ca da L1 g1 s kk j text due f s')
    (h : ∀ (h' : Heap) (tt : Nat) (m' : Str → Option Value) (o' oc : Obj) (z g : Str) (t1 t2 t3 : Tok), Well ca o' → oc.data = .cell (some (.int kk t1)) → z ∈ zeros kk → g ∈ wides →
      Fr g1 L1 h' (fun n => if n = ("text" : Str) then some (.str (text ++ z ++ wordOf kk j ++ g) t2) else if n = ("due" : Str) then some (.ref da) else if n = ("well" : Str) then some (.ref wa) else if n = ("more" : Str) then some (.int j t3) else m' n) →
      News g1 L1 h' ((wa, o') :: (da, due) :: (L1 + 1, oc) :: (245, tabObj #[]) :: (rest ++ own)) → k .next { s with heap := h', toks := tt }) (f : Flow) (s' : Shared) (q9 : Q9 f s') : k f s' := by
  subst hQ
  obtain ⟨h5, tk5, m5, o5, oc5, z, g, t5, t6, t7, rfl, rfl, hw5, hoc5, hz, hg, e1, e2, e3, e5, F5, N5⟩ := q9
  exact h _ _ _ _ _ _ _ _ _ _ hw5 hoc5 hz hg (Fr.known0 (n := ("text" : Str)) (Fr.known0 (n := ("due" : Str)) (Fr.known0 (n := ("well" : Str)) (Fr.known0 (n := ("more" : Str)) F5 e5) e3) e2) e1) N5
theorem mul_zero : Txt.mul (Str.ofString "0") 0 = Str.ofString "" ∧ Txt.mul (Str.ofString "0") 1 = Str.ofString "0" := by decide +kernel
theorem zeros_a {k z : Int} (hz : z ∈ ([0, 0, 1] : List Int)) (h : k < 100000000) : Txt.mul (Str.ofString "0") z ∈ zeros k := by
  unfold zeros
  rw [if_pos h]
  have h' : z = 0 ∨ z = 1 := by simpa using hz
  rcases h' with rfl | rfl
  · rw [mul_zero.1]; exact .head _
  · rw [mul_zero.2]; exact .tail _ (.head _)
theorem zeros_b {k z : Int} (hz : z ∈ ([0, 0, 0] : List Int)) : Txt.mul (Str.ofString "0") z ∈ zeros k := by
  have h' : z = 0 := by simpa using hz
  subst h'
  rw [mul_zero.1]
  unfold zeros
  split <;> exact .head _
theorem piece_eq (k : Int) (j : Nat) : List.map (fun k' => k + k') (rangeKs 0 ((if (j : Int) > 1 then (j : Int) else 1) - 0).toNat) = pieceOf k j := by
  unfold pieceOf rangeKs
  rw [List.map_map]
  have e : ((if (j : Int) > 1 then (j : Int) else 1) - 0).toNat = max 1 j := by split <;> omega
  rw [e]
  refine List.map_congr_left fun x _ => ?_
  show k + (0 + (x : Int)) = k + x
  omega
theorem allLt_mem {d : Nat} : ∀ {l : Led}, AllLt d l → ∀ p ∈ l, p.1 < d
  | [], _, _, h => (nomatch h)
  | q :: r, h, p, hp => by
    rcases List.mem_cons.mp hp with rfl | hp
    · exact h.1
    · exact allLt_mem h.2 p hp
theorem zeros_len {k : Int} {z : Str} (h : z ∈ zeros k) : z.length ≤ 1 := by
  unfold zeros at h
  split at h
  · rcases List.mem_cons.mp h with rfl | h
    · decide
    · rw [List.mem_singleton.mp h]; decide
  · rw [List.mem_singleton.mp h]; decide
theorem intsGet {vs : List Value} {ns : List Int} (h : IntsAre vs ns) : ∀ {i : Nat} {v : Value}, vs[i]? = some v → ∃ k u, v = .int k u ∧ ns[i]? = some k := by
  induction h with
  | nil => intro i v e; simp at e
  | cons k t _ ih =>
    intro i v e
    cases i with
    | zero => exact ⟨k, t, by simpa using e.symm, rfl⟩
    | succ i => exact ih (by simpa using e)
theorem intsSnoc {vs : List Value} {ns : List Int} {k : Int} {t : Tok} (h : IntsAre vs ns) : IntsAre (vs ++ [.int k t]) (ns ++ [k]) := by
  induction h with
  | nil => exact .cons _ _ .nil
  | cons z u _ ih => exact .cons _ _ ih
theorem takeFilterI {p : Int → Bool} {ns : List Int} {i : Nat} {k : Int} (h : ns[i]? = some k) : (ns.take (i + 1)).filter p = (ns.take i).filter p ++ (if p k = true then [k] else []) := by
  obtain ⟨hi, e⟩ := List.getElem?_eq_some_iff.mp h
  rw [List.take_succ_eq_append_getElem hi, List.filter_append, e]
  congr 1
  by_cases hp : p k = true
  · rw [if_pos hp, List.filter_cons_of_pos hp]; rfl
  · rw [if_neg hp, List.filter_cons_of_neg hp]; rfl
theorem big_none {ys : List Value} {ns : List Int} (h : IntsAre ys (ns.filter fun k => decide (999999999 < k))) (e : ys.isEmpty = true) : tooBig ns = false := by
  have hl := h.length
  rw [List.isEmpty_iff.mp e] at hl
  have h0 := List.eq_nil_of_length_eq_zero hl.symm
  unfold tooBig
  rw [List.any_eq_false]
  intro k hk hp
  have := (List.mem_filter (p := fun k => decide (999999999 < k))).mpr ⟨hk, hp⟩
  rw [h0] at this
  cases this
theorem big_none2 {ns : List Int} (e : decide ((ns.filter fun k => decide (999999999 < k)) = []) = true) : tooBig ns = false := by
  unfold tooBig
  exact List.any_eq_false.mpr fun k hk => List.filter_eq_nil_iff.mp (of_decide_eq_true e) k hk
theorem big_some2 {ns : List Int} (e : decide ((ns.filter fun k => decide (999999999 < k)) = []) = false) : tooBig ns = true := by
  cases ht : tooBig ns with
  | true => rfl
  | false =>
    unfold tooBig at ht
    exact absurd (List.filter_eq_nil_iff.mpr fun k hk => List.any_eq_false.mp ht k hk) (of_decide_eq_false e)
theorem big_some {ys : List Value} {ns : List Int} (h : IntsAre ys (ns.filter fun k => decide (999999999 < k))) (e : ys.isEmpty = false) : tooBig ns = true := by
  cases ht : tooBig ns with
  | true => rfl
  | false =>
    unfold tooBig at ht
    have h0 : (ns.filter fun k => decide (999999999 < k)) = [] := List.filter_eq_nil_iff.mpr fun k hk => List.any_eq_false.mp ht k hk
    have hl := h.length
    rw [h0] at hl
    rw [List.eq_nil_of_length_eq_zero hl] at e
    cases e
theorem c_hnums (w : World) (news : Led) (x : Str) (t : Tok) (hx : x.length ≤ 1000) (h : numsOf (Txt.words x) = none) : CtrS w 200 [.ref 141, .str x t] news 5 40 (fun r n => ∃ t', r = .str (Str.ofString "refused") t' ∧ n = news) :=
  (c_heard w 141 x t news 3 20 _ _ (c_numbers w news x t hx) (Kept.ofK rfl)).mono fun r n h' => by
    rcases h' with ⟨fa, vs, k, ns, e, _⟩ | ⟨e, rfl, t', rfl⟩
    · rw [h] at e; cases e
    · exact ⟨t', rfl, rfl⟩
theorem ck_hnums (w : World) (news : Led) (x : Str) (t : Tok) (hx : x.length ≤ 1000) (h : numsOf (Txt.words x) = none) : CtrS w 200 [.ref 141, .str x t] news 5 40 (KOk fun Z9 => ∀ t', Z9 (.str (Str.ofString "refused") t') news) :=
  (c_hnums w news x t hx h).mono fun _ _ h Z9 hk => by
    obtain ⟨t', rfl, rfl⟩ := h
    exact hk t'
theorem c_nums (w : World) (news : Led) (x : Str) (t : Tok) (ns : List Int) (hx : x.length ≤ 1000) (h : numsOf (Txt.words x) = some ns) : Ctr w 141 [.str x t] news 3 20
    (fun r n => ∃ (fa : Addr) (vs : List Value) (k : Nat), IntsAre vs ns ∧ isW (W.listOf vs.toArray k) = false ∧ r = .ref fa ∧ n = (fa, W.listOf (List.toArray vs) k) :: news) False :=
  (c_numbers w news x t hx).mono2 (fun r n h' => by
    obtain ⟨fa, vs, k, ns', e, hI, rfl, rfl⟩ := h'
    rw [h] at e
    obtain rfl := Option.some.inj e
    exact ⟨fa, vs, k, hI, isW_ints hI, rfl, rfl⟩) (fun e => by rw [h] at e; cases e)
theorem ck_nums (w : World) (news : Led) (x : Str) (t : Tok) (ns : List Int) (hx : x.length ≤ 1000) (h : numsOf (Txt.words x) = some ns) : Ctr w 141 [.str x t] news 3 20
    (KOk fun Z9 => ∀ (fa : Addr) (vs : List Value) (k : Nat), IntsAre vs ns → isW (W.listOf vs.toArray k) = false → Z9 (.ref fa) ((fa, W.listOf (List.toArray vs) k) :: news)) False :=
  (c_nums w news x t ns hx h).mono fun _ _ h Z9 hk => by
    obtain ⟨fa, vs, k, h1, h2, rfl, rfl⟩ := h
    exact hk fa vs k h1 h2
theorem Ctr.sub {w : World} {f : Addr} {vs : List Value} {news : Led} {dD dU : Nat} {Ok Ok' : Value → Led → Prop} {Err Err' : Prop} (C : Ctr w f vs news dD dU Ok Err) (h : ∀ r n, Ok r n → ∃ n', Ok' r n' ∧ ∀ x ∈ n', x ∈ n) (he : Err → Err') : Ctr w f vs news dD dU Ok' Err' := by
  intro loose mean mg mb dp un gd cn cs a ccd cl outer A₀ base h₀ L m s Q E B F X N T hk hd hu hret herr
  exact C loose mean mg mb dp un gd cn cs a ccd cl outer A₀ base h₀ L m s Q E B F X N T hk hd hu (fun r n h' tk o F N => by
    obtain ⟨n', o', hs⟩ := h r n o
    exact hret r n' h' tk o' F fun x hx => N x (hs x hx)) fun e => herr (he e)
theorem c_nar_line (w : World) (news : Led) {b1 b2 pd tl lk : Str} {k : Int} (t tl' : Tok) (h1 : b1 ∈ blanks) (h2 : b2 ∈ blanks) (hk : k ∈ wholes) (ht : tl ∈ rests) (hp : PadOk tl pd) (hl : (b1 ++ shown k ++ pd ++ tl ++ b2).length ≤ 1000) (hlk : lk.length ≤ 1000) :
    Ctr w 148 [.str (b1 ++ shown k ++ pd ++ tl ++ b2) t, .str lk tl'] news 3 20 (fun r n => ∃ (ad : Addr) (t1 t2 : Tok), r = .ref ad ∧ n = (ad, tupO [.int k t1, .str tl t2]) :: news) False :=
  (c_nar w news _ lk t tl' hl hlk).sub (fun r n h => by
    obtain ⟨i, t1, t2, ad, n', hi, hj, hx, _, _, rfl, rfl⟩ := h
    obtain ⟨e1, e2⟩ := nar_line h1 h2 hk ht hp ⟨hi, hj, hx⟩
    rw [e1, e2, (wholes_chk k hk).2.2.2.2.2.2.1]
    refine ⟨_, ⟨ad, t1, t2, rfl, rfl⟩, fun x hx => ?_⟩
    rcases List.mem_cons.mp hx with rfl | hx
    · exact .head _
    · exact .tail _ (.tail _ hx)) (fun e => by
    obtain ⟨i, hi, hj, hx, he⟩ := e
    obtain ⟨e1, e2⟩ := nar_line h1 h2 hk ht hp ⟨hi, hj, hx⟩
    rw [e1] at he
    obtain ⟨w1, _, _, _, _, _, w7, w8⟩ := wholes_chk k hk
    rcases he with he | he
    · have he' : (shown k == Str.ofString "") = true := he
      rw [w8] at he'; cases he'
    · rw [w7] at he; omega)
theorem ck_nar_line (w : World) (news : Led) {b1 b2 pd tl lk : Str} {k : Int} (t tl' : Tok) (h1 : b1 ∈ blanks) (h2 : b2 ∈ blanks) (hk : k ∈ wholes) (ht : tl ∈ rests) (hp : PadOk tl pd) (hl : (b1 ++ shown k ++ pd ++ tl ++ b2).length ≤ 1000) (hlk : lk.length ≤ 1000) :
    Ctr w 148 [.str (b1 ++ shown k ++ pd ++ tl ++ b2) t, .str lk tl'] news 3 20 (KOk fun Z9 => ∀ (ad : Addr) (t1 t2 : Tok), Z9 (.ref ad) ((ad, tupO [.int k t1, .str tl t2]) :: news)) False :=
  (c_nar_line w news t tl' h1 h2 hk ht hp hl hlk).mono fun _ _ h Z9 hk => by
    obtain ⟨ad, t1, t2, rfl, rfl⟩ := h
    exact hk ad t1 t2
inductive LineJ (rest : Led) (wa ca L1 : Addr) (g : Heap) (s : Shared) (oc : Obj) (k : Int) (tl : Str) (f : Flow) (s' : Shared) : Prop
  | mk (h' : Heap) (tt : Nat) (m' : Str → Option Value) (o' : Obj) (b1 pd b2 : Str) (t1 t2 t3 : Tok) (hf : f = .next) (hs : s' = { s with heap := h', toks := tt }) (hw : Well ca o') (hp : PadOk tl pd)
      (e1 : m' ("line" : Str) = some (.str (b1 ++ shown k ++ pd ++ tl ++ b2) t1)) (e2 : m' ("whole_here" : Str) = some (.int k t2)) (e3 : m' ("tail_here" : Str) = some (.str tl t3)) (e4 : m' ("well" : Str) = some (.ref wa))
      (F : Fr g L1 h' m') (N : News g L1 h' ((wa, o') :: (L1 + 1, oc) :: (245, tabObj #[]) :: rest)) (hb1 : b1 ∈ blanks) (hb2 : b2 ∈ blanks) (hl : (b1 ++ shown k ++ pd ++ tl ++ b2).length ≤ 60) : LineJ rest wa ca L1 g s oc k tl f s'
theorem LineJ.elim {rest : Led} {wa ca L1 : Addr} {g : Heap} {s : Shared} {oc : Obj} {kk : Int} {tl : Str} {k : Flow → Shared → Prop} {Q9 : Flow → Shared → Prop} (hQ : Q9 = fun f s' => LineJ rest wa ca L1 g s oc kk tl f s')
    (h : ∀ (h' : Heap) (tt : Nat) (m' : Str → Option Value) (o' : Obj) (b1 pd b2 : Str) (t1 t2 t3 : Tok), Well ca o' → PadOk tl pd →
      Fr g L1 h' (fun n => if n = ("line" : Str) then some (.str (b1 ++ shown kk ++ pd ++ tl ++ b2) t1) else if n = ("whole_here" : Str) then some (.int kk t2) else if n = ("tail_here" : Str) then some (.str tl t3) else if n = ("well" : Str) then some (.ref wa) else m' n) →
      News g L1 h' ((wa, o') :: (L1 + 1, oc) :: (245, tabObj #[]) :: rest) → b1 ∈ blanks → b2 ∈ blanks → (b1 ++ shown kk ++ pd ++ tl ++ b2).length ≤ 60 → k .next { s with heap := h', toks := tt }) (f : Flow) (s' : Shared) (q9 : Q9 f s') : k f s' := by
  subst hQ
  obtain ⟨h5, tk5, m5, o5, b1, pd, b2, t5, t6, t7, rfl, rfl, hw5, hp, e1, e2, e3, e4, F5, N5, hb1, hb2, hll⟩ := q9
  exact h _ _ _ _ _ _ _ _ _ _ hw5 hp (Fr.known0 (n := ("line" : Str)) (Fr.known0 (n := ("whole_here" : Str)) (Fr.known0 (n := ("tail_here" : Str)) (Fr.known0 (n := ("well" : Str)) F5 e4) e3) e2) e1) N5 hb1 hb2 hll
theorem c_nar_bad (w : World) (news : Led) (x lk : Str) (t tl : Tok) (hx : x.length ≤ 1000) (hl : lk.length ≤ 1000) (hb : narBad (cds x) = true) : Ctr w 148 [.str x t, .str lk tl] news 3 20 (fun _ _ => False) True :=
  (c_nar w news x lk t tl hx hl).mono2 (fun r n h => by
    obtain ⟨i, t1, t2, ad, n', hi, hj, hx, he, hw, _, _⟩ := h
    rcases nar_bad hb ⟨hi, hj, hx⟩ with h | h
    · have he' : (Txt.slice (Txt.strip x) none (some (i : Int)) == Str.ofString "") = false := he
      rw [he'] at h; cases h
    · omega) fun _ => trivial
noncomputable def wrongVs (b : Str) (t1 t2 t3 t4 t5 t6 : Tok) : List Value := [.str b t1, .str (Str.ofString "x 3") t2, .str (Str.ofString "1234567890 a") t3, .str (Str.ofString "-1") t4, .str (Str.ofString "3a") t5, .str (Str.ofString "1-2 x") t6]
theorem wrong_item {b : Str} {t1 t2 t3 t4 t5 t6 : Tok} {v : Value} (hb : b ∈ blanks) (h : v ∈ wrongVs b t1 t2 t3 t4 t5 t6) : ∃ z u, v = .str z u ∧ z.length ≤ 1000 ∧ narBad (cds z) = true := by
  rcases List.mem_cons.mp h with rfl | h
  · exact ⟨_, _, rfl, Nat.le_trans (blanks_chk _ hb).2 (by decide), narBlank_chk _ hb⟩
  · have hS : StrsAre [.str (Str.ofString "x 3") t2, .str (Str.ofString "1234567890 a") t3, .str (Str.ofString "-1") t4, .str (Str.ofString "3a") t5, .str (Str.ofString "1-2 x") t6] narWrong := by
      repeat (first | exact .nil | refine .cons _ _ ?_)
    obtain ⟨z, u, rfl, hz⟩ := memStr hS h
    exact ⟨z, u, rfl, Nat.le_trans (narWrong_chk _ hz).2 (by decide), (narWrong_chk _ hz).1⟩
theorem wrongN {h₀ h : Heap} {L lw : Addr} {b : Str} {t1 t2 t3 t4 t5 t6 : Tok} {q q1 q2 : Addr × Obj} {r : Led} (N : News h₀ L h ((lw, W.listOf #[.str b t1, .str (Str.ofString "x 3") t2, .str (Str.ofString "1234567890 a") t3, .str (Str.ofString "-1") t4, .str (Str.ofString "3a") t5, .str (Str.ofString "1-2 x") t6] 0) :: q :: q1 :: q2 :: r)) (hb : b ∈ blanks) :
    ∃ wvs, (wvs.length = 6 ∧ ∀ v ∈ wvs, ∃ z u, v = .str z u ∧ z.length ≤ 1000 ∧ narBad (cds z) = true) ∧ News h₀ L h ((lw, W.listOf (List.toArray wvs) 0) :: q :: r) :=
  ⟨wrongVs b t1 t2 t3 t4 t5 t6, ⟨rfl, fun v hv => wrong_item hb hv⟩, fun x hx => by
    rcases List.mem_cons.mp hx with rfl | hx
    · exact N _ (.head _)
    rcases List.mem_cons.mp hx with rfl | hx
    · exact N _ (.tail _ (.head _))
    exact N _ (.tail _ (.tail _ (.tail _ (.tail _ hx))))⟩
theorem strsHead {vs : List Value} {a : Str} {l : List Str} (h : StrsAre vs (a :: l)) : ∃ t vs', vs = .str a t :: vs' ∧ StrsAre vs' l := by
  cases h with
  | cons _ t h => exact ⟨t, _, rfl, h⟩
theorem strsNil {vs : List Value} (h : StrsAre vs []) : vs = [] := by
  cases h with
  | nil => rfl
theorem intsHead {vs : List Value} {a : Int} {l : List Int} (h : IntsAre vs (a :: l)) : ∃ t vs', vs = .int a t :: vs' ∧ IntsAre vs' l := by
  cases h with
  | cons _ t h => exact ⟨t, _, rfl, h⟩
theorem intsNil {vs : List Value} (h : IntsAre vs []) : vs = [] := by
  cases h with
  | nil => rfl
theorem strs_five {vs : List Value} {a : Str} (h : StrsAre vs (List.replicate 5 a)) : ∃ t0 t1 t2 t3 t4, vs = [.str a t0, .str a t1, .str a t2, .str a t3, .str a t4] := by
  obtain ⟨t0, v0, rfl, h0⟩ := strsHead h
  obtain ⟨t1, v1, rfl, h1⟩ := strsHead h0
  obtain ⟨t2, v2, rfl, h2⟩ := strsHead h1
  obtain ⟨t3, v3, rfl, h3⟩ := strsHead h2
  obtain ⟨t4, v4, rfl, h4⟩ := strsHead h3
  rw [strsNil h4]
  exact ⟨t0, t1, t2, t3, t4, rfl⟩
theorem strs_six {vs : List Value} {a : Str} (h : StrsAre vs (List.replicate 6 a)) : ∃ t0 t1 t2 t3 t4 t5, vs = [.str a t0, .str a t1, .str a t2, .str a t3, .str a t4, .str a t5] := by
  obtain ⟨t0, v0, rfl, h0⟩ := strsHead h
  obtain ⟨t1, t2, t3, t4, t5, rfl⟩ := strs_five h0
  exact ⟨t0, t1, t2, t3, t4, t5, rfl⟩
noncomputable def CntIs (z : Str) (k : Int) : Prop := (if Txt.strip z == Str.ofString "" then 1 else wholeOf (Txt.strip z)) = k ∧ ((Txt.strip z == Str.ofString "") = true ∨ 0 ≤ wholeOf (Txt.strip z))
theorem c_cnt (w : World) (news : Led) (x : Str) (t : Tok) (k : Int) (hx : x.length ≤ 1000) (h : CntIs x k) : Ctr w 155 [.str x t] news 3 20 (fun r n => ∃ t', r = .int k t' ∧ n = news) False :=
  (c_count_of w news x t hx).mono2 (fun r n h' => by
    obtain ⟨⟨t', rfl⟩, _, rfl⟩ := h'
    exact ⟨t', congrArg (Value.int · t') h.1, rfl⟩) (fun e => by
    obtain ⟨e1, e2⟩ := e
    rcases h.2 with h2 | h2
    · have h2' : (Txt.strip x == Str.ofString "") = false := e1
      rw [h2] at h2'; cases h2'
    · omega)
theorem ck_cnt (w : World) (news : Led) (x : Str) (t : Tok) (k : Int) (hx : x.length ≤ 1000) (h : CntIs x k) : Ctr w 155 [.str x t] news 3 20 (KOk fun Z9 => ∀ t', Z9 (.int k t') news) False :=
  (c_cnt w news x t k hx h).mono fun _ _ h Z9 hk => by
    obtain ⟨t', rfl, rfl⟩ := h
    exact hk t'
theorem c_hcnt (w : World) (news : Led) (x : Str) (t : Tok) (hx : x.length ≤ 1000) (h : (Txt.strip x == Str.ofString "") = false ∧ wholeOf (Txt.strip x) < 0) : CtrS w 200 [.ref 155, .str x t] news 5 40 (fun r n => ∃ t', r = .str (Str.ofString "refused") t' ∧ n = news) :=
  (c_heard w 155 x t news 3 20 _ _ (c_count_of w news x t hx) (Kept.ofK rfl)).mono fun r n h' => by
    rcases h' with ⟨_, h2 | h2, _⟩ | ⟨_, rfl, t', rfl⟩
    · have h2' : (Txt.strip x == Str.ofString "") = true := h2
      rw [h.1] at h2'; cases h2'
    · omega
    · exact ⟨t', rfl, rfl⟩
theorem ck_hcnt (w : World) (news : Led) (x : Str) (t : Tok) (hx : x.length ≤ 1000) (h : (Txt.strip x == Str.ofString "") = false ∧ wholeOf (Txt.strip x) < 0) : CtrS w 200 [.ref 155, .str x t] news 5 40 (KOk fun Z9 => ∀ t', Z9 (.str (Str.ofString "refused") t') news) :=
  (c_hcnt w news x t hx h).mono fun _ _ h Z9 hk => by
    obtain ⟨t', rfl, rfl⟩ := h
    exact hk t'
theorem cnt_items {b : Str} {k : Int} {t1 t2 t3 : Tok} {i : Nat} {v : Value} (hb : b ∈ blanks) (hk : k ∈ wholes) (h : ([.str b t1, .str (b ++ Str.ofString "0" ++ b) t2, .str (shown k ++ b) t3] : List Value)[i]? = some v) :
    ∃ z u c, v = .str z u ∧ z.length ≤ 1000 ∧ CntIs z c ∧ ([1, 0, k] : List Int)[i]? = some c := by
  have hl := (blanks_chk _ hb).2
  match i, h with
  | 0, h =>
    obtain rfl := Option.some.inj h
    refine ⟨_, _, 1, rfl, by omega, ?_, rfl⟩
    unfold CntIs
    rw [cnt_blank hb]
    decide
  | 1, h =>
    obtain rfl := Option.some.inj h
    refine ⟨_, _, 0, rfl, ?_, ?_, rfl⟩
    · have : (Str.ofString "0").length = 1 := by decide
      rw [alen, alen]; omega
    unfold CntIs
    rw [cnt_zero hb]
    decide +kernel
  | 2, h =>
    obtain rfl := Option.some.inj h
    obtain ⟨w1, _, w3, _, _, _, w7, w8⟩ := wholes_chk k hk
    refine ⟨_, _, k, rfl, ?_, ?_, rfl⟩
    · rw [alen]; omega
    unfold CntIs
    rw [cnt_whole hb hk, w7, w8]
    exact ⟨rfl, .inr w1⟩
theorem intsTake {ys : List Value} {ns : List Int} {i : Nat} {k : Int} {t : Tok} (h : IntsAre ys (ns.take i)) (e : ns[i]? = some k) : IntsAre (ys ++ [.int k t]) (ns.take (i + 1)) := by
  obtain ⟨hi, e⟩ := List.getElem?_eq_some_iff.mp e
  rw [List.take_succ_eq_append_getElem hi, e]
  exact intsSnoc h
theorem cntN {h₀ h : Heap} {L D : Addr} {b : Str} {k : Int} {t1 t2 t3 : Tok} {r : Led} (N : News h₀ L h ((D, { cls := Value.type "tuple", data := Data.seq #[.str b t1, .str (b ++ Str.ofString "0" ++ b) t2, .str (Str.ofString (toString k) ++ b) t3] }) :: r)) (hb : b ∈ blanks) (hk : k ∈ wholes) :
    ∃ ta vs, ta = D ∧ (vs.length = 3 ∧ ∀ (i : Nat) (v : Value), vs[i]? = some v → ∃ z u c, v = .str z u ∧ z.length ≤ 1000 ∧ CntIs z c ∧ ([1, 0, k] : List Int)[i]? = some c) ∧ News h₀ L h ((D, tupO vs) :: r) :=
  ⟨D, [.str b t1, .str (b ++ Str.ofString "0" ++ b) t2, .str (shown k ++ b) t3], rfl, ⟨rfl, fun i v h => cnt_items hb hk h⟩, N⟩
theorem ints_three {vs : List Value} {a b c : Int} (h : IntsAre vs [a, b, c]) : ∃ t u v, vs = [.int a t, .int b u, .int c v] := by
  obtain ⟨t, v0, rfl, h0⟩ := intsHead h
  obtain ⟨u, v1, rfl, h1⟩ := intsHead h0
  obtain ⟨v, v2, rfl, h2⟩ := intsHead h1
  rw [intsNil h2]
  exact ⟨t, u, v, rfl⟩
theorem cnt5N {h₀ h : Heap} {L D : Addr} {t1 t2 t3 t4 t5 : Tok} {r : Led} (N : News h₀ L h ((D, { cls := Value.type "tuple", data := Data.seq #[.str (Str.ofString "x") t1, .str (Str.ofString "-1") t2, .str (Str.ofString "1 2") t3, .str (Str.ofString "1234567890") t4, .str (Str.ofString "0x2") t5] }) :: r)) :
    ∃ ta vs, ta = D ∧ (vs.length = 5 ∧ ∀ v ∈ vs, ∃ z u, v = .str z u ∧ z ∈ cntWrong) ∧ News h₀ L h ((D, tupO vs) :: r) :=
  ⟨D, [.str (Str.ofString "x") t1, .str (Str.ofString "-1") t2, .str (Str.ofString "1 2") t3, .str (Str.ofString "1234567890") t4, .str (Str.ofString "0x2") t5], rfl, ⟨rfl, fun v h => memStr (by repeat (first | exact .nil | refine .cons _ _ ?_)) h⟩, N⟩
inductive NumJ (rest : Led) (wa ca L1 : Addr) (i : Nat) (m : Str → Option Value) (nx : Led) : Prop
  | mk (o' oc : Obj) (text : Str) (da : Addr) (vs : List Value) (ns : List Int) (kk : Nat) (t1 : Tok) (cv : Option Value) (hw : Well ca o') (hc : oc.data = .cell cv) (hcw : isW oc = false) (hnx : nx = (wa, o') :: (da, W.listOf vs.toArray kk) :: (L1 + 1, oc) :: (245, tabObj #[]) :: rest) (hns : NumsIs text ns)
      (hl : text.length ≤ 2 + 40 * i) (hl2 : ns.length ≤ 4 * i) (hI : IntsAre vs ns) (e1 : m ("text" : Str) = some (.str text t1)) (e2 : m ("due" : Str) = some (.ref da)) (e3 : m ("well" : Str) = some (.ref wa)) : NumJ rest wa ca L1 i m nx
@[elab_as_elim] theorem cntElim {h₀ h : Heap} {L D : Addr} {b : Str} {k : Int} {t1 t2 t3 : Tok} {r : Led} {G : Addr → Prop} (N : News h₀ L h ((D, { cls := Value.type "tuple", data := Data.seq #[.str b t1, .str (b ++ Str.ofString "0" ++ b) t2, .str (Str.ofString (toString k) ++ b) t3] }) :: r)) (hb : b ∈ blanks) (hk : k ∈ wholes)
    (q : ∀ ta vs, vs.length = 3 → (∀ (i : Nat) (v : Value), vs[i]? = some v → ∃ z u, v = .str z u ∧ z.length ≤ 1000 ∧ ∃ c, CntIs z c ∧ ([1, 0, k] : List Int)[i]? = some c) → News h₀ L h ((ta, tupO vs) :: r) → G ta) : G D := by
  obtain ⟨ta, vs, rfl, ⟨h1, h2⟩, N7⟩ := cntN N hb hk
  exact q _ vs h1 (fun i v hv => by obtain ⟨z, u, c, e, e1, e2, e3⟩ := h2 i v hv; exact ⟨z, u, e, e1, c, e2, e3⟩) N7
@[elab_as_elim] theorem cnt5Elim {h₀ h : Heap} {L D : Addr} {t1 t2 t3 t4 t5 : Tok} {r : Led} {G : Addr → Prop} (N : News h₀ L h ((D, { cls := Value.type "tuple", data := Data.seq #[.str (Str.ofString "x") t1, .str (Str.ofString "-1") t2, .str (Str.ofString "1 2") t3, .str (Str.ofString "1234567890") t4, .str (Str.ofString "0x2") t5] }) :: r))
    (q : ∀ ta vs, vs.length = 5 → (∀ v ∈ vs, ∃ z u, v = .str z u ∧ z ∈ cntWrong) → News h₀ L h ((ta, tupO vs) :: r) → G ta) : G D := by
  obtain ⟨ta, vs, rfl, ⟨h1, h2⟩, N7⟩ := cnt5N N
  exact q _ vs h1 h2 N7
theorem wrongElim {h₀ h : Heap} {L lw : Addr} {b : Str} {t1 t2 t3 t4 t5 t6 : Tok} {q q1 q2 : Addr × Obj} {r : Led} {G : Prop} (N : News h₀ L h ((lw, W.listOf #[.str b t1, .str (Str.ofString "x 3") t2, .str (Str.ofString "1234567890 a") t3, .str (Str.ofString "-1") t4, .str (Str.ofString "3a") t5, .str (Str.ofString "1-2 x") t6] 0) :: q :: q1 :: q2 :: r)) (hb : b ∈ blanks)
    (k : ∀ wvs, wvs.length = 6 → (∀ v ∈ wvs, ∃ z u, v = .str z u ∧ z.length ≤ 1000 ∧ narBad (cds z) = true) → News h₀ L h ((lw, W.listOf (List.toArray wvs) 0) :: q :: r) → G) : G := by
  obtain ⟨wvs, ⟨h1, h2⟩, N6⟩ := wrongN N hb
  exact k wvs h1 h2 N6
@[elab_as_elim] theorem sixElim {vs : List Value} {a : Str} {G : List Value → Prop} (h : StrsAre vs (List.replicate 6 a)) (q : ∀ t0 t1 t2 t3 t4 t5, G [.str a t0, .str a t1, .str a t2, .str a t3, .str a t4, .str a t5]) : G vs := by
  obtain ⟨t0, t1, t2, t3, t4, t5, rfl⟩ := strs_six h
  exact q t0 t1 t2 t3 t4 t5
@[elab_as_elim] theorem fiveElim {vs : List Value} {a : Str} {G : List Value → Prop} (h : StrsAre vs (List.replicate 5 a)) (q : ∀ t0 t1 t2 t3 t4, G [.str a t0, .str a t1, .str a t2, .str a t3, .str a t4]) : G vs := by
  obtain ⟨t0, t1, t2, t3, t4, rfl⟩ := strs_five h
  exact q t0 t1 t2 t3 t4
@[elab_as_elim] theorem threeElim {vs : List Value} {a b c : Int} {G : List Value → Prop} (h : IntsAre vs [a, b, c]) (q : ∀ t u v, G [.int a t, .int b u, .int c v]) : G vs := by
  obtain ⟨t, u, v, rfl⟩ := ints_three h
  exact q t u v
@[elab_as_elim] theorem intElim {ns : List Int} {i : Nat} {v : Value} {G : Value → Prop} (h : ∃ k u, v = .int k u ∧ ns[i]? = some k) (q : ∀ k u, ns[i]? = some k → G (.int k u)) : G v := by
  obtain ⟨k, u, rfl, hk⟩ := h
  exact q k u hk
section
set_option maxHeartbeats 8000000
theorem c_numbers_right (w : World) (rest : Led) (wa ca : Addr) (o : Obj) (hw : Well ca o) (hn : NoW wa rest) (hc : CellsIn rest ca) (hT : NoT 245 rest) :
    CtrS w 248 [.ref wa] ((wa, o) :: (245, tabObj #[]) :: rest) 8 200 (fun r n => ∃ o' ps, r = .bool true ∧ Well ca o' ∧ n = (wa, o') :: (245, tabObj ps) :: rest) := by
  intro loose mean mg mb dp un gd cn cs a ccd cl outer A₀ base h₀ L m s Q E B F X N T D hk hd hu hret
  k_with_none
  refine wpAny_call ?_
  k_dflt (refine' enterTC ?k1 ?k2 ?k3 ?k4 ?k5 ?kDD ?kA ?kF ?kK ?k6 ?k7 ?k8 ?k9 ?kB ?kD ?_ ?c2 ?c3 ?c4; (case kA => exact rfl); (case kF => exact rfl); (case kK => assumption); (case k1 => assumption); (case k2 => assumption); (case k3 => assumption); (case k4 => assumption); (case k5 => assumption); (case kDD => assumption); (case k6 => k_is); (case k7 => k_is); (case k8 => ktr_room); (case k9 => exact BindsTo.of_eq rfl); (case kB => exact rfl); (case kD => decide +kernel); (case c2 => exact rfl); (case c3 => exact rfl); (case c4 => exact rfl); k_whole)
  intro g1 L1 h1 tk1 cells1 F1 N1 Y1 B1 X1 T1 D1 l1
  have T0 : KtsTurn (fsOf (envX cn cs L a ccd cl :: outer)) g1 g1 := KtsTurn.refl
  (try k_lt l1); k_cells Y1; (try simp only [List.cons_append, List.nil_append] at N1)
  clear F N D
  dsimp only
  k_unmd
  k_fold
  replace F1 : Fr g1 L1 h1 (fun y => if y = ("well" : Str) then some (Value.ref wa) else none) := F1
  (rename Obj => oc); (rename oc.data = _ => hoc)
  have hcw : isW oc = false := by unfold isW; rw [hoc]
  k_with "LeaveT" => (refine Stop.out ?_)
  k_with "pyIter ref" => (refine Stop.out ?_)
  k_with "call ref" => (k_here; k_dflt (refine' Ctr.useK (ck_draw _ _ _ _ _ _ _  ?hw ?hn ?hc  ?kp ?kq) ?B ?F ?X (Pull.news ?P ?N) ?T ?hk ?hd ?hu ?_ (fun f => f.elim); (case B => k_asm); (case F => k_asm); (case X => k_asm); (case N => k_asm); (case T => k_asm); (case hk => first | exact rfl | assumption); (case hd => ktr_room); (case hu => ktr_units); (case P => repeat (first | exact Pull.head | apply Pull.tail)); (case hw => assumption); (case hn => repeat (first | assumption | exact NoW.nil | exact NoW.off (by assumption) (.head _) | refine NoW.append ?_ ?_ | refine NoW.cons (by first | exact rfl | assumption | exact isW_strs (by assumption) rfl) ?_)); (case hc => repeat (first | assumption | refine CellsIn.left ?_ | refine CellsIn.cons ?_)); (case kp => omega); (case kq => omega)); intro j9 t9 o9 hj1 hw9 h9 tk9 F9 N9; (try dsimp only); (try k_sweep))
  k_with "call ref" => (k_here; k_dflt (refine' Ctr.useK (ck_blanks2 _ _ _ _ _  ?hw ?hn ?hc ) ?B ?F ?X (Pull.news ?P ?N) ?T ?hk ?hd ?hu ?_ (fun f => f.elim); (case B => k_asm); (case F => k_asm); (case X => k_asm); (case N => k_asm); (case T => k_asm); (case hk => first | exact rfl | assumption); (case hd => ktr_room); (case hu => ktr_units); (case P => repeat (first | exact Pull.head | apply Pull.tail)); (case hw => assumption); (case hn => repeat (first | assumption | exact NoW.nil | exact NoW.off (by assumption) (.head _) | refine NoW.append ?_ ?_ | refine NoW.cons (by first | exact rfl | assumption | exact isW_strs (by assumption) rfl) ?_)); (case hc => repeat (first | assumption | refine CellsIn.left ?_ | refine CellsIn.cons ?_)); skip); intro b9 t9 o9 hb9 hbl9 hw9 h9 tk9 F9 N9; (try dsimp only); (try k_sweep))
  k_steps
  refine Stop.in ?_
  (rename IsRange _ _ _ _ _ _ _ _ => hr)
  (rename News _ _ _ _ => NN); (rename Fr _ _ _ _ => FF)
  (try dsimp only)
  refine iter_rangeG (NumJ rest wa ca L1) rfl hr (by omega) FF (news := _ :: (_, W.listOf #[] 0) :: _ :: _ :: _) (newsPick NN (by repeat (first | exact List.Mem.head _ | apply List.Mem.tail)) (fun x hx => by repeat (first | exact hx | apply List.Mem.tail))) ?hj ?turn ?done
  case hj => exact .mk _ _ _ _ [] [] _ _ _ hw9 hoc hcw rfl (nums_start hb9) (by omega) (Nat.zero_le _) .nil rfl rfl rfl
  case turn =>
    -- DEV(
    clear NN FF hr
    repeat (rename News _ _ _ _ => N2; clear N2)
    repeat (rename Fr _ _ _ _ => F2; clear F2)
    rintro i u m₁ nx h4 tk4 own hi hoff ⟨o4, oc4, text, da, vs, ns, kk, t1, cv, hw4, hoc4, hcw4, rfl, hns, hl, hl2, hI, e1, e2, e3⟩ F4 N4
    replace F4 : Fr g1 L1 h4 _ := F4
    replace F4 := Fr.known (n := ("text" : Str)) (Fr.known (n := ("due" : Str)) (Fr.known (n := ("well" : Str)) F4 e3) e2) e1
    replace N4 : News _ _ _ ((wa, o4) :: (da, W.listOf vs.toArray kk) :: (L1 + 1, oc4) :: (245, tabObj #[]) :: (rest ++ own)) := N4
    have hdw := isW_ints (n := kk) hI
    have hdc : isCell (W.listOf vs.toArray kk) = false := rfl
    have hrc : NoC (L1 + 1) (rest ++ own) := .append (.lt l1.2.2) (.off hoff (.tail _ (.tail _ (.head _))))
    k_with "storeName" => (k_here; (with_reducible show wpAny _ _ (storeName _ "low" _) _ _ _); k_dflt (refine' storeCell (c := L1 + 1) ?zF ?zN ?zP ?zd ?zn ?zc ?zk ?zx ?_; (case zF => k_asm); (case zN => k_asm); (case zP => repeat (first | exact Pull.head | apply Pull.tail)); (case zd => assumption); (case zn => repeat (first | exact hrc | assumption | refine NoC.cons (by first | exact rfl | assumption | exact isCell_well (by assumption)) ?_)); (case zc => rfl); (case zk => rfl); (case zx => rfl)); intro h' oc9 F' N' hoc9; (have hcw9 := isW_cell hoc9); (try dsimp only); (try k_sweep))
    k_with "call ref" => (k_here; k_dflt (refine' Ctr.useK (ck_pickIN _ _ _ _ _ _ _ lows 999999998  ?hw ?hn ?hc  ?ht ?hI ?l0 ?l1 ?hN) ?B ?F ?X (Pull.news ?P ?N) ?T ?hk ?hd ?hu ?_ (fun f => f.elim); (case B => k_asm); (case F => k_asm); (case X => k_asm); (case N => k_asm); (case T => k_asm); (case hk => first | exact rfl | assumption); (case hd => ktr_room); (case hu => ktr_units); (case P => repeat (first | exact Pull.head | apply Pull.tail)); (case hw => assumption); (case hn => repeat (first | assumption | exact NoW.nil | exact NoW.off (by assumption) (.head _) | refine NoW.append ?_ ?_ | refine NoW.cons (by first | exact rfl | assumption | exact isW_strs (by assumption) rfl) ?_)); (case hc => repeat (first | assumption | refine CellsIn.left ?_ | refine CellsIn.cons ?_)); (case ht => exact .inl (by k_mem)); (case hI => repeat (first| exact .nil| refine .cons _ _ ?_)); (case l0 => decide); (case l1 => decide); (case hN => decide)); intro k9 t9 o9 hk9 hka9 hkb9 hw9 h9 tk9 F9 N9; (try dsimp only); (try k_sweep))
    k_with "exec Assign cons IfExp" => ((fail_if_success (have inq9 : InCut := by assumption)); refine Stop.out ?_)
    k_steps
    refine Stop.in ?_
    have hch := words_chk k9 hk9 _ (j4 (by omega : j9 < 4))
    have hs1 := hch.1
    have hs2 := hch.2.2.2.2.1
    (rename News _ _ _ _ => NN); (rename Fr _ _ _ _ => FF)
    replace NN : News g1 L1 _ ((wa, o9) :: (da, W.listOf vs.toArray kk) :: (L1 + 1, oc9) :: (245, tabObj #[]) :: (rest ++ own)) := fun q hq => NN q (by
      rcases List.mem_cons.mp hq with rfl | hq
      · repeat (first | exact List.Mem.head _ | apply List.Mem.tail)
      rcases List.mem_cons.mp hq with rfl | hq
      · repeat (first | exact List.Mem.head _ | apply List.Mem.tail)
      rcases List.mem_cons.mp hq with rfl | hq
      · repeat (first | exact List.Mem.head _ | apply List.Mem.tail)
      repeat (first | exact hq | apply List.Mem.tail))
    obtain ⟨Q9, hQ9⟩ : ∃ Q9 : Flow → Shared → Prop, Q9 = fun f s' => WordJ rest own wa ca da L1 g1 s k9 j9 text (W.listOf vs.toArray kk) f s' := ⟨_, rfl⟩
    refine wpAny_mono (Q := Q9) ?one ?nx (fun _ _ e => e)
    case one =>
      have inq : InCut := ⟨⟩
      k_steps
      · (rename ((_ : Nat) : Int) = 0 => h0)
        (rename News _ _ _ _ => NN); (rename Fr _ _ _ _ => FF)
        have ew : wordOf k9 j9 = Str.ofString (toString k9) := by unfold wordOf shown; rw [if_pos (by omega)]
        rw [hQ9]
        exact .mk _ _ _ _ _ _ _ _ rfl rfl (by assumption) (by assumption) (by exact rfl) (by exact rfl) (by exact rfl) (by rw [ew]; exact rfl) ⟨_, by exact rfl⟩ FF NN
      · (rename ((_ : Nat) : Int) ≠ 0 => h0)
        (rename News _ _ _ _ => NN); (rename Fr _ _ _ _ => FF)
        have ew : wordOf k9 j9 = Str.ofString (toString k9) ++ Str.ofString "-" ++ Str.ofString (toString (k9 + (j9 : Int) - 1)) := by unfold wordOf shown; rw [if_neg (by omega)]
        rw [hQ9]
        exact .mk _ _ _ _ _ _ _ _ rfl rfl (by assumption) (by assumption) (by exact rfl) (by exact rfl) (by exact rfl) (by rw [ew]; exact rfl) ⟨_, by exact rfl⟩ FF NN
    case nx =>
      repeat (rename News _ _ _ _ => N2; clear N2)
      repeat (rename Fr _ _ _ _ => F2; clear F2)
      refine WordJ.elim hQ9 ?_
      clear hQ9 Q9
      intro h5 tk5 m5 o5 oc5 t5 t6 t7 t8 hw5 hoc5 F5 N5
      have hcw5 := isW_cell hoc5
      have htl : text.length ≤ 162 := by omega
      have hwl := hch.2.1
      have hbig : (10 : Int) ^ 8 = 100000000 := by decide
      k_with "exec Assign cons BinOp" => ((fail_if_success (have inq9 : InCut := by assumption)); refine Stop.out ?_)
      k_steps
      refine Stop.in ?_
      obtain ⟨Q9, hQ9⟩ : ∃ Q9 : Flow → Shared → Prop, Q9 = fun f s' => TextJ rest own wa ca da L1 g1 s k9 j9 text (W.listOf vs.toArray kk) f s' := ⟨_, rfl⟩
      refine wpAny_mono (Q := Q9) ?one2 ?nx2 (fun _ _ e => e)
      case one2 =>
        have inq : InCut := ⟨⟩
        k_with "call ref" => (k_here; k_dflt (refine' Ctr.useK (ck_pickIN _ _ _ _ _ _ _ [0, 0, 1] 1  ?hw ?hn ?hc  ?ht ?hI ?l0 ?l1 ?hN) ?B ?F ?X (Pull.news ?P ?N) ?T ?hk ?hd ?hu ?_ (fun f => f.elim); (case B => k_asm); (case F => k_asm); (case X => k_asm); (case N => k_asm); (case T => k_asm); (case hk => first | exact rfl | assumption); (case hd => ktr_room); (case hu => ktr_units); (case P => repeat (first | exact Pull.head | apply Pull.tail)); (case hw => assumption); (case hn => repeat (first | assumption | exact NoW.nil | exact NoW.off (by assumption) (.head _) | refine NoW.append ?_ ?_ | refine NoW.cons (by first | exact rfl | assumption | exact isW_strs (by assumption) rfl) ?_)); (case hc => repeat (first | assumption | refine CellsIn.left ?_ | refine CellsIn.cons ?_)); (case ht => exact .inl (by k_mem)); (case hI => repeat (first| exact .nil| refine .cons _ _ ?_)); (case l0 => decide); (case l1 => decide); (case hN => decide)); intro z9 t9 o9 hz9 hza9 hzb9 hw9 h9 tk9 F9 N9; (try dsimp only); (try k_sweep))
        k_with "call ref" => (k_here; k_dflt (refine' Ctr.useK (ck_pickIN _ _ _ _ _ _ _ [0, 0, 0] 1  ?hw ?hn ?hc  ?ht ?hI ?l0 ?l1 ?hN) ?B ?F ?X (Pull.news ?P ?N) ?T ?hk ?hd ?hu ?_ (fun f => f.elim); (case B => k_asm); (case F => k_asm); (case X => k_asm); (case N => k_asm); (case T => k_asm); (case hk => first | exact rfl | assumption); (case hd => ktr_room); (case hu => ktr_units); (case P => repeat (first | exact Pull.head | apply Pull.tail)); (case hw => assumption); (case hn => repeat (first | assumption | exact NoW.nil | exact NoW.off (by assumption) (.head _) | refine NoW.append ?_ ?_ | refine NoW.cons (by first | exact rfl | assumption | exact isW_strs (by assumption) rfl) ?_)); (case hc => repeat (first | assumption | refine CellsIn.left ?_ | refine CellsIn.cons ?_)); (case ht => exact .inl (by k_mem)); (case hI => repeat (first| exact .nil| refine .cons _ _ ?_)); (case l0 => decide); (case l1 => decide); (case hN => decide)); intro z9 t9 o9 hz9 hza9 hzb9 hw9 h9 tk9 F9 N9; (try dsimp only); (try k_sweep))
        k_with "call ref" => (k_here; k_dflt (refine' Ctr.useK (ck_pickTN _ _ _ _ _ _ _ wides 3  ?hw ?hn ?hc  ?ht ?hS ?l0 ?l1 ?hN) ?B ?F ?X (Pull.news ?P ?N) ?T ?hk ?hd ?hu ?_ (fun f => f.elim); (case B => k_asm); (case F => k_asm); (case X => k_asm); (case N => k_asm); (case T => k_asm); (case hk => first | exact rfl | assumption); (case hd => ktr_room); (case hu => ktr_units); (case P => repeat (first | exact Pull.head | apply Pull.tail)); (case hw => assumption); (case hn => repeat (first | assumption | exact NoW.nil | exact NoW.off (by assumption) (.head _) | refine NoW.append ?_ ?_ | refine NoW.cons (by first | exact rfl | assumption | exact isW_strs (by assumption) rfl) ?_)); (case hc => repeat (first | assumption | refine CellsIn.left ?_ | refine CellsIn.cons ?_)); (case ht => exact .inl (by k_mem)); (case hS => repeat (first| exact .nil| refine .cons _ _ ?_)); (case l0 => decide); (case l1 => decide); (case hN => exact fun y hy => (wides_chk y hy).2)); intro e9 t9 o9 he9 hle9 hw9 h9 tk9 F9 N9; (try dsimp only); (try k_sweep))
        k_steps
        · (rename k9 < _ => hlt)
          have e8 : (10 : Int) ^ Int.toNat 8 = 100000000 := by decide
          (rename News _ _ _ _ => NN); (rename Fr _ _ _ _ => FF)
          rw [hQ9]
          exact .mk _ _ _ _ _ _ _ _ _ _ rfl rfl (by assumption) (by assumption) (zeros_a hz9 (by omega)) he9 (by exact rfl) (by exact rfl) (by exact rfl) (by exact rfl) FF (newsPick NN (by repeat (first | exact List.Mem.head _ | apply List.Mem.tail)) (fun x hx => by repeat (first | exact hx | apply List.Mem.tail)))
        · (rename News _ _ _ _ => NN); (rename Fr _ _ _ _ => FF)
          rw [hQ9]
          exact .mk _ _ _ _ _ _ _ _ _ _ rfl rfl (by assumption) (by assumption) (zeros_b hz9) he9 (by exact rfl) (by exact rfl) (by exact rfl) (by exact rfl) FF (newsPick NN (by repeat (first | exact List.Mem.head _ | apply List.Mem.tail)) (fun x hx => by repeat (first | exact hx | apply List.Mem.tail)))
      case nx2 =>
        repeat (rename News _ _ _ _ => N2; clear N2)
        repeat (rename Fr _ _ _ _ => F2; clear F2)
        refine TextJ.elim hQ9 ?_
        clear hQ9 Q9
        intro h5 tk5 m5 o5 oc5 z g t5 t6 t7 hw5 hoc5 hz hg F5 N5
        have inq : InCut := ⟨⟩
        k_steps
        (rename News _ _ _ _ => NN); (rename Fr _ _ _ _ => FF)
        (rename IntsAre _ (ns ++ _) => hI2)
        (rename _ < _ ∧ wa < _ ∧ _ => hlt2)
        have hlt3 := hlt2.2.2.2.2.2
        rw [piece_eq] at hI2
        refine InvEndG.intro FF NN (.mk _ _ _ _ _ _ 0 _ _ hw5 hoc5 (isW_cell hoc5) rfl (nums_step hns hk9 (by omega) hz hg) ?ln ?ln2 hI2 (by exact rfl) (by exact rfl) (by exact rfl)) ?off ?sub ?own
        case sub =>
          intro q hq
          rcases List.mem_cons.mp hq with rfl | hq
          · repeat (first | exact List.Mem.head _ | apply List.Mem.tail)
          rcases List.mem_cons.mp hq with rfl | hq
          · exact .head _
          rcases List.mem_cons.mp hq with rfl | hq
          · repeat (first | exact List.Mem.head _ | apply List.Mem.tail)
          rcases List.mem_cons.mp hq with rfl | hq
          · repeat (first | exact List.Mem.head _ | apply List.Mem.tail)
          exact .tail _ (.tail _ (.tail _ (.tail _ (.tail _ (.tail _ (List.mem_append_left _ hq))))))
        case own => exact fun q hq => .tail _ (.tail _ (.tail _ (.tail _ (.tail _ (.tail _ (List.mem_append_right _ hq))))))
        case off =>
          intro q hq b hb
          rcases List.mem_cons.mp hb with rfl | hb
          · exact hoff q hq _ (.head _)
          rcases List.mem_cons.mp hb with rfl | hb
          · exact Nat.ne_of_lt (allLt_mem hlt3 q (List.mem_append_right _ hq))
          rcases List.mem_cons.mp hb with rfl | hb
          · exact hoff q hq _ (.tail _ (.tail _ (.head _)))
          exact hoff q hq _ (.tail _ (.tail _ (.tail _ hb)))
        case ln =>
          rw [alen, alen, alen]
          have e1 := zeros_len hz
          have e2 := (wides_chk _ hg).2
          omega
        case ln2 =>
          rw [List.length_append]
          have := hch.2.2.2.1
          omega
    -- DEV)
  case done =>
    clear NN FF hr
    repeat (rename News _ _ _ _ => N2; clear N2)
    repeat (rename Fr _ _ _ _ => F2; clear F2)
    rintro m₁ nx h4 tk4 ⟨o4, oc4, text, da, vs, ns, kk, t1, cv, hw4, hoc4, hcw4, rfl, hns, hl, hl2, hI, e1, e2, e3⟩ F4 N4
    replace F4 := Fr.known0 (n := ("text" : Str)) (Fr.known0 (n := ("due" : Str)) (Fr.known0 (n := ("well" : Str)) F4 e3) e2) e1
    replace F4 : Fr g1 L1 h4 _ := F4
    replace N4 : News g1 L1 h4 _ := N4
    have hdw := isW_ints (n := kk) hI
    have hnl : ns.length ≤ 16 := by omega
    k_with "eval ListComp" => (refine Stop.out ?_)
    k_steps
    refine Stop.in ?_
    refine' compE (L := L1) (m := mOf F4) ?h1 ?h2 ?h3 ?h4 ?h5 ?h6 ?h7 ?hs
    case h1 => exact rfl
    case h2 => exact rfl
    case h3 => decide
    case h4 => exact rfl
    case h5 => decide
    case h6 => exact rfl
    case hs => intro _; exact rfl
    case h7 =>
      unfold mOf
      k_steps
      (all_goals (try k_data))
      refine CompJ.stay (h₀ := g1) (news := (wa, o4) :: (da, W.listOf vs.toArray kk) :: (L1 + 1, oc4) :: (245, tabObj #[]) :: rest) (fun i ys => IntsAre ys ((ns.take i).filter fun k => decide (999999999 < k))) (.lst _ _) (.tail _ (.head _)) ?len F4 N4 .nil ?turn2 ?fin
      case len => (rw [hI.length, sizeLine_eq]; omega)
      case turn2 =>
        clear F4 N4
        repeat (rename News _ _ _ _ => N2; clear N2)
        repeat (rename Fr _ _ _ _ => F2; clear F2)
        intro i v ys h3 tk3 oI oC I C D m2 E3 hv hys hoC
        have hvi := intsGet hI hv
        refine intElim hvi fun z u hz hm2 F3 N3 hap => ?_
        clear hvi
        have I3 := hoC.ns (N3 _ (.tail _ (.head _))).1
        k_steps
        · (rename 999999999 < z => hlt); (rename News g1 _ _ _ => N7); (rename Fr g1 _ _ _ => F7)
          refine TEnd.stay F7 N7 hap ?_
          rw [takeFilterI hz, if_pos (decide_eq_true hlt)]
          exact intsSnoc hys
        · (rename ¬ 999999999 < z => hlt); (rename News g1 _ _ _ => N7); (rename Fr g1 _ _ _ => F7)
          refine TEnd.stay F7 N7 hap ?_
          rw [takeFilterI hz, if_neg (by rw [decide_eq_false hlt]; exact Bool.false_ne_true), List.append_nil]
          exact hys
      case fin =>
        clear F4 N4
        repeat (rename News _ _ _ _ => N2; clear N2)
        repeat (rename Fr _ _ _ _ => F2; clear F2)
        intro D ys hys hne h3 tk3 F3 N3
        rw [List.take_of_length_le (by rw [hI.length]; exact Nat.le_refl _)] at hys
        k_with "compareOp NotEq ref ref" => (k_here; k_dflt (refine' ne_nil ?N ?u ?_; (case N => k_asm); (case u => ktr_units)))
        k_steps
        · have htb : tooBig ns = false := by
            first
              | (rename ys.isEmpty = true => hem; exact big_none hys hem)
              | (rename decide _ = true => hem; exact big_none2 hem)
          have htl : text.length ≤ 202 := by omega
          (rename News _ _ _ _ => NN); (rename Fr _ _ _ _ => FF)
          replace NN : News g1 L1 _ ((wa, o4) :: (da, W.listOf vs.toArray kk) :: (L1 + 1, oc4) :: (245, tabObj #[]) :: rest) := newsTl (newsTl NN)
          k_with "call ref" => (k_here; k_dflt (refine' Ctr.useK (ck_nums _ _ _ _ _ (by omega) (nums_good hns htb)) ?B ?F ?X ?N ?T ?hk ?hd ?hu ?_ (fun f => f.elim); (case B => k_asm); (case F => k_asm); (case X => k_asm); (case N => k_asm); (case T => k_asm); (case hk => first | exact rfl | assumption); (case hd => ktr_room); (case hu => ktr_units)); intro fa vf kf hIf hfw h9 tk9 F9 N9; try dsimp only)
          k_with "call ref" => (k_here; k_dflt (refine' Ctr.useK (ck_pickTN _ _ _ _ _ _ _ oddNums 10  ?hw ?hn ?hc  ?ht ?hS ?l0 ?l1 ?hN) ?B ?F ?X (Pull.news ?P ?N) ?T ?hk ?hd ?hu ?_ (fun f => f.elim); (case B => k_asm); (case F => k_asm); (case X => k_asm); (case N => k_asm); (case T => k_asm); (case hk => first | exact rfl | assumption); (case hd => ktr_room); (case hu => ktr_units); (case P => repeat (first | exact Pull.head | apply Pull.tail)); (case hw => assumption); (case hn => repeat (first | assumption | exact NoW.nil | exact NoW.off (by assumption) (.head _) | refine NoW.append ?_ ?_ | refine NoW.cons (by first | exact rfl | assumption | exact isW_strs (by assumption) rfl) ?_)); (case hc => repeat (first | assumption | refine CellsIn.left ?_ | refine CellsIn.cons ?_)); (case ht => exact .inl (by k_mem)); (case hS => repeat (first| exact .nil| refine .cons _ _ ?_)); (case l0 => decide); (case l1 => decide); (case hN => exact fun y hy => (oddNums_chk y hy).2.2.1)); intro q9 t9 o9 hq9 hlq9 hw9 h9 tk9 F9 N9; (try dsimp only); (try k_sweep))
          have hsp1 : (Str.ofString " ").length = 1 := by decide
          k_with "call ref" => (k_here; k_dflt (refine' CtrS.useK (ck_hnums _ _ _ _ (by omega) (nums_odd hns hq9)) ?B ?F ?X ?N ?T ?D ?hk ?hd ?hu ?_; (case B => k_asm); (case F => k_asm); (case X => assumption); (case N => k_asm); (case T => assumption); (case D => assumption); (case hk => first | exact rfl | assumption); (case hd => ktr_room); (case hu => ktr_units)); intro tz9 g9 h9 tk9 T9 F9 N9 B9 D9; clear B1 X1 T1 D1; have X1 := Frag.In.keeps X B9.stays; have T1 := Top.keeps T B9.stays; have B1 := B9; have D1 := D9; clear B9 D9; replace T0 := KtsTurn.trans T0 T9; clear T9; (try dsimp only))
          k_with "call ref" => (k_here; k_dflt (refine' Ctr.useK (ck_pickIN _ _ _ _ _ _ _ wholes 999999999  ?hw ?hn ?hc  ?ht ?hI ?l0 ?l1 ?hN) ?B ?F ?X (Pull.news ?P ?N) ?T ?hk ?hd ?hu ?_ (fun f => f.elim); (case B => k_asm); (case F => k_asm); (case X => k_asm); (case N => k_asm); (case T => k_asm); (case hk => first | exact rfl | assumption); (case hd => ktr_room); (case hu => ktr_units); (case P => repeat (first | exact Pull.head | apply Pull.tail)); (case hw => assumption); (case hn => repeat (first | assumption | exact NoW.nil | exact NoW.off (by assumption) (.head _) | refine NoW.append ?_ ?_ | refine NoW.cons (by first | exact rfl | assumption | exact isW_strs (by assumption) rfl) ?_)); (case hc => repeat (first | assumption | refine CellsIn.left ?_ | refine CellsIn.cons ?_)); (case ht => exact .inl (by k_mem)); (case hI => repeat (first| exact .nil| refine .cons _ _ ?_)); (case l0 => decide); (case l1 => decide); (case hN => decide)); intro k9 t9 o9 hk9 hka9 hkb9 hw9 h9 tk9 F9 N9; (try dsimp only); (try k_sweep))
          k_with "call ref" => (k_here; k_dflt (refine' Ctr.useK (ck_pickTN _ _ _ _ _ _ _ rests 20  ?hw ?hn ?hc  ?ht ?hS ?l0 ?l1 ?hN) ?B ?F ?X (Pull.news ?P ?N) ?T ?hk ?hd ?hu ?_ (fun f => f.elim); (case B => k_asm); (case F => k_asm); (case X => k_asm); (case N => k_asm); (case T => k_asm); (case hk => first | exact rfl | assumption); (case hd => ktr_room); (case hu => ktr_units); (case P => repeat (first | exact Pull.head | apply Pull.tail)); (case hw => assumption); (case hn => repeat (first | assumption | exact NoW.nil | exact NoW.off (by assumption) (.head _) | refine NoW.append ?_ ?_ | refine NoW.cons (by first | exact rfl | assumption | exact isW_strs (by assumption) rfl) ?_)); (case hc => repeat (first | assumption | refine CellsIn.left ?_ | refine CellsIn.cons ?_)); (case ht => exact restsTup _ _); (case hS => exact strsFrom_are _ _); (case l0 => decide); (case l1 => decide); (case hN => exact fun y hy => (rests_chk y hy).2.2.1)); intro z9 t9 o9 hz9 hzl9 hw9 h9 tk9 F9 N9; (try dsimp only); (try k_sweep))
          k_with "exec Assign cons BinOp" => ((fail_if_success (have inq9 : InCut := by assumption)); refine Stop.out ?_)
          k_steps
          refine Stop.in ?_
          have hks := (wholes_chk k9 hk9).2.2.1
          repeat (rename _ ≤ _ ∧ _ => hh9; clear hh9)
          (rename News _ _ _ _ => N5); (rename Fr _ _ _ _ => F5)
          replace N5 : News _ L1 _ ((wa, o9) :: (L1 + 1, oc4) :: (245, tabObj #[]) :: rest) := fun q hq => N5 q (by
            rcases List.mem_cons.mp hq with rfl | hq
            · repeat (first | exact List.Mem.head _ | apply List.Mem.tail)
            repeat (first | exact hq | apply List.Mem.tail))
          obtain ⟨Q9, hQ9⟩ : ∃ Q9 : Flow → Shared → Prop, Q9 = fun f s' => LineJ rest wa ca L1 g9 s oc4 k9 z9 f s' := ⟨_, rfl⟩
          refine wpAny_mono (Q := Q9) ?one3 ?nx3 (fun _ _ e => e)
          case one3 =>
            -- DEV(
            have inq : InCut := ⟨⟩
            have hks' : (Str.ofString (toString k9)).length ≤ 9 := hks
            have hnil9 : (Str.ofString "").length = 0 := rfl
            repeat (rename _ < _ ∧ _ => hh9; clear hh9)
            clear hns hl hl2 hys htb htl hsp1 hlq9 hnl
            k_with "call ref" => (k_here; k_dflt (refine' Ctr.useK (ck_pickTN _ _ _ _ _ _ _ pads 3  ?hw ?hn ?hc  ?ht ?hS ?l0 ?l1 ?hN) ?B ?F ?X (Pull.news ?P ?N) ?T ?hk ?hd ?hu ?_ (fun f => f.elim); (case B => k_asm); (case F => k_asm); (case X => k_asm); (case N => k_asm); (case T => k_asm); (case hk => first | exact rfl | assumption); (case hd => ktr_room); (case hu => ktr_units); (case P => repeat (first | exact Pull.head | apply Pull.tail)); (case hw => assumption); (case hn => repeat (first | assumption | exact NoW.nil | exact NoW.off (by assumption) (.head _) | refine NoW.append ?_ ?_ | refine NoW.cons (by first | exact rfl | assumption | exact isW_strs (by assumption) rfl) ?_)); (case hc => repeat (first | assumption | refine CellsIn.left ?_ | refine CellsIn.cons ?_)); (case ht => exact .inl (by k_mem)); (case hS => repeat (first| exact .nil| refine .cons _ _ ?_)); (case l0 => decide); (case l1 => decide); (case hN => exact fun y hy => pads_len y hy)); intro d9 t9 o9 hd9 hld9 hw9 h9 tk9 F9 N9; (try dsimp only); (try k_sweep))
            k_steps
            · (rename (_ != _) = true => h0)
              (rename News _ _ _ _ => NN); (rename Fr _ _ _ _ => FF)
              rw [hQ9]
              exact .mk _ _ _ _ _ _ _ _ _ _ rfl rfl (by assumption) (.inl ⟨fun e => absurd (str_of_cds (e.trans nil_cds.symm)) (by simpa using h0), by assumption⟩) (by exact rfl) (by exact rfl) (by exact rfl) (by exact rfl) FF (newsPick NN (by repeat (first | exact List.Mem.head _ | apply List.Mem.tail)) (fun x hx => by repeat (first | exact hx | apply List.Mem.tail))) (by assumption) (by assumption) (by unfold shown; (try (have := hnil9)); omega)
            · (rename (_ != _) = false => h0)
              (rename News _ _ _ _ => NN); (rename Fr _ _ _ _ => FF)
              rw [hQ9]
              exact .mk _ _ _ _ _ _ _ _ _ _ rfl rfl (by assumption) (.inr ⟨by simpa using h0, rfl⟩) (by exact rfl) (by exact rfl) (by exact rfl) (by exact rfl) FF (newsPick NN (by repeat (first | exact List.Mem.head _ | apply List.Mem.tail)) (fun x hx => by repeat (first | exact hx | apply List.Mem.tail))) (by assumption) (by assumption) (by unfold shown; (try (have := hnil9)); omega)
            -- DEV)
          case nx3 =>
            repeat (rename News _ _ _ _ => N2; clear N2)
            repeat (rename Fr _ _ _ _ => F2; clear F2)
            refine LineJ.elim hQ9 ?_
            clear hQ9 Q9
            intro h5 tk5 m5 o5 b1 pd b2 t5 t6 t7 hw5 hp F5 N5 hb1 hb2 hll
            have inq : InCut := ⟨⟩
            repeat (rename _ < _ ∧ _ => hh9; clear hh9)
            repeat (rename _ ≤ _ ∧ _ => hh9; clear hh9)
            clear hns hl hl2 hys htb htl hsp1 hlq9 hnl
            k_with "call ref" => (k_here; k_dflt (refine' Ctr.useK (ck_nar_line _ _ _ _ hb1 hb2 hk9 hz9 hp (by omega) (by decide)) ?B ?F ?X ?N ?T ?hk ?hd ?hu ?_ (fun f => f.elim); (case B => k_asm); (case F => k_asm); (case X => k_asm); (case N => k_asm); (case T => k_asm); (case hk => first | exact rfl | assumption); (case hd => ktr_room); (case hu => ktr_units)); intro ad8 t1 t2 h9 tk9 F9 N9; try dsimp only)
            have hok1 := rests_ok _ hz9
            k_with "compareOp NotEq ref ref" => (refine ne_dataH (by ke_read) (by ke_read) (by simp [SeqAt.shaped, PyData.canLay0, PyData.canLayAll0, PyData.depth, PyData.depthAll, hok1]) (by simp [SeqAt.shaped, PyData.canLay0, PyData.canLayAll0, PyData.depth, PyData.depthAll, hok1]) (by ke_room) ?_; ke_norm)
            k_steps
            refine Stop.in ?_
            (rename News _ _ _ _ => N5); (rename Fr _ _ _ _ => F5)
            rename_i lw hx1w l1w h9w
            clear l1w
            obtain ⟨gB, hgB⟩ : ∃ gB, gB = g1 := ⟨_, rfl⟩
            rw [← hgB] at T0
            repeat (rename _ < _ ∧ _ => hh9; clear hh9)
            refine wrongElim N5 hb9 fun wvs hwl hwv N6 => ?_
            clear N5
            refine' compE (L := L1) (m := mOf F5) ?i1 ?i2 ?i3 ?i4 ?i5 ?i6 ?i7 ?is
            case i1 => exact rfl
            case i2 => exact rfl
            case i3 => decide
            case i4 => exact rfl
            case i5 => decide
            case i6 => exact rfl
            case is => intro _; exact rfl
            case i7 =>
              unfold mOf
              k_steps
              (all_goals (try k_data))
              refine .mk g9 _ _ _ ((lw, W.listOf (List.toArray wvs) 0) :: (wa, o9) :: (L1 + 1, oc4) :: (245, tabObj #[]) :: rest) (HeardJ (ktrTop dp un gd cn cs L a ccd cl outer) base gB (envX cn cs L a ccd cl :: outer) (lw, W.listOf (List.toArray wvs) 0) (wa, o9) rest 245 ⟨225, 19, 225, 61⟩ ("_law_numbers_right.<locals>." : Str)) rfl (.lst _ _) (.head _) (fun i ys g nw e => e.hm1) ?len3 F5 N6 ⟨B1, D1, T0, .nil, .head _, .tail _ (.head _), (fun q hq => .tail _ (.tail _ (.tail _ (.tail _ hq)))), ?st3⟩ ?turn3 ?fin3
              case len3 => (rw [hwl, sizeLine_eq]; decide)
              case st3 => exact .inl (.tail _ (.tail _ (.tail _ (.head _))))
              case turn3 =>
                clear N6 F5
                repeat (rename News _ _ _ _ => N2; clear N2)
                repeat (rename Fr _ _ _ _ => F2; clear F2)
                clear B1 X1 T1 D1 T0
                intro i v ys g nw h3 tk3 oI oC I C D m2 E3 hv hJ hoC
                have B1 := hJ.B
                have D1 := hJ.D
                have X1 := Frag.In.keeps X B1.stays
                have T1 := Top.keeps T B1.stays
                refine strElim (v := v) (P := fun z => z.length ≤ 1000 ∧ narBad (cds z) = true) (hwv v (List.mem_of_getElem? hv)) fun z u hz hm2 F3 N3 hap => ?_
                have I3 := hoC.ns (N3 _ (.tail _ (.head _))).1
                have ht0 := hJ.htab.mem
                have hst := hJ.st (oI := oI) (oC := oC) (oD := LCg.lst ys) hap
                refine wpAny_tests_nil ?_
                k_steps
                refine lamBoth F3 N3 hst ?nt T1 (code248 X1) rfl rfl ?hf rfl rfl (fun f c' oc vs t ctv h4 tk4 F4 N4 hoc hvs hoffc => ?_)
                case nt => exact .off (Ne.symm (hap.off 245 ht0).1) (.off (Ne.symm (hap.off 245 ht0).2.1) (.cons rfl (.cons rfl (.cons (isTab_well hw9) hT))))
                case hf => exact fun _ => ⟨True.intro, rfl⟩
                have I4 := hoC.ns (N4 _ (.tail _ (.tail _ (.tail _ (.tail _ (.head _)))))).1
                clear I3 N3 F3
                k_steps
                have CL : Ctr w f [.str z u] _ 4 40 (fun _ _ => False) True := lamCtr N4 (binds := [(("each" : Str), .str z u)]) (.head _) (.tail _ (.head _)) hoc hvs rfl (locs rfl) rfl rfl rfl (by decide) (by decide) ?hev
                case hev =>
                  intro loose mean mg mb dp un gd cn cs a ccd cl outer A₀ base h₀ L m s Q E B X T hk hd hu hret herr g1 L1 h1 FG F1 N1 B1 X1 T1
                  k_with "call ref" => (k_here; k_dflt (refine' Ctr.use (c_nar_bad _ _ _ _ _ _ hz.1 (by decide) hz.2) ?B ?F ?X ?N ?T ?hk ?hd ?hu ?_ ?_; (case B => k_asm); (case F => k_asm); (case X => k_asm); (case N => k_asm); (case T => k_asm); (case hk => first | exact rfl | assumption); (case hd => ktr_room); (case hu => ktr_units)); rotate_left; (intro _ e9 t9 vs9 g9 h9 tk9 FG9 R9 RK9 U9; refine Passed.out ?_); rotate_right; (intro r9 n9 h9 tk9 ok9 F9 N9; obtain okF := ok9; try dsimp only))
                  k_steps
                  · (rename False => okF); exact okF.elim
                  · refine Passed.in ?_
                    refine frLeaveOn B1 FG9 R9 U9 fun h2 R2 RK2 U2 => ?_
                    exact herr trivial _ _ _ g1 _ _ FG R2 RK2 U2
                refine CtrS.useK (ck_heardF w f z u _ 4 40 _ CL (Kept.fn (.head _))) B1 F4 X N4 T D1 rfl ?hd ?hu ?_
                case hd => ktr_room
                case hu => ktr_units
                intro t9 g9' h9 tk9 T9 F9 N9 B9 D9
                exact heardEnd hJ F9 N9 T9 B9 D9 hoc hvs hoffc hap
              case fin3 =>
                clear N6 F5
                repeat (rename News _ _ _ _ => N2; clear N2)
                repeat (rename Fr _ _ _ _ => F2; clear F2)
                clear B1 X1 T1 D1 T0
                intro D ys g nw hJ hne h3 tk3 F3
                have B1 := hJ.B
                have D1 := hJ.D
                have T0 := hJ.T
                have X1 := Frag.In.keeps X B1.stays
                have T1 := Top.keeps T B1.stays
                have hys := hJ.hys
                rw [hwl] at hys
                intro N3
                obtain ⟨ps, NW⟩ := hJ.back N3
                clear N3 hJ
                revert NW
                refine sixElim (vs := ys) hys fun a0 a1 a2 a3 a4 a5 NW => ?_
                clear hys
                have hokr : PyData.strOk (Str.ofString "refused") = true := by decide +kernel
                k_with "compareOp NotEq ref ref" => (refine Stop.out ?_)
                k_with "binaryOp Mult ref int" => (k_here; k_dflt (refine' KMa.mul ?F ?N ?l ?lo ?hi ?z ?e ?_; (case F => k_asm); (case N => k_asm); (case l => exact News.isList (by k_asm) (List.Mem.head _)); (case lo => decide); (case hi => decide); (case z => exact Nat.le_of_ble_eq_true rfl); (case e => (simp only [Int.reduceToNat, List.replicate_succ, List.replicate_zero, List.flatten_cons, List.flatten_nil, List.cons_append, List.nil_append, List.append_nil]; first | done | exact rfl))); intro D' h' F' N' l1; (try k_lt l1); (try k_sweep))
                k_steps
                refine Stop.in ?_
                refine ne_dataH (by ke_read) (by ke_read) (by simp [SeqAt.shaped, PyData.canLay0, PyData.canLayAll0, PyData.depth, PyData.depthAll, hokr]) (by simp [SeqAt.shaped, PyData.canLay0, PyData.canLayAll0, PyData.depth, PyData.depthAll, hokr]) (by ke_room) ?_
                ke_norm
                (rename News _ _ _ _ => N5); (rename Fr _ _ _ _ => F5)
                replace N5 : News g L1 _ ((wa, o9) :: (245, tabObj ps) :: rest) := fun q hq => N5 q (.tail _ (.tail _ (.tail _ hq)))
                (try clear NW); (try clear F3)
                have hks' : (Str.ofString (toString k9)).length ≤ 9 := hks
                have hz1 : (Str.ofString "0").length = 1 := by decide
                k_with "exec Assign cons ListComp" => (refine Stop.out ?_)
                k_steps
                refine Stop.in ?_
                (rename News _ _ _ _ => N5); (rename Fr _ _ _ _ => F5)
                refine' compA (m := mOf F5) ?j1 ?j2 ?j3 ?j4 ?j5 ?j6 ?j7 ?j8 ?j9 ?j10 ?j11 ?js
                case j1 => exact rfl
                case j2 => exact rfl
                case j3 => exact rfl
                case j4 => exact rfl
                case j5 => decide
                case j6 => exact rfl
                case j7 => decide
                case j8 => exact rfl
                case j9 => exact rfl
                case j10 => exact rfl
                case js => intro _; exact rfl
                case j11 =>
                  unfold mOf
                  k_steps
                  (rename News _ _ _ _ => N6); (rename Fr _ _ _ _ => F6)
                  refine cntElim N6 hb9 hk9 fun ta tvs htl htv N7 => ?_
                  clear N6
                  repeat (rename _ < _ ∧ _ => hh9; clear hh9)
                  repeat (rename _ ≤ _ ∧ _ => hh9; clear hh9)
                  refine CompJ.stay (h₀ := g) (news := (ta, tupO tvs) :: (wa, o9) :: (245, tabObj ps) :: rest) (fun i ys => IntsAre ys (([1, 0, k9] : List Int).take i)) (.tup _) (.head _) ?len4 F6 N7 .nil ?turn4 ?fin4
                  case len4 => (rw [htl, sizeLine_eq]; decide)
                  case turn4 =>
                    clear F6 N7
                    repeat (rename News _ _ _ _ => N2; clear N2)
                    repeat (rename Fr _ _ _ _ => F2; clear F2)
                    intro i v ys h3 tk3 oI oC I C D m2 E3 hv hys hoC
                    refine strElim (v := v) (P := fun z => z.length ≤ 1000 ∧ ∃ c, CntIs z c ∧ ([1, 0, k9] : List Int)[i]? = some c) (htv i v hv) fun z u hz hm2 F3 N3 hap => ?_
                    have I3 := hoC.ns (N3 _ (.tail _ (.head _))).1
                    obtain ⟨hzl, c, hzc, hc9⟩ := hz
                    refine wpAny_tests_nil ?_
                    k_with "call ref" => (k_here; k_dflt (refine' Ctr.useK (ck_cnt _ _ _ _ _ hzl hzc) ?B ?F ?X ?N ?T ?hk ?hd ?hu ?_ (fun f => f.elim); (case B => k_asm); (case F => k_asm); (case X => k_asm); (case N => k_asm); (case T => k_asm); (case hk => first | exact rfl | assumption); (case hd => ktr_room); (case hu => ktr_units)); intro tc9 h9 tk9 F9 N9; try dsimp only)
                    k_steps
                    (rename News _ _ _ _ => NN); (rename Fr _ _ _ _ => FF)
                    exact TEnd.stay FF NN hap (intsTake hys hc9)
                  case fin4 =>
                    clear F6 N7
                    repeat (rename News _ _ _ _ => N2; clear N2)
                    repeat (rename Fr _ _ _ _ => F2; clear F2)
                    intro D ys hys hne h3 tk3 F3
                    rw [htl] at hys
                    replace hys : IntsAre ys [1, 0, k9] := hys
                    refine threeElim (vs := ys) hys fun u1 u2 u3 N3 => ?_
                    clear hys
                    replace F3 : Fr g L1 h3 _ := F3
                    replace N3 : News g L1 h3 ((D, LCg.lst [.int 1 u1, .int 0 u2, .int k9 u3]) :: (wa, o9) :: (245, tabObj ps) :: rest) := fun q hq => by
                      rcases List.mem_cons.mp hq with rfl | hq
                      · exact N3 _ (.head _)
                      exact N3 _ (.tail _ (.tail _ hq))
                    k_steps
                    refine Stop.in ?_
                    refine ne_dataH (by ke_read) (by ke_read) (by simp [SeqAt.shaped, PyData.canLay0, PyData.canLayAll0, PyData.depth, PyData.depthAll]) (by simp [SeqAt.shaped, PyData.canLay0, PyData.canLayAll0, PyData.depth, PyData.depthAll]) (by ke_room) ?_
                    ke_norm
                    k_steps
                    refine Stop.in ?_
                    (rename News _ _ _ _ => N5); (rename Fr _ _ _ _ => F5)
                    replace N5 : News g L1 _ ((wa, o9) :: (245, tabObj ps) :: rest) := fun q hq => N5 q (.tail _ (.tail _ hq))
                    (try clear N3); (try clear F3)
                    refine' compE (L := L1) (m := mOf F5) ?l1 ?l2 ?l3 ?l4 ?l5 ?l6 ?l7 ?ls
                    case l1 => exact rfl
                    case l2 => exact rfl
                    case l3 => decide
                    case l4 => exact rfl
                    case l5 => decide
                    case l6 => exact rfl
                    case ls => intro _; exact rfl
                    case l7 =>
                      unfold mOf
                      k_steps
                      (rename News _ _ _ _ => N6); (rename Fr _ _ _ _ => F6)
                      refine cnt5Elim N6 fun tb wvs5 htl5 htw N7 => ?_
                      clear N6
                      refine .mk g _ _ _ ((tb, tupO wvs5) :: (wa, o9) :: (245, tabObj ps) :: rest) (HeardK (ktrTop dp un gd cn cs L a ccd cl outer) base gB (envX cn cs L a ccd cl :: outer) ((tb, tupO wvs5) :: (wa, o9) :: (245, tabObj ps) :: rest)) rfl (.tup _) (.head _) (fun i ys g nw e => e.hs _ (.head _)) ?len5 F6 N7 ⟨B1, D1, T0, .nil, fun _ h => h⟩ ?turn5 ?fin5
                      case len5 => (rw [htl5, sizeLine_eq]; decide)
                      case turn5 =>
                        clear F6 N7
                        repeat (rename News _ _ _ _ => N2; clear N2)
                        repeat (rename Fr _ _ _ _ => F2; clear F2)
                        clear B1 X1 T1 D1 T0
                        intro i v ys g nw h3 tk3 oI oC I C D m2 E3 hv hJ hoC
                        have B1 := hJ.B
                        have D1 := hJ.D
                        have T0 := hJ.T
                        have X1 := Frag.In.keeps X B1.stays
                        have T1 := Top.keeps T B1.stays
                        refine strElim (v := v) (P := fun z => z ∈ cntWrong) (htw v (List.mem_of_getElem? hv)) fun z u hz hm2 F3 N3' hap => ?_
                        have N3 := hJ.news N3'
                        clear N3'
                        have I3 := hoC.ns (N3 _ (.tail _ (.head _))).1
                        refine wpAny_tests_nil ?_
                        k_with "call ref" => (k_here; k_dflt (refine' CtrS.useK (ck_hcnt _ _ _ _ (Nat.le_trans (cntWrong_chk _ hz).2.2.2 (by decide)) (cnt_wrong hz)) ?B ?F ?X ?N ?T ?D ?hk ?hd ?hu ?_; (case B => k_asm); (case F => k_asm); (case X => assumption); (case N => k_asm); (case T => assumption); (case D => assumption); (case hk => first | exact rfl | assumption); (case hd => ktr_room); (case hu => ktr_units)); intro tz9 g9 h9 tk9 T9 F9 N9 B9 D9; clear B1 X1 T1 D1; have X1 := Frag.In.keeps X B9.stays; have T1 := Top.keeps T B9.stays; have B1 := B9; have D1 := D9; clear B9 D9; replace T0 := KtsTurn.trans T0 T9; clear T9; (try dsimp only))
                        k_steps
                        (rename News _ _ _ _ => NN); (rename Fr _ _ _ _ => FF)
                        exact hJ.end FF NN T0 B1 D1 hap
                      case fin5 =>
                        clear F6 N7
                        repeat (rename News _ _ _ _ => N2; clear N2)
                        repeat (rename Fr _ _ _ _ => F2; clear F2)
                        clear B1 X1 T1 D1 T0
                        intro D ys g nw hJ hne h3 tk3 F3
                        have B1 := hJ.B
                        have D1 := hJ.D
                        have T0 := hJ.T
                        have X1 := Frag.In.keeps X B1.stays
                        have T1 := Top.keeps T B1.stays
                        have hys := hJ.hys
                        rw [htl5] at hys
                        intro N3'
                        have N3 := hJ.news1 N3'
                        clear N3' hJ
                        revert N3
                        refine fiveElim (vs := ys) hys fun a6 a7 a8 a9 aa N3 => ?_
                        clear hys
                        k_with "compareOp Eq ref ref" => (refine Stop.out ?_)
                        k_steps
                        refine Stop.in ?_
                        refine eq_dataH (by ke_read) (by ke_read) (by simp [SeqAt.shaped, PyData.canLay0, PyData.canLayAll0, PyData.depth, PyData.depthAll, hokr]) (by simp [SeqAt.shaped, PyData.canLay0, PyData.canLayAll0, PyData.depth, PyData.depthAll, hokr]) (by ke_room) ?_
                        ke_norm
                        k_steps
                        refine Stop.in ?_
                        (rename News _ _ _ _ => NN); (rename Fr _ _ _ _ => FF)
                        exact ⟨_, L1, _, (wa, o9) :: (245, tabObj ps) :: rest, hgB ▸ T0, FF, (fun q hq => NN q (.tail _ (.tail _ (.tail _ (.tail _ hq))))), fun h0' a b c d e => hret _ _ _ _ _ ⟨_, ps, rfl, by assumption, rfl⟩ a b c d e⟩
        · have htb : tooBig ns = true := by
            first
              | (rename ys.isEmpty = false => hem; exact big_some hys hem)
              | (rename decide _ = false => hem; exact big_some2 hem)
          have htl : text.length ≤ 202 := by omega
          (rename News _ _ _ _ => NN); (rename Fr _ _ _ _ => FF)
          k_with "call ref" => (k_here; k_dflt (refine' CtrS.useK (ck_hnums _ _ _ _ (by omega) (nums_bad hns htb)) ?B ?F ?X ?N ?T ?D ?hk ?hd ?hu ?_; (case B => k_asm); (case F => k_asm); (case X => assumption); (case N => k_asm); (case T => assumption); (case D => assumption); (case hk => first | exact rfl | assumption); (case hd => ktr_room); (case hu => ktr_units)); intro tz9 g9 h9 tk9 T9 F9 N9 B9 D9; clear B1 X1 T1 D1; have X1 := Frag.In.keeps X B9.stays; have T1 := Top.keeps T B9.stays; have B1 := B9; have D1 := D9; clear B9 D9; replace T0 := KtsTurn.trans T0 T9; clear T9; (try dsimp only))
          k_steps
          refine Stop.in ?_
          (rename News _ _ _ _ => NN); (rename Fr _ _ _ _ => FF)
          exact ⟨_, L1, _, (wa, o4) :: (245, tabObj #[]) :: rest, T0, FF, fun q hq => NN q (by
            rcases List.mem_cons.mp hq with rfl | hq
            · repeat (first | exact List.Mem.head _ | apply List.Mem.tail)
            · repeat (first | exact hq | apply List.Mem.tail)), fun h0' a b c d e => hret _ _ _ _ _ ⟨_, _, congrArg Value.bool (beq_self_eq_true _), hw4, rfl⟩ a b c d e⟩
end

end Mine
set_option Elab.async false
set_option maxRecDepth 100000
set_option maxHeartbeats 2000000
set_option compiler.extract_closed false
namespace Mine
local macro_rules | `(tactic| walk_at $s:str) => `(tactic| k_extra $s)
theorem fillP23 : r = r ∧ K = K := by k_fill; exact ⟨rfl, rfl⟩
noncomputable def partsA : List Addr := [236, 229, 243, 248, 236]
theorem CtrS.perm {w : World} {f : Addr} {vs : List Value} {news news' : Led} {dD dU : Nat} {Ok Ok' : Value → Led → Prop} (C : CtrS w f vs news dD dU Ok) (h : ∀ q ∈ news, q ∈ news') (ho : ∀ r n, Ok r n → ∃ n', Ok' r n' ∧ ∀ x ∈ n', x ∈ n) : CtrS w f vs news' dD dU Ok' := by
  intro loose mean mg mb dp un gd cn cs a ccd cl outer A₀ base h₀ L m s Q E B F X N T D hk hd hu hret
  exact C loose mean mg mb dp un gd cn cs a ccd cl outer A₀ base h₀ L m s Q E B F X (fun q hq => N q (h q hq)) T D hk hd hu fun r n h₀' h' tk o T' F' N' B' D' => by
    obtain ⟨n', o', hs⟩ := ho r n o
    exact hret r n' h₀' h' tk o' T' F' (fun x hx => N' x (hs x hx)) B' D'
/-- the two tables of codes, and when each is still empty -/
noncomputable abbrev tabL (p1 p2 : Array Value) (R : Led) : Led := (226, tabObj p1) :: (245, tabObj p2) :: R
noncomputable def TabOk (i : Nat) (p1 p2 : Array Value) : Prop := (i ≤ 1 → p1 = #[]) ∧ (i ≤ 3 → p2 = #[])
theorem c_part (w : World) (R : Led) (wa ca : Addr) (o : Obj) (p1 p2 : Array Value) (hw : Well ca o) (hn : NoW wa R) (hc : CellsIn R ca) (h1 : NoT 226 R) (h2 : NoT 245 R) (i : Nat) (hp : TabOk i p1 p2) (f : Addr) (hf : partsA[i]? = some f) :
    CtrS w f [.ref wa] ((wa, o) :: tabL p1 p2 R) 8 200 (fun r n => ∃ o' q1 q2, r = .bool true ∧ Well ca o' ∧ TabOk (i + 1) q1 q2 ∧ n = (wa, o') :: tabL q1 q2 R) := by
  have tt : ∀ {P : Addr} {ps : Array Value} {l : Led}, NoW wa l → NoW wa ((P, tabObj ps) :: l) := fun h => .cons rfl h
  have hn2 : NoW wa (tabL p1 p2 R) := tt (tt hn)
  have hc2 : CellsIn (tabL p1 p2 R) ca := hc.cons.cons
  match i, hf, hp with
  | 0, hf, hp =>
    obtain rfl := Option.some.inj hf
    exact (c_line_right w _ wa ca o hw hn2 hc2).mono fun r n ⟨o', e1, e2, e3⟩ => ⟨o', p1, p2, e1, e2, ⟨fun _ => hp.1 (by decide), fun _ => hp.2 (by decide)⟩, e3⟩
  | 1, hf, hp =>
    obtain rfl := Option.some.inj hf
    obtain rfl := hp.1 (by decide)
    exact (c_form_right w ((245, tabObj p2) :: R) wa ca o hw (tt hn) hc.cons (.off (show (245 : Nat) ≠ 226 by decide) h1)).mono fun r n ⟨o', ps, e1, e2, e3⟩ => ⟨o', ps, p2, e1, e2, ⟨fun h => absurd h (by decide), fun _ => hp.2 (by decide)⟩, e3⟩
  | 2, hf, hp =>
    obtain rfl := Option.some.inj hf
    exact (c_place_right w _ wa ca o hw hn2 hc2).mono fun r n ⟨o', e1, e2, e3⟩ => ⟨o', p1, p2, e1, e2, ⟨fun h => absurd h (by decide), fun _ => hp.2 (by decide)⟩, e3⟩
  | 3, hf, hp =>
    obtain rfl := Option.some.inj hf
    obtain rfl := hp.2 (by decide)
    refine (c_numbers_right w ((226, tabObj p1) :: R) wa ca o hw (tt hn) hc.cons (.off (show (226 : Nat) ≠ 245 by decide) h2)).perm (fun q hq => ?_) fun r n ⟨o', ps, e1, e2, e3⟩ => ⟨_, ⟨o', p1, ps, e1, e2, ⟨fun h => absurd h (by decide), fun h => absurd h (by decide)⟩, rfl⟩, fun x hx => ?_⟩
    · simp only [tabL, List.mem_cons] at hq ⊢
      rcases hq with h | h | h | h <;> simp [h]
    · subst e3
      simp only [tabL, List.mem_cons] at hx ⊢
      rcases hx with h | h | h | h <;> simp [h]
  | 4, hf, hp =>
    obtain rfl := Option.some.inj hf
    exact (c_line_right w _ wa ca o hw hn2 hc2).mono fun r n ⟨o', e1, e2, e3⟩ => ⟨o', p1, p2, e1, e2, ⟨fun h => absurd h (by decide), fun h => absurd h (by decide)⟩, e3⟩
theorem ck_part (w : World) (R : Led) (wa ca : Addr) (o : Obj) (p1 p2 : Array Value) (hw : Well ca o) (hn : NoW wa R) (hc : CellsIn R ca) (h1 : NoT 226 R) (h2 : NoT 245 R) (i : Nat) (hp : TabOk i p1 p2) (f : Addr) (hf : partsA[i]? = some f) :
    CtrS w f [.ref wa] ((wa, o) :: tabL p1 p2 R) 8 200 (KOk fun Z9 => ∀ o' q1 q2, Well ca o' → TabOk (i + 1) q1 q2 → Z9 (.bool true) ((wa, o') :: tabL q1 q2 R)) :=
  (c_part w R wa ca o p1 p2 hw hn hc h1 h2 i hp f hf).mono fun _ _ h Z9 hk => by
    obtain ⟨o', q1, q2, rfl, h1, h2, rfl⟩ := h
    exact hk o' q1 q2 h1 h2
inductive LawJ (wa ca : Addr) (R : Led) (i : Nat) (ys : List Value) : Led → Prop
  | mk (o' : Obj) (p1 p2 : Array Value) (hys : ys = List.replicate i (.bool true)) (hw : Well ca o') (hp : TabOk i p1 p2) : LawJ wa ca R i ys ((wa, o') :: tabL p1 p2 R)
@[elab_as_elim] theorem LawJ.elim {wa ca : Addr} {R : Led} {i : Nat} {ys : List Value} {nw : Led} {G : Led → Prop} (h : LawJ wa ca R i ys nw) (q : ∀ o' p1 p2, ys = List.replicate i (.bool true) → Well ca o' → TabOk i p1 p2 → G ((wa, o') :: tabL p1 p2 R)) : G nw := by
  cases h with
  | mk o' p1 p2 hys hw hp => exact q o' p1 p2 hys hw hp
@[elab_as_elim] theorem refElim {P : Addr → Prop} {v : Value} {G : Value → Prop} (h : ∃ f, v = .ref f ∧ P f) (q : ∀ f, P f → G (.ref f)) : G v := by
  obtain ⟨f, rfl, hf⟩ := h
  exact q f hf
noncomputable def partsV : List Value := [.ref 236, .ref 229, .ref 243, .ref 248, .ref 236]
theorem partsV_get {i : Nat} {v : Value} (h : partsV[i]? = some v) : ∃ f, v = .ref f ∧ partsA[i]? = some f := by
  match i, h with
  | 0, h => exact ⟨236, (Option.some.inj h).symm, rfl⟩
  | 1, h => exact ⟨229, (Option.some.inj h).symm, rfl⟩
  | 2, h => exact ⟨243, (Option.some.inj h).symm, rfl⟩
  | 3, h => exact ⟨248, (Option.some.inj h).symm, rfl⟩
  | 4, h => exact ⟨236, (Option.some.inj h).symm, rfl⟩
/-- what the law's own three objects must be -/
structure LawR (wa pt ca wc : Addr) (oc : Obj) (ys : List Value) : Prop where
  nw : NoW wa [(pt, tupO partsV), (ca, LCg.lst ys), (wc, oc)]
  ci : CellsIn [(pt, tupO partsV), (ca, LCg.lst ys), (wc, oc)] ca
  n1 : NoT 226 [(pt, tupO partsV), (ca, LCg.lst ys), (wc, oc)]
  n2 : NoT 245 [(pt, tupO partsV), (ca, LCg.lst ys), (wc, oc)]
noncomputable abbrev lawL (pt ca wc : Addr) (oc : Obj) (ys : List Value) : Led := [(pt, tupO partsV), (ca, LCg.lst ys), (wc, oc)]
theorem lawN {h₀ h : Heap} {L PT WL CA SL WC : Addr} {ys : List Value} {ns : List Int} {o1 oc : Obj} {t1 t2 : Tok} (N : News h₀ L h [(PT, { cls := Value.type "tuple", data := Data.seq #[.ref 236, .ref 229, .ref 243, .ref 248, .ref 236] }), (WL, W.listOf #[.ref CA, .int 0 t1, .int 104729 t2] 0), (CA, LCg.lst ys), (SL, o1), (WC, oc), (245, tabObj #[]), (226, tabObj #[])])
    (hI : IntsAre ys ((ns.take 48).map fun k => k.fmod 2147483647)) (hoc : oc.data = .cell (some (.ref WL))) (hne : 226 ≠ WC ∧ 245 ≠ WC) :
    ∃ pt wa ca wc, pt = PT ∧ wa = WL ∧ ca = CA ∧ wc = WC ∧ LawR wa pt ca wc oc ys ∧ ∃ nw, LawJ wa ca (lawL pt ca wc oc ys) 0 [] nw ∧ News h₀ L h nw := by
  refine ⟨PT, WL, CA, WC, rfl, rfl, rfl, rfl, ⟨.cons rfl (.cons (isW_ints (n := ys.length) hI) (.cons (isW_cell hoc) .nil)), ⟨ys, _, ys.length, .tail _ (.head _), hI, ?_, ?_⟩, .cons rfl (.cons rfl (.off hne.1.symm .nil)), .cons rfl (.cons rfl (.off hne.2.symm .nil))⟩, _, .mk _ #[] #[] rfl ⟨0, t1, 104729, t2, 0, rfl, by decide, by decide, by decide⟩ ⟨fun _ => rfl, fun _ => rfl⟩, fun q hq => N q ?_⟩
  · rw [List.length_map, List.length_take]; omega
  · intro c hc
    obtain ⟨k, _, rfl⟩ := List.mem_map.mp hc
    exact ⟨Int.fmod_nonneg_of_pos _ (by decide), Int.fmod_lt_of_pos _ (by decide)⟩
  · rcases List.mem_cons.mp hq with rfl | hq
    · exact .tail _ (.head _)
    rcases List.mem_cons.mp hq with rfl | hq
    · exact .tail _ (.tail _ (.tail _ (.tail _ (.tail _ (.tail _ (.head _))))))
    rcases List.mem_cons.mp hq with rfl | hq
    · exact .tail _ (.tail _ (.tail _ (.tail _ (.tail _ (.head _)))))
    rcases List.mem_cons.mp hq with rfl | hq
    · exact .head _
    rcases List.mem_cons.mp hq with rfl | hq
    · exact .tail _ (.tail _ (.head _))
    rcases List.mem_cons.mp hq with rfl | hq
    · exact .tail _ (.tail _ (.tail _ (.tail _ (.head _))))
    cases hq
@[elab_as_elim] theorem lawElim {h₀ h : Heap} {L PT WL CA SL WC : Addr} {ys : List Value} {ns : List Int} {o1 oc : Obj} {t1 t2 : Tok} {G : Addr → Addr → Addr → Addr → Prop} (N : News h₀ L h [(PT, { cls := Value.type "tuple", data := Data.seq #[.ref 236, .ref 229, .ref 243, .ref 248, .ref 236] }), (WL, W.listOf #[.ref CA, .int 0 t1, .int 104729 t2] 0), (CA, LCg.lst ys), (SL, o1), (WC, oc), (245, tabObj #[]), (226, tabObj #[])])
    (hI : IntsAre ys ((ns.take 48).map fun k => k.fmod 2147483647)) (hoc : oc.data = .cell (some (.ref WL))) (hne : 226 ≠ WC ∧ 245 ≠ WC)
    (q : ∀ pt wa ca wc, LawR wa pt ca wc oc ys → ∀ nw, LawJ wa ca (lawL pt ca wc oc ys) 0 [] nw → News h₀ L h nw → G pt wa ca wc) : G PT WL CA WC := by
  obtain ⟨pt, wa, ca, wc, rfl, rfl, rfl, rfl, hR, nw, hJ, N6⟩ := lawN N hI hoc hne
  exact q _ _ _ _ hR nw hJ N6
theorem LawJ.pt {wa pt ca wc : Addr} {oc : Obj} {zs ys : List Value} {i : Nat} {nw : Led} (J : LawJ wa ca (lawL pt ca wc oc zs) i ys nw) : (pt, tupO partsV) ∈ nw := by
  cases J
  exact .tail _ (.tail _ (.tail _ (.head _)))
theorem parts_kept {w : World} {i : Nat} {f : Addr} {news : Led} (h : partsA[i]? = some f) : Kept w f news := by
  match i, h with
  | 0, h => obtain rfl := Option.some.inj h; exact Kept.ofK rfl
  | 1, h => obtain rfl := Option.some.inj h; exact Kept.ofK rfl
  | 2, h => obtain rfl := Option.some.inj h; exact Kept.ofK rfl
  | 3, h => obtain rfl := Option.some.inj h; exact Kept.ofK rfl
  | 4, h => obtain rfl := Option.some.inj h; exact Kept.ofK rfl
noncomputable abbrev turnL (I C D pt ca wc : Addr) (oI oC oc : Obj) (zs ys : List Value) : Led := (I, oI) :: (C, oC) :: (D, LCg.lst zs) :: lawL pt ca wc oc ys
theorem turnR {I C D wa pt ca wc : Addr} {oI oC oc o7 : Obj} {zs ys : List Value} {p1 p2 : Array Value} (hR : LawR wa pt ca wc oc ys) (hap : Apart3 I C D (((wa, o7) :: tabL p1 p2 (lawL pt ca wc oc ys)).map (·.1))) :
    NoW wa (turnL I C D pt ca wc oI oC oc zs ys) ∧ CellsIn (turnL I C D pt ca wc oI oC oc zs ys) ca ∧ NoT 226 (turnL I C D pt ca wc oI oC oc zs ys) ∧ NoT 245 (turnL I C D pt ca wc oI oC oc zs ys) := by
  have hw := hap.off wa (.head _)
  have one : ∀ {q : Addr × Obj} {r : Led}, q.1 ≠ wa → NoW wa r → NoW wa (q :: r) := fun h N x hx => by
    rcases List.mem_cons.mp hx with rfl | hx
    · exact .inr h
    · exact N _ hx
  have ht := hap.off 226 (.tail _ (.head _))
  have hu := hap.off 245 (.tail _ (.tail _ (.head _)))
  exact ⟨one (Ne.symm hw.1) (one (Ne.symm hw.2.1) (one (Ne.symm hw.2.2) hR.nw)), hR.ci.cons.cons.cons, .off (Ne.symm ht.1) (.off (Ne.symm ht.2.1) (.off (Ne.symm ht.2.2) hR.n1)), .off (Ne.symm hu.1) (.off (Ne.symm hu.2.1) (.off (Ne.symm hu.2.2) hR.n2))⟩
theorem swap3 {α : Type} {a b c d e f x : α} {r : List α} (h : x ∈ a :: b :: c :: d :: e :: f :: r) : x ∈ d :: e :: f :: a :: b :: c :: r := by
  rcases List.mem_cons.mp h with rfl | h
  · exact .tail _ (.tail _ (.tail _ (.head _)))
  rcases List.mem_cons.mp h with rfl | h
  · exact .tail _ (.tail _ (.tail _ (.tail _ (.head _))))
  rcases List.mem_cons.mp h with rfl | h
  · exact .tail _ (.tail _ (.tail _ (.tail _ (.tail _ (.head _)))))
  rcases List.mem_cons.mp h with rfl | h
  · exact .head _
  rcases List.mem_cons.mp h with rfl | h
  · exact .tail _ (.head _)
  rcases List.mem_cons.mp h with rfl | h
  · exact .tail _ (.tail _ (.head _))
  exact .tail _ (.tail _ (.tail _ (.tail _ (.tail _ (.tail _ h)))))
theorem turnN {h₀ h : Heap} {L I C D wa pt ca wc : Addr} {oI oC oc o7 : Obj} {zs ys : List Value} {p1 p2 : Array Value} (N : News h₀ L h ((I, oI) :: (C, oC) :: (D, LCg.lst zs) :: (wa, o7) :: tabL p1 p2 (lawL pt ca wc oc ys))) : News h₀ L h ((wa, o7) :: tabL p1 p2 (turnL I C D pt ca wc oI oC oc zs ys)) := fun x hx => N x (swap3 hx)
theorem turnB {h₀ h : Heap} {L I C D wa pt ca wc : Addr} {oI oC oc o7 : Obj} {zs ys : List Value} {p1 p2 : Array Value} (N : News h₀ L h ((wa, o7) :: tabL p1 p2 (turnL I C D pt ca wc oI oC oc zs ys))) : News h₀ L h ((I, oI) :: (C, oC) :: (D, LCg.lst zs) :: (wa, o7) :: tabL p1 p2 (lawL pt ca wc oc ys)) := fun x hx => N x (swap3 hx)
theorem turnO {I C D wa pt ca wc : Addr} {oc o7 o8 : Obj} {ys : List Value} {p1 p2 q1 q2 : Array Value} (hap : Apart3 I C D (((wa, o7) :: tabL p1 p2 (lawL pt ca wc oc ys)).map (·.1))) : ∀ q ∈ (wa, o8) :: tabL q1 q2 (lawL pt ca wc oc ys), q.1 ≠ I ∧ q.1 ≠ C ∧ q.1 ≠ D := fun q hq => hap.off q.1 (by
  have := List.mem_map_of_mem (f := (·.1)) hq
  exact this)
theorem frDown {gh g h h5 : Heap} {L : Addr} {m m5 : Str → Option Value} (F5 : Fr gh L h5 m5) (F : Fr g L h m) (st : ∀ b o, gh.get? b = some o → g.get? b = some o) : Fr gh L h m := ⟨F.ns, fun b o e => F.keep b o (st b o e), F5.above⟩
theorem newsDown {gh g h : Heap} {L : Addr} {nw : Led} (N : News g L h nw) (st : ∀ b o, gh.get? b = some o → g.get? b = some o) : News gh L h nw := fun q hq => ⟨(N q hq).1, (N q hq).2.1, by
  cases e : gh.get? q.1 with
  | none => rfl
  | some o => have := (N q hq).2.2; rw [st _ _ e] at this; cases this⟩

end Mine
set_option Elab.async false
set_option maxRecDepth 100000
set_option maxHeartbeats 2000000
set_option compiler.extract_closed false
namespace Mine
local macro_rules | `(tactic| walk_at $s:str) => `(tactic| k_extra $s)
theorem hd0.tw16463593755247147200 : True := trivial
theorem hd0.tw17781076316100833504 : True := trivial
theorem hd0.tw13479121818116124064 : True := trivial
theorem hd0.tw6595308224653121280 : True := trivial
theorem hd0.tw12322794258418571040 : True := trivial
theorem hd0.tw9802666196054454208 : True := trivial
theorem hd0.tw906593335335552129 : True := trivial
theorem hd0.tw1277909223561221377 : True := trivial
theorem hd0.tw7614193382627860833 : True := trivial
theorem hd0.tw13396925332426190305 : True := trivial
theorem hd0.tw11237116216057311745 : True := trivial
theorem hd0.tw2510589942101626497 : True := trivial
theorem hd0.tw11510660921149772417 : True := trivial
theorem hd0.tw18353199073579788961 : True := trivial
theorem hd0.tw17310554660023955137 : True := trivial
theorem hd0.tw10260036693505685281 : True := trivial
theorem hd0.tw11573459230172034977 : True := trivial
theorem hd0.tw13774004877433310113 : True := trivial
theorem hd0.tw17564057355376757762 : True := trivial
theorem hd0.tw12346405554607327266 : True := trivial
theorem hd0.tw17529000533065644130 : True := trivial
theorem hd0.tw9126222054196385890 : True := trivial
theorem hd0.tw9563851893216371074 : True := trivial
theorem hd0.tw10699908585067015650 : True := trivial
theorem hd0.tw7026590804218146370 : True := trivial
theorem hd0.tw4983706646000405154 : True := trivial
theorem hd0.tw14069131116232622754 : True := trivial
theorem hd0.tw10542246809792872130 : True := trivial
theorem hd0.tw11696680520943490882 : True := trivial
theorem hd0.tw7970355855660570498 : True := trivial
theorem hd0.tw14943190808241422403 : True := trivial
theorem hd0.tw444321031296666723 : True := trivial
theorem hd0.tw9602224531474918659 : True := trivial
theorem hd0.tw17269798166242563363 : True := trivial
theorem hd0.tw1967676767884184963 : True := trivial
theorem hd0.tw11296317026604976579 : True := trivial
theorem hd0.tw12171479601555845635 : True := trivial
theorem hd0.tw1811114063731668483 : True := trivial
theorem hd0.tw2008372144067494435 : True := trivial
theorem hd0.tw8785302206795578915 : True := trivial
theorem hd0.tw11434521047140000675 : True := trivial
theorem hd0.tw8913561755670897571 : True := trivial
theorem hd0.tw13008693350213662659 : True := trivial
theorem hd0.tw3233326631691786436 : True := trivial
theorem hd0.tw13130983519766148356 : True := trivial
theorem hd0.tw10566386253777865092 : True := trivial
theorem hd0.tw1673108226327096836 : True := trivial
theorem hd0.tw10702419455615826468 : True := trivial
theorem hd0.tw961968547571948100 : True := trivial
theorem hd0.tw10763176690372330244 : True := trivial
theorem hd0.tw6518245875282815045 : True := trivial
theorem hd0.tw224087588433861989 : True := trivial
theorem hd0.tw3647629822860100997 : True := trivial
theorem hd0.tw11124739342428088709 : True := trivial
theorem hd0.tw4529881663590886789 : True := trivial
theorem hd0.tw12782906062734576069 : True := trivial
theorem hd0.tw3771890792122485445 : True := trivial
theorem hd0.tw17011805984709885637 : True := trivial
theorem hd0.tw14374543632177568485 : True := trivial
theorem hd0.tw3198289665323921157 : True := trivial
theorem hd0.tw17018938808108061734 : True := trivial
theorem hd0.tw2338661219346607142 : True := trivial
theorem hd0.tw539940733940218950 : True := trivial
theorem hd0.tw15448882600500118630 : True := trivial
theorem hd0.tw16427158468746511654 : True := trivial
theorem hd0.tw891186494875849158 : True := trivial
theorem hd0.tw15726108546692610502 : True := trivial
theorem hd0.tw1151431125173238406 : True := trivial
theorem hd0.tw10046214379172474726 : True := trivial
theorem hd0.tw13548834284501389479 : True := trivial
theorem hd0.tw2128425038151221735 : True := trivial
theorem hd0.tw7236157760442490695 : True := trivial
theorem hd0.tw11513374493561741416 : True := trivial
theorem hd0.tw17312371794062739880 : True := trivial
theorem hd0.tw6524106021019783592 : True := trivial
theorem hd0.tw13545224959385804456 : True := trivial
theorem hd0.tw16777196957282017032 : True := trivial
theorem hd0.tw2808911380250203912 : True := trivial
theorem hd0.tw463379757040502600 : True := trivial
theorem hd0.tw2329996539569397640 : True := trivial
theorem hd0.tw5487660210450000937 : True := trivial
theorem hd0.tw17529906274252830889 : True := trivial
theorem hd0.tw11713894155979806921 : True := trivial
theorem hd0.tw14469414521783600489 : True := trivial
theorem hd0.tw1280484567907817961 : True := trivial
theorem hd0.tw3404567561779638057 : True := trivial
theorem hd0.tw8753875272357604297 : True := trivial
theorem hd0.tw10783142842391291914 : True := trivial
theorem hd0.tw15427648684169686026 : True := trivial
theorem hd0.tw12118671535382520970 : True := trivial
theorem hd0.tw13449833444171232586 : True := trivial
theorem hd0.tw5484117130419629514 : True := trivial
theorem hd0.tw9239670224111219178 : True := trivial
theorem hd0.tw48920468559051274 : True := trivial
theorem hd0.tw14861641958691549802 : True := trivial
theorem hd0.tw14036169154352995946 : True := trivial
theorem hd0.tw6663726501131112074 : True := trivial
theorem hd0.tw12665113834384165610 : True := trivial
theorem hd0.tw4582842965409387306 : True := trivial
theorem hd0.tw12151319272224551882 : True := trivial
theorem hd0.tw6070584094110415979 : True := trivial
theorem hd0.tw14751195016474515691 : True := trivial
theorem hd0.tw8575195297261919627 : True := trivial
theorem hd0.tw545614883460498859 : True := trivial
theorem hd0.tw6302395318545343019 : True := trivial
theorem hd0.tw18422496656155279979 : True := trivial
theorem hd0.tw4958161400511572651 : True := trivial
theorem hd0.tw3361144743427637995 : True := trivial
theorem hd0.tw3465554795787012971 : True := trivial
theorem hd0.tw5795620790108031851 : True := trivial
theorem hd0.tw5873444610005042059 : True := trivial
theorem hd0.tw16594580601805772844 : True := trivial
theorem hd0.tw6865537962405302380 : True := trivial
theorem hd0.tw5721069425725921740 : True := trivial
theorem hd0.tw4151759822898662892 : True := trivial
theorem hd0.tw17954619922065868364 : True := trivial
theorem hd0.tw6304940225609730636 : True := trivial
theorem hd0.tw4837166207565515596 : True := trivial
theorem hd0.tw15728283652489511788 : True := trivial
theorem hd0.tw2920931838809075660 : True := trivial
theorem hd0.tw7359261033328424013 : True := trivial
theorem hd0.tw9973785736712783053 : True := trivial
theorem hd0.tw3687058039446345037 : True := trivial
theorem hd0.tw8428931017558521197 : True := trivial
theorem hd0.tw5099789754451425677 : True := trivial
theorem hd0.tw15429971745270200749 : True := trivial
theorem hd0.tw12056577157831287533 : True := trivial
theorem hd0.tw901327545473398541 : True := trivial
theorem hd0.tw7344888150607721261 : True := trivial
theorem hd0.tw13568120283695954765 : True := trivial
theorem hd0.tw1825929278167054478 : True := trivial
theorem hd0.tw5173078720295292078 : True := trivial
theorem hd0.tw9915369828831269134 : True := trivial
theorem hd0.tw4562695010225406382 : True := trivial
theorem hd0.tw12933712334415985070 : True := trivial
theorem hd0.tw15129630465062437422 : True := trivial
theorem hd0.tw1450596053491749582 : True := trivial
theorem hd0.tw12536855493545629422 : True := trivial
theorem hd0.tw4964845553990846222 : True := trivial
theorem hd0.tw4177551785084101679 : True := trivial
theorem hd0.tw4663038693165263023 : True := trivial
theorem hd0.tw16799398214865156367 : True := trivial
theorem hd0.tw11249123509674406191 : True := trivial
theorem hd0.tw5592874710671989167 : True := trivial
theorem hd0.tw2735401655943086511 : True := trivial
theorem hd0.tw13520241950707334607 : True := trivial
theorem hd0.tw18134629352650391119 : True := trivial
theorem hd0.tw1904828551985836751 : True := trivial
theorem hd0.tw3466419429004618768 : True := trivial
theorem hd0.tw866052350247734544 : True := trivial
theorem hd0.tw9777354187630944624 : True := trivial
theorem hd0.tw2445334534209988144 : True := trivial
theorem hd0.tw7237386881181516464 : True := trivial
theorem hd0.tw1087435185961119440 : True := trivial
theorem hd0.tw201601121702685456 : True := trivial
theorem hd0.tw11772256920040780592 : True := trivial
theorem hd0.tw1597637715128213681 : True := trivial
theorem hd0.tw17043531303389682065 : True := trivial
theorem hd0.tw12457655390460550545 : True := trivial
theorem hd0.tw5113092267928746449 : True := trivial
theorem hd0.tw9908521743164178289 : True := trivial
theorem hd0.tw14507039311653490641 : True := trivial
theorem hd0.tw8907265306392417265 : True := trivial
theorem hd0.tw3801753739915242578 : True := trivial
theorem hd0.tw1500556042865797202 : True := trivial
theorem hd0.tw1172493811112005778 : True := trivial
theorem hd0.tw8239782323564299538 : True := trivial
theorem hd0.tw12784123285358203314 : True := trivial
theorem hd0.tw474916242839058 : True := trivial
theorem hd0.tw6643238626148955698 : True := trivial
theorem hd0.tw12003068471920674386 : True := trivial
theorem hd0.tw14198383729236097778 : True := trivial
theorem hd0.tw10831172887324590962 : True := trivial
theorem hd0.tw7895234915340226546 : True := trivial
theorem hd0.tw1830908064365640755 : True := trivial
theorem hd0.tw1666546761208262739 : True := trivial
theorem hd0.tw9846644877726163059 : True := trivial
theorem hd0.tw1640101354576226611 : True := trivial
theorem hd0.tw18334495392781897203 : True := trivial
theorem hd0.tw11119462899506271795 : True := trivial
theorem hd0.tw12933303735471307315 : True := trivial
theorem hd0.tw17557899024913747603 : True := trivial
theorem hd0.tw12990674161636488019 : True := trivial
theorem hd0.tw9001251600818444179 : True := trivial
theorem hd0.tw16948642340420126643 : True := trivial
theorem hd0.tw15764005096722370900 : True := trivial
theorem hd0.tw3640104315449746964 : True := trivial
theorem hd0.tw8016032594811649588 : True := trivial
theorem hd0.tw8412496611741829076 : True := trivial
theorem hd0.tw7746724291664459861 : True := trivial
theorem hd0.tw18318733016934202581 : True := trivial
theorem hd0.tw9550446492185002325 : True := trivial
theorem hd0.tw8464541185895156213 : True := trivial
theorem hd0.tw15248397019474160181 : True := trivial
theorem hd0.tw2738655298557570645 : True := trivial
theorem hd0.tw4192044030403024501 : True := trivial
theorem hd0.tw4747281084397564757 : True := trivial
theorem hd0.tw14133583787211923317 : True := trivial
theorem hd0.tw1078058097833363317 : True := trivial
theorem hd0.tw15389241651499710389 : True := trivial
theorem hd0.tw17763732069537761205 : True := trivial
theorem hd0.tw12607126878928665686 : True := trivial
theorem hd0.tw17109297859288142998 : True := trivial
theorem hd0.tw7821361960523482326 : True := trivial
theorem hd0.tw15549164469732841750 : True := trivial
theorem hd0.tw14210159926740337751 : True := trivial
theorem hd0.tw11064160589316715639 : True := trivial
theorem hd0.tw14364967241312749879 : True := trivial
theorem hd0.tw17828249871568911703 : True := trivial
theorem hd0.tw18132021507681513943 : True := trivial
theorem hd0.tw8437564595239901655 : True := trivial
theorem hd0.tw13555123127346715575 : True := trivial
theorem hd0.tw5851460317537991607 : True := trivial
theorem hd0.tw8979126550263901336 : True := trivial
theorem hd0.tw3149825195295114616 : True := trivial
theorem hd0.tw3153493263474777528 : True := trivial
theorem hd0.tw8357002312735883768 : True := trivial
theorem hd0.tw18434705248130178712 : True := trivial
theorem hd0.tw4863585562482331352 : True := trivial
theorem hd0.tw12412626361518170872 : True := trivial
theorem hd0.tw12281760368372384568 : True := trivial
theorem hd0.tw1601430817000102872 : True := trivial
theorem hd0.tw10299701338536963064 : True := trivial
theorem hd0.tw7609028302745033977 : True := trivial
theorem hd0.tw1817164187568313849 : True := trivial
theorem hd0.tw1802376907469915865 : True := trivial
theorem hd0.tw208745692366851961 : True := trivial
theorem hd0.tw16871336801076393977 : True := trivial
theorem hd0.tw7579484373256523769 : True := trivial
theorem hd0.tw8066634004926191738 : True := trivial
theorem hd0.tw1405133032699174042 : True := trivial
theorem hd0.tw8708807820475274586 : True := trivial
theorem hd0.tw1958745321591857818 : True := trivial
theorem hd0.tw3687841886611527418 : True := trivial
theorem hd0.tw13969635912206726010 : True := trivial
theorem hd0.tw9924868186204702650 : True := trivial
theorem hd0.tw7079748053240274874 : True := trivial
theorem hd0.tw4509526690794525690 : True := trivial
theorem hd0.tw4550181199752876123 : True := trivial
theorem hd0.tw1971027274306906267 : True := trivial
theorem hd0.tw3918980482426016955 : True := trivial
theorem hd0.tw9056650140919055547 : True := trivial
theorem hd0.tw10992540420993761691 : True := trivial
theorem hd0.tw16945641315097055003 : True := trivial
theorem hd0.tw6302951332473218875 : True := trivial
theorem hd0.tw5428070130070536091 : True := trivial
theorem hd0.tw16112012934339231772 : True := trivial
theorem hd0.tw13895518096887823452 : True := trivial
theorem hd0.tw17524989057665669244 : True := trivial
theorem hd0.tw12753557443971426460 : True := trivial
theorem hd0.tw7159127617245474268 : True := trivial
theorem hd0.tw7617597951416790556 : True := trivial
theorem hd0.tw4345986799964169788 : True := trivial
theorem hd0.tw1144143789490447932 : True := trivial
theorem hd0.tw7079413332180022301 : True := trivial
theorem hd0.tw5364393782896679965 : True := trivial
theorem hd0.tw3968613266054771741 : True := trivial
theorem hd0.tw16912591420726631485 : True := trivial
theorem hd0.tw18078784917974338621 : True := trivial
theorem hd0.tw12014350970595483805 : True := trivial
theorem hd0.tw650764759088172349 : True := trivial
theorem hd0.tw3801730876566874525 : True := trivial
theorem hd0.tw12782592981888142045 : True := trivial
theorem hd0.tw13333579491729134397 : True := trivial
theorem hd0.tw2784943137000400733 : True := trivial
theorem hd0.tw7493280530175958909 : True := trivial
theorem hd0.tw11759931035086368862 : True := trivial
theorem hd0.tw7288751869163876638 : True := trivial
theorem hd0.tw2431039718480141022 : True := trivial
theorem hd0.tw7721425996154828510 : True := trivial
theorem hd0.tw11555452338293584702 : True := trivial
theorem hd0.tw4632445285567490079 : True := trivial
theorem hd0.tw94868424139816031 : True := trivial
theorem hd0.tw15233396900245208191 : True := trivial
theorem hd0.tw14471392316929890559 : True := trivial
theorem hd0.tw6649401386675659039 : True := trivial
theorem hd0.tw2919583234286436895 : True := trivial
theorem hd0.tw7937780131228529215 : True := trivial
theorem hd0.tw14905831658627392255 : True := trivial
theorem hd0.tw14101212210074526559 : True := trivial
theorem hd0.tw374884053494010421 : True := trivial
theorem hd0.tw415706843491771442 : True := trivial
theorem hd0.tw9069732675438569012 : True := trivial
theorem hd0.tw11126991967810127485 : True := trivial
theorem hd0.tw10674573038392525480 : True := trivial
theorem hd0.tw7272093352670637256 : True := trivial
theorem hd0.tw10142514953723157121 : True := trivial
theorem hd0.tw9092559193896708335 : True := trivial
theorem hd0.tw13052637778663081845 : True := trivial
theorem hd0.tw17938692770518964137 : True := trivial
theorem hd0.tw3954081871767774930 : True := trivial
theorem hd0.tw7157247662857171835 : True := trivial
theorem hd0.tw12464628988462019384 : True := trivial
theorem hd0.tw10900640597396524119 : True := trivial
theorem hd0.tw13273772772769938408 : True := trivial
theorem hd0.tw6321602054033576261 : True := trivial
theorem hd0.tw7591143502915705866 : True := trivial
theorem hd0.tw9558896170131036883 : True := trivial
theorem hd0.tw8817923766190861500 : True := trivial
theorem hd0.tw3661910460011539990 : True := trivial
theorem hd0.tw12137448466141968990 : True := trivial
theorem hd0.tw11627374869085947971 : True := trivial
theorem hd0.tw10130630434222852189 : True := trivial
theorem hd0.tw235361953316067551 : True := trivial
theorem hd0.tw6212336047198791034 : True := trivial
theorem hd0.tw948884623074173179 : True := trivial
theorem hd0.tw12361202255081276348 : True := trivial
theorem hd0.tw372507905140859046 : True := trivial
theorem hd0.tw13225562770931172114 : True := trivial
theorem hd0.tw1373962632808221862 : True := trivial
theorem hd0.tw8186490606910878952 : True := trivial
theorem hd0.tw18254736420219455353 : True := trivial
theorem hd0.tw12359293450673973849 : True := trivial
theorem hd0.tw2855132282938011281 : True := trivial
theorem hd0.tw7408634595446838094 : True := trivial
theorem hd0.tw12441900431144526283 : True := trivial
theorem hd0.tw13290526967758619121 : True := trivial
theorem hd0.tw5457183636487121464 : True := trivial
theorem hd0.tw1181209858256229653 : True := trivial
theorem hd0.tw11096358686004343687 : True := trivial
theorem hd0.tw5598530888856446650 : True := trivial
theorem hd0.tw10597892616774395379 : True := trivial
theorem hd0.tw9850646574373468363 : True := trivial
local macro_rules | `(tactic| k_head) => `(tactic| o_head (kmHook K as (fun _ => by kernel_rfl) [245, 226]))
abbrev lOf {h₀ h : Heap} {L : Addr} {m : Str → Option Value} (_ : Fr h₀ L h m) : Addr := L
set_option maxHeartbeats 8000000 in
set_option Elab.async true in
theorem hd0 : r.Holds := by
  w_on; o_law; k_head; (case hw => w_witness2)
  k_with_none
  k_go0
  (all_goals try k_fold)
  k_with "eval ListComp Call" => (refine Stop.out ?_)
  k_steps
  refine Stop.in ?_
  (rename News _ _ _ _ => N5); (rename Fr _ _ _ _ => F5)
  (rename IntsAre _ (List.map _ (List.take 48 _)) => hI5); (rename Obj.data _ = Data.cell (some _) => hoc5)
  (rename 245 < _ ∧ 226 < _ => hlt5)
  (rename Below callerA _ [] _ => K5)
  (rename Frag.In _ (ghostOf _ _) => X5)
  obtain ⟨pt, wa, ca, wc, rfl, rfl, rfl, rfl, hR, nw, hJ, N6⟩ := lawN N5 hI5 hoc5 ⟨Nat.ne_of_lt (Nat.lt_succ_of_lt hlt5.2), Nat.ne_of_lt (Nat.lt_succ_of_lt hlt5.1)⟩
  (rename Top topProg _ _ _ _ _ => T5)
  clear N5
  repeat (rename _ < _ ∧ _ => hh9; clear hh9)
  refine' compE (L := lOf F5) (m := mOf F5) ?h1 ?h2 ?h3 ?h4 ?h5 ?h6 ?h7 ?hs
  case h1 => exact rfl
  case h2 => exact rfl
  case h3 => decide
  case h4 => exact rfl
  case h5 => decide
  case h6 => exact rfl
  case hs => intro _; exact rfl
  case h7 =>
    unfold mOf lOf
    k_steps
    (all_goals (try k_data))
    refine .mk _ _ _ _ nw (fun i zs g nw' => Below callerA _ [] g ∧ LawJ wa ca (lawL pt ca _ _ _) i zs nw') rfl (.tup _) hJ.pt (fun i zs g nw' e => e.2.pt) ?len F5 N6 ⟨K5, hJ⟩ ?turn ?fin
    case len => (rw [sizeLine_eq]; decide)
    case turn =>
      clear F5 N6
      intro i v zs g nw' h3 tk3 oI oC I C D m2 E3 hv hJ1 hoC
      have B1 := hJ1.1
      refine LawJ.elim (nw := nw') hJ1.2 fun o7 p1 p2 hzs hw7 hp => ?_
      refine refElim (v := v) (partsV_get hv) fun f hf hm2 F3 N3 hap => ?_
      have I3 := hoC.ns (N3 _ (.tail _ (.head _))).1
      refine wpAny_tests_nil ?_
      have N8 := turnN N3
      have hT := turnR (oI := oI) (oC := oC) (zs := zs) hR hap
      k_steps
      k_here
      refine' callWithN (h₀ := g) (L := lOf F3) (parts_kept (news := (wa, o7) :: []) hf) ?_ ?he9 ?hp9
      rotate_left
      exact rfl
      exact rfl
      have X1 := Frag.In.keeps X5 B1.stays
      k_steps
      · exact fun q hq => by rw [List.mem_singleton.mp hq]; exact N3 _ (.tail _ (.tail _ (.tail _ (.head _))))
      · exact Frag.In.keeps X1 F3.keep
      refine CtrS.useK (ck_part _ _ wa ca o7 p1 p2 hw7 hT.1 hT.2.1 hT.2.2.1 hT.2.2.2 i hp f hf) B1 F3 X5 N8 T5 (fun b hb => (nomatch hb)) rfl ?hd ?hu ?_
      case hd => decide
      case hu => decide
      intro o8 q1 q2 hw8 hq g9 h9 tk9 T9 F9 N9 B9 D9
      exact TEnd.of rfl F9 (turnB N9) (turnO hap) ⟨B9, .mk o8 q1 q2 (by rw [hzs, List.replicate_succ']) hw8 hq⟩
    case fin =>
      intro D zs g nw' hJ1
      have B1 := hJ1.1
      refine LawJ.elim (nw := nw') hJ1.2 fun o7 p1 p2 hzs hw7 hp hne h3 tk3 F3 N3 => ?_
      clear hJ1
      obtain rfl : zs = [.bool true, .bool true, .bool true, .bool true, .bool true] := hzs
      have F7 := frDown F5 F3 B1.stays
      have N7 := newsDown N3 B1.stays
      clear F3 N3 B1 hJ hR hne F5 N6 X5 T5 hp hw7
      k_with "call builtin:all" => (refine Stop.out ?_)
      k_steps
      refine Stop.in ?_
      refine LSm.all_bools (bs := [true, true, true, true, true]) F7 N7 rfl (News.isList N7 (.head _)) (.cons _ (.cons _ (.cons _ (.cons _ (.cons _ .nil))))) (fun h8 tk8 F8 N8 => ?_)
      refine ⟨?_, ⟨GrownAt.of N8 (.tail _ (.tail _ (.tail _ (.head _)))), GrownAt.of N8 (.tail _ (.tail _ (.head _))), trivial⟩⟩
      rw [show ([true, true, true, true, true].all id) = true from rfl]
      clear N7 F7
      k_steps
      all_goals w_report
end Mine
theorem PySem.Challenge.cw_og0204_01_holds : PySem.Challenge.rw_og0204_01.Holds := by
  rw [Mine.r_eq]
  exact Mine.hd0
