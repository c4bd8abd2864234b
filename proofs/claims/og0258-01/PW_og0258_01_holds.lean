import PyProof.Rows.All
import Wide.All
import OpenK.AllK
import Wide.FinOn
import PySem.Challenge.RW_og0258_01
set_option Elab.async false
set_option linter.unusedVariables false
set_option maxRecDepth 100000
set_option compiler.extract_closed false
namespace Mine
section
open PySem PySem.W PyProof.Rows PySem.Calls PySem.Spec
set_option Elab.async false
set_option linter.unusedVariables false
set_option maxRecDepth 100000
set_option maxHeartbeats 0

noncomputable def pw : Program := PySem.Challenge.pw_og0258_01
noncomputable def stAt (i : Nat) : Stmt := pw.main.body.getD i (.Pass ⟨0, 0, 0, 0⟩)
noncomputable def q1 : Program := { pw with main := { pw.main with body := [stAt 38] } }
noncomputable def loose1 : List Str := (["TermError", "BadParam", "PERCENT", "TWO_OPERATORS", "ONE_OPERATORS", "WRITERS", "DIGITS", "param_is_digit", "param_number", "ParmReader", "tparm_program", "param_most", "param_is_plain", "delay_at", "delays_of", "without_delays", "delay_total", "Info", "differences", "_law_pieces", "_law_good", "_law_ill", "_law_names", "_law_draw", "_law_pick", "_law_figures", "_law_delay", "_law_delays_right", "_law_made", "_law_told", "_law_most_right", "_law_info", "_law_is_like", "_law_infos_right"] : List String).map Str.ofString


noncomputable def mAt (i k : Nat) : Stmt := match stAt i with
  | .ClassDef _ _ _ b _ _ _ _ _ _ _ => b.getD k (.Pass ⟨0, 0, 0, 0⟩)
  | _ => .Pass ⟨0, 0, 0, 0⟩
noncomputable def parOf : Stmt → Arguments
  | .FunctionDef _ a _ _ _ _ _ _ _ _ => a
  | _ => ⟨[], [], none, [], [], none, []⟩
noncomputable def bodyOf : Stmt → List Stmt
  | .FunctionDef _ _ b _ _ _ _ _ _ _ => b
  | _ => []
noncomputable def scopeOf : Stmt → Scope
  | .FunctionDef _ _ _ _ _ _ sc _ _ _ => sc
  | _ => default
noncomputable def fnD (n q : Str) (st : Stmt) (dV pm : Value) (cd : Addr) : FuncData :=
  { name := n, qualname := q, params := parOf st, body := .stmts (bodyOf st), scope := scopeOf st, globals := 3, closure := [], defaults := dV, kwdefaults := .none, pyModule := pm, code := .ref cd }
noncomputable def fd29 : FuncData := fnD "__init__" "TermError.__init__" (mAt 1 0) (PySem.Value.ref 22) (PySem.Value.str (PySem.Str.ofString "termcore.base") 187) 28
noncomputable def fd54 : FuncData := fnD "param_is_digit" "param_is_digit" (stAt 9) (PySem.Value.none) (PySem.Value.str (PySem.Str.ofString "termcore.tparm") 234) 53
noncomputable def fd61 : FuncData := fnD "param_number" "param_number" (stAt 10) (PySem.Value.none) (PySem.Value.str (PySem.Str.ofString "termcore.tparm") 234) 60
noncomputable def fd75 : FuncData := fnD "__init__" "ParmReader.__init__" (mAt 11 0) (PySem.Value.none) (PySem.Value.str (PySem.Str.ofString "termcore.tparm") 234) 74
noncomputable def fd82 : FuncData := fnD "refuse" "ParmReader.refuse" (mAt 11 1) (PySem.Value.none) (PySem.Value.str (PySem.Str.ofString "termcore.tparm") 234) 81
noncomputable def fd89 : FuncData := fnD "end_text" "ParmReader.end_text" (mAt 11 2) (PySem.Value.none) (PySem.Value.str (PySem.Str.ofString "termcore.tparm") 234) 88
noncomputable def fd96 : FuncData := fnD "put" "ParmReader.put" (mAt 11 3) (PySem.Value.none) (PySem.Value.str (PySem.Str.ofString "termcore.tparm") 234) 95
noncomputable def fd103 : FuncData := fnD "program" "ParmReader.program" (mAt 11 4) (PySem.Value.none) (PySem.Value.str (PySem.Str.ofString "termcore.tparm") 234) 102
noncomputable def fd110 : FuncData := fnD "read_one" "ParmReader.read_one" (mAt 11 5) (PySem.Value.none) (PySem.Value.str (PySem.Str.ofString "termcore.tparm") 234) 109
noncomputable def fd117 : FuncData := fnD "read_named" "ParmReader.read_named" (mAt 11 6) (PySem.Value.none) (PySem.Value.str (PySem.Str.ofString "termcore.tparm") 234) 116
noncomputable def fd124 : FuncData := fnD "read_constant" "ParmReader.read_constant" (mAt 11 7) (PySem.Value.none) (PySem.Value.str (PySem.Str.ofString "termcore.tparm") 234) 123
noncomputable def fd131 : FuncData := fnD "read_branch" "ParmReader.read_branch" (mAt 11 8) (PySem.Value.none) (PySem.Value.str (PySem.Str.ofString "termcore.tparm") 234) 130
noncomputable def fd138 : FuncData := fnD "read_writer" "ParmReader.read_writer" (mAt 11 9) (PySem.Value.none) (PySem.Value.str (PySem.Str.ofString "termcore.tparm") 234) 137
noncomputable def fd152 : FuncData := fnD "tparm_program" "tparm_program" (stAt 12) (PySem.Value.none) (PySem.Value.str (PySem.Str.ofString "termcore.tparm") 234) 151
noncomputable def fd157 : FuncData := fnD "param_most" "param_most" (stAt 13) (PySem.Value.none) (PySem.Value.str (PySem.Str.ofString "termcore.tparm") 234) 156
noncomputable def fd164 : FuncData := fnD "param_is_plain" "param_is_plain" (stAt 14) (PySem.Value.none) (PySem.Value.str (PySem.Str.ofString "termcore.tparm") 234) 163
noncomputable def fd171 : FuncData := fnD "delay_at" "delay_at" (stAt 15) (PySem.Value.none) (PySem.Value.str (PySem.Str.ofString "termcore.tparm") 234) 170
noncomputable def fd178 : FuncData := fnD "delays_of" "delays_of" (stAt 16) (PySem.Value.none) (PySem.Value.str (PySem.Str.ofString "termcore.tparm") 234) 177
noncomputable def fd185 : FuncData := fnD "without_delays" "without_delays" (stAt 17) (PySem.Value.none) (PySem.Value.str (PySem.Str.ofString "termcore.tparm") 234) 184
noncomputable def fd193 : FuncData := fnD "delay_total" "delay_total" (stAt 18) (PySem.Value.ref 186) (PySem.Value.str (PySem.Str.ofString "termcore.tparm") 234) 192
noncomputable def fd209 : FuncData := fnD "__init__" "Info.__init__" (mAt 20 0) (PySem.Value.ref 202) (PySem.Value.str (PySem.Str.ofString "termcore.terminfo") 446) 208
noncomputable def fd221 : FuncData := fnD "differences" "differences" (stAt 21) (PySem.Value.none) (PySem.Value.str (PySem.Str.ofString "termcore.terminfo") 446) 220
noncomputable def fd272 : FuncData := fnD "_law_draw" "_law_draw" (stAt 27) (PySem.Value.none) (PySem.Value.str (PySem.Str.ofString "law_og0258_01") 493) 271
noncomputable def fd279 : FuncData := fnD "_law_pick" "_law_pick" (stAt 28) (PySem.Value.none) (PySem.Value.str (PySem.Str.ofString "law_og0258_01") 493) 278
noncomputable def fd284 : FuncData := fnD "_law_figures" "_law_figures" (stAt 29) (PySem.Value.none) (PySem.Value.str (PySem.Str.ofString "law_og0258_01") 493) 283
noncomputable def fd291 : FuncData := fnD "_law_delay" "_law_delay" (stAt 30) (PySem.Value.none) (PySem.Value.str (PySem.Str.ofString "law_og0258_01") 493) 290
noncomputable def fd296 : FuncData := fnD "_law_delays_right" "_law_delays_right" (stAt 31) (PySem.Value.none) (PySem.Value.str (PySem.Str.ofString "law_og0258_01") 493) 295
noncomputable def fd303 : FuncData := fnD "_law_made" "_law_made" (stAt 32) (PySem.Value.none) (PySem.Value.str (PySem.Str.ofString "law_og0258_01") 493) 302
noncomputable def fd310 : FuncData := fnD "_law_told" "_law_told" (stAt 33) (PySem.Value.none) (PySem.Value.str (PySem.Str.ofString "law_og0258_01") 493) 309
noncomputable def fd317 : FuncData := fnD "_law_most_right" "_law_most_right" (stAt 34) (PySem.Value.none) (PySem.Value.str (PySem.Str.ofString "law_og0258_01") 493) 316
noncomputable def fd324 : FuncData := fnD "_law_info" "_law_info" (stAt 35) (PySem.Value.none) (PySem.Value.str (PySem.Str.ofString "law_og0258_01") 493) 323
noncomputable def fd331 : FuncData := fnD "_law_is_like" "_law_is_like" (stAt 36) (PySem.Value.none) (PySem.Value.str (PySem.Str.ofString "law_og0258_01") 493) 330
noncomputable def fd336 : FuncData := fnD "_law_infos_right" "_law_infos_right" (stAt 37) (PySem.Value.none) (PySem.Value.str (PySem.Str.ofString "law_og0258_01") 493) 335
noncomputable def fd341 : FuncData := fnD "law" "law" (stAt 38) (PySem.Value.none) (PySem.Value.str (PySem.Str.ofString "law_og0258_01") 493) 340
noncomputable def KF (P : Params) : Frag := [
  (2, { cls := PySem.Value.none, data := PySem.Data.dict #[{ hash := PySem.PyData.keyHash P (PySem.Str.ofString "type.__subclasses__.Exception.0"), key := PySem.Value.str (PySem.Str.ofString "type.__subclasses__.Exception.0") 214, val := PySem.Value.int 32 0 }, { hash := PySem.PyData.keyHash P (PySem.Str.ofString "type.__subclasses__.Exception.n"), key := PySem.Value.str (PySem.Str.ofString "type.__subclasses__.Exception.n") 215, val := PySem.Value.int 1 0 }] 2 }),
  (3, { cls := PySem.Value.type "dict", data := PySem.Data.dict #[{ hash := PySem.PyData.keyHash P (PySem.Str.ofString "__name__"), key := PySem.Value.str (PySem.Str.ofString "__name__") 165, val := PySem.Value.str (PySem.Str.ofString "law_og0258_01") 493 }, { hash := PySem.PyData.keyHash P (PySem.Str.ofString "__doc__"), key := PySem.Value.str (PySem.Str.ofString "__doc__") 166, val := PySem.Value.none }, { hash := PySem.PyData.keyHash P (PySem.Str.ofString "__package__"), key := PySem.Value.str (PySem.Str.ofString "__package__") 167, val := PySem.Value.none }, { hash := PySem.PyData.keyHash P (PySem.Str.ofString "__loader__"), key := PySem.Value.str (PySem.Str.ofString "__loader__") 168, val := PySem.Value.builtin "__main__.__loader__#opaque" }, { hash := PySem.PyData.keyHash P (PySem.Str.ofString "__spec__"), key := PySem.Value.str (PySem.Str.ofString "__spec__") 169, val := PySem.Value.none }, { hash := PySem.PyData.keyHash P (PySem.Str.ofString "__annotations__"), key := PySem.Value.str (PySem.Str.ofString "__annotations__") 170, val := PySem.Value.ref 6 }, { hash := PySem.PyData.keyHash P (PySem.Str.ofString "__builtins__"), key := PySem.Value.str (PySem.Str.ofString "__builtins__") 171, val := PySem.Value.ref 4 }, { hash := PySem.PyData.keyHash P (PySem.Str.ofString "__file__"), key := PySem.Value.str (PySem.Str.ofString "__file__") 173, val := PySem.Value.str (PySem.Str.ofString "/claim/cut.py") 172 }, { hash := PySem.PyData.keyHash P (PySem.Str.ofString "__cached__"), key := PySem.Value.str (PySem.Str.ofString "__cached__") 174, val := PySem.Value.none }, { hash := PySem.PyData.keyHash P (PySem.Str.ofString "TermError"), key := PySem.Value.str (PySem.Str.ofString "TermError") 217, val := PySem.Value.ref 32 }, { hash := PySem.PyData.keyHash P (PySem.Str.ofString "BadParam"), key := PySem.Value.str (PySem.Str.ofString "BadParam") 233, val := PySem.Value.ref 45 }, { hash := PySem.PyData.keyHash P (PySem.Str.ofString "PERCENT"), key := PySem.Value.str (PySem.Str.ofString "PERCENT") 237, val := PySem.Value.int 37 236 }, { hash := PySem.PyData.keyHash P (PySem.Str.ofString "TWO_OPERATORS"), key := PySem.Value.str (PySem.Str.ofString "TWO_OPERATORS") 239, val := PySem.Value.bytes #[43, 45, 42, 47, 109, 38, 124, 94, 61, 62, 60, 65, 79] 238 }, { hash := PySem.PyData.keyHash P (PySem.Str.ofString "ONE_OPERATORS"), key := PySem.Value.str (PySem.Str.ofString "ONE_OPERATORS") 241, val := PySem.Value.bytes #[33, 126] 240 }, { hash := PySem.PyData.keyHash P (PySem.Str.ofString "WRITERS"), key := PySem.Value.str (PySem.Str.ofString "WRITERS") 243, val := PySem.Value.bytes #[100, 111, 120, 88, 115] 242 }, { hash := PySem.PyData.keyHash P (PySem.Str.ofString "DIGITS"), key := PySem.Value.str (PySem.Str.ofString "DIGITS") 245, val := PySem.Value.bytes #[48, 49, 50, 51, 52, 53, 54, 55, 56, 57] 244 }, { hash := PySem.PyData.keyHash P (PySem.Str.ofString "param_is_digit"), key := PySem.Value.str (PySem.Str.ofString "param_is_digit") 253, val := PySem.Value.ref 54 }, { hash := PySem.PyData.keyHash P (PySem.Str.ofString "param_number"), key := PySem.Value.str (PySem.Str.ofString "param_number") 262, val := PySem.Value.ref 61 }, { hash := PySem.PyData.keyHash P (PySem.Str.ofString "ParmReader"), key := PySem.Value.str (PySem.Str.ofString "ParmReader") 380, val := PySem.Value.ref 141 }, { hash := PySem.PyData.keyHash P (PySem.Str.ofString "tparm_program"), key := PySem.Value.str (PySem.Str.ofString "tparm_program") 387, val := PySem.Value.ref 152 }, { hash := PySem.PyData.keyHash P (PySem.Str.ofString "param_most"), key := PySem.Value.str (PySem.Str.ofString "param_most") 393, val := PySem.Value.ref 157 }, { hash := PySem.PyData.keyHash P (PySem.Str.ofString "param_is_plain"), key := PySem.Value.str (PySem.Str.ofString "param_is_plain") 400, val := PySem.Value.ref 164 }, { hash := PySem.PyData.keyHash P (PySem.Str.ofString "delay_at"), key := PySem.Value.str (PySem.Str.ofString "delay_at") 413, val := PySem.Value.ref 171 }, { hash := PySem.PyData.keyHash P (PySem.Str.ofString "delays_of"), key := PySem.Value.str (PySem.Str.ofString "delays_of") 424, val := PySem.Value.ref 178 }, { hash := PySem.PyData.keyHash P (PySem.Str.ofString "without_delays"), key := PySem.Value.str (PySem.Str.ofString "without_delays") 431, val := PySem.Value.ref 185 }, { hash := PySem.PyData.keyHash P (PySem.Str.ofString "delay_total"), key := PySem.Value.str (PySem.Str.ofString "delay_total") 445, val := PySem.Value.ref 193 }, { hash := PySem.PyData.keyHash P (PySem.Str.ofString "Info"), key := PySem.Value.str (PySem.Str.ofString "Info") 486, val := PySem.Value.ref 212 }, { hash := PySem.PyData.keyHash P (PySem.Str.ofString "differences"), key := PySem.Value.str (PySem.Str.ofString "differences") 492, val := PySem.Value.ref 221 }, { hash := PySem.PyData.keyHash P (PySem.Str.ofString "_law_pieces"), key := PySem.Value.str (PySem.Str.ofString "_law_pieces") 512, val := PySem.Value.ref 222 }, { hash := PySem.PyData.keyHash P (PySem.Str.ofString "_law_good"), key := PySem.Value.str (PySem.Str.ofString "_law_good") 562, val := PySem.Value.ref 247 }, { hash := PySem.PyData.keyHash P (PySem.Str.ofString "_law_ill"), key := PySem.Value.str (PySem.Str.ofString "_law_ill") 596, val := PySem.Value.ref 264 }, { hash := PySem.PyData.keyHash P (PySem.Str.ofString "_law_names"), key := PySem.Value.str (PySem.Str.ofString "_law_names") 605, val := PySem.Value.ref 265 }, { hash := PySem.PyData.keyHash P (PySem.Str.ofString "_law_draw"), key := PySem.Value.str (PySem.Str.ofString "_law_draw") 617, val := PySem.Value.ref 272 }, { hash := PySem.PyData.keyHash P (PySem.Str.ofString "_law_pick"), key := PySem.Value.str (PySem.Str.ofString "_law_pick") 625, val := PySem.Value.ref 279 }, { hash := PySem.PyData.keyHash P (PySem.Str.ofString "_law_figures"), key := PySem.Value.str (PySem.Str.ofString "_law_figures") 631, val := PySem.Value.ref 284 }, { hash := PySem.PyData.keyHash P (PySem.Str.ofString "_law_delay"), key := PySem.Value.str (PySem.Str.ofString "_law_delay") 645, val := PySem.Value.ref 291 }, { hash := PySem.PyData.keyHash P (PySem.Str.ofString "_law_delays_right"), key := PySem.Value.str (PySem.Str.ofString "_law_delays_right") 651, val := PySem.Value.ref 296 }, { hash := PySem.PyData.keyHash P (PySem.Str.ofString "_law_made"), key := PySem.Value.str (PySem.Str.ofString "_law_made") 670, val := PySem.Value.ref 303 }, { hash := PySem.PyData.keyHash P (PySem.Str.ofString "_law_told"), key := PySem.Value.str (PySem.Str.ofString "_law_told") 680, val := PySem.Value.ref 310 }, { hash := PySem.PyData.keyHash P (PySem.Str.ofString "_law_most_right"), key := PySem.Value.str (PySem.Str.ofString "_law_most_right") 695, val := PySem.Value.ref 317 }, { hash := PySem.PyData.keyHash P (PySem.Str.ofString "_law_info"), key := PySem.Value.str (PySem.Str.ofString "_law_info") 707, val := PySem.Value.ref 324 }, { hash := PySem.PyData.keyHash P (PySem.Str.ofString "_law_is_like"), key := PySem.Value.str (PySem.Str.ofString "_law_is_like") 715, val := PySem.Value.ref 331 }, { hash := PySem.PyData.keyHash P (PySem.Str.ofString "_law_infos_right"), key := PySem.Value.str (PySem.Str.ofString "_law_infos_right") 721, val := PySem.Value.ref 336 }, { hash := PySem.PyData.keyHash P (PySem.Str.ofString "law"), key := PySem.Value.str (PySem.Str.ofString "law") 727, val := PySem.Value.ref 341 }] 44 }),
  (22, { cls := PySem.Value.type "tuple", data := PySem.Data.seq #[PySem.Value.none] }),
  (28, { cls := PySem.Value.type "code", data := PySem.Data.fields #[PySem.Value.str (PySem.Str.ofString "__init__") 201, PySem.Value.str (PySem.Str.ofString "TermError.__init__") 202, PySem.Value.str (PySem.Str.ofString "/claim/cut.py") 203, PySem.Value.int 4 0, PySem.Value.int 2 0, PySem.Value.int 0 0, PySem.Value.int 0 0, PySem.Value.int 3 0, PySem.Value.ref 23, PySem.Value.bool true, PySem.Value.int 181 0, PySem.Value.ref 24, PySem.Value.none, PySem.Value.ref 25, PySem.Value.ref 26, PySem.Value.ref 27, PySem.Value.int 206 0, PySem.Value.int 4 0, PySem.Value.str (PySem.Str.ofString "/claim/cut.py") 207] }),
  (29, { cls := .type "function", data := .func fd29 }),
  (31, { cls := PySem.Value.type "dict", data := PySem.Data.dict #[{ hash := PySem.PyData.keyHash P (PySem.Str.ofString "__module__"), key := PySem.Value.str (PySem.Str.ofString "__module__") 196, val := PySem.Value.str (PySem.Str.ofString "termcore.base") 187 }, { hash := PySem.PyData.keyHash P (PySem.Str.ofString "__firstlineno__"), key := PySem.Value.str (PySem.Str.ofString "__firstlineno__") 200, val := PySem.Value.int 2 199 }, { hash := PySem.PyData.keyHash P (PySem.Str.ofString "__init__"), key := PySem.Value.str (PySem.Str.ofString "__init__") 208, val := PySem.Value.ref 29 }, { hash := PySem.PyData.keyHash P (PySem.Str.ofString "__static_attributes__"), key := PySem.Value.str (PySem.Str.ofString "__static_attributes__") 210, val := PySem.Value.ref 30 }, { hash := PySem.PyData.keyHash P (PySem.Str.ofString "__weakref__"), key := PySem.Value.str (PySem.Str.ofString "__weakref__") 212, val := PySem.Value.ref 33 }, { hash := PySem.PyData.keyHash P (PySem.Str.ofString "__doc__"), key := PySem.Value.str (PySem.Str.ofString "__doc__") 213, val := PySem.Value.none }] 3 }),
  (32, { cls := PySem.Value.type "type", data := PySem.Data.cls { name := PySem.Str.ofString "TermError", bases := [PySem.Value.type "Exception"], mro := [PySem.Value.ref 32, PySem.Value.type "Exception", PySem.Value.type "BaseException", PySem.Value.type "object"], ns := 31, qualname := PySem.Str.ofString "TermError", subclasses := [PySem.Value.ref 45] }, slots := #[some (PySem.Value.ref 15), none, some (PySem.Value.str (PySem.Str.ofString "TermError") 189), some (PySem.Value.str (PySem.Str.ofString "TermError") 197), some (PySem.Value.builtin "Exception.__new__"), some (PySem.Value.bool true)] }),
  (33, { cls := PySem.Value.type "getset_descriptor", data := PySem.Data.fields #[PySem.Value.str (PySem.Str.ofString "__weakref__") 211, PySem.Value.ref 32, PySem.Value.builtin "ExceptionGroup.__weakref__", PySem.Value.none] }),
  (44, { cls := PySem.Value.type "dict", data := PySem.Data.dict #[{ hash := PySem.PyData.keyHash P (PySem.Str.ofString "__module__"), key := PySem.Value.str (PySem.Str.ofString "__module__") 225, val := PySem.Value.str (PySem.Str.ofString "termcore.base") 187 }, { hash := PySem.PyData.keyHash P (PySem.Str.ofString "__firstlineno__"), key := PySem.Value.str (PySem.Str.ofString "__firstlineno__") 229, val := PySem.Value.int 6 228 }, { hash := PySem.PyData.keyHash P (PySem.Str.ofString "__static_attributes__"), key := PySem.Value.str (PySem.Str.ofString "__static_attributes__") 230, val := PySem.Value.ref 43 }, { hash := PySem.PyData.keyHash P (PySem.Str.ofString "__doc__"), key := PySem.Value.str (PySem.Str.ofString "__doc__") 231, val := PySem.Value.none }] 2 }),
  (45, { cls := PySem.Value.type "type", data := PySem.Data.cls { name := PySem.Str.ofString "BadParam", bases := [PySem.Value.ref 32], mro := [PySem.Value.ref 45, PySem.Value.ref 32, PySem.Value.type "Exception", PySem.Value.type "BaseException", PySem.Value.type "object"], ns := 44, qualname := PySem.Str.ofString "BadParam" }, slots := #[some (PySem.Value.ref 36), none, some (PySem.Value.str (PySem.Str.ofString "BadParam") 218), some (PySem.Value.str (PySem.Str.ofString "BadParam") 226), some (PySem.Value.builtin "Exception.__new__"), some (PySem.Value.bool true)] }),
  (53, { cls := PySem.Value.type "code", data := PySem.Data.fields #[PySem.Value.str (PySem.Str.ofString "param_is_digit") 246, PySem.Value.str (PySem.Str.ofString "param_is_digit") 247, PySem.Value.str (PySem.Str.ofString "/claim/cut.py") 248, PySem.Value.int 14 0, PySem.Value.int 2 0, PySem.Value.int 0 0, PySem.Value.int 0 0, PySem.Value.int 3 0, PySem.Value.ref 48, PySem.Value.bool true, PySem.Value.int 181 0, PySem.Value.ref 49, PySem.Value.none, PySem.Value.ref 50, PySem.Value.ref 51, PySem.Value.ref 52, PySem.Value.int 251 0, PySem.Value.int 14 0, PySem.Value.str (PySem.Str.ofString "/claim/cut.py") 252] }),
  (54, { cls := .type "function", data := .func fd54 }),
  (60, { cls := PySem.Value.type "code", data := PySem.Data.fields #[PySem.Value.str (PySem.Str.ofString "param_number") 254, PySem.Value.str (PySem.Str.ofString "param_number") 255, PySem.Value.str (PySem.Str.ofString "/claim/cut.py") 256, PySem.Value.int 16 0, PySem.Value.int 2 0, PySem.Value.int 0 0, PySem.Value.int 0 0, PySem.Value.int 3 0, PySem.Value.ref 55, PySem.Value.bool true, PySem.Value.int 181 0, PySem.Value.ref 56, PySem.Value.none, PySem.Value.ref 57, PySem.Value.ref 58, PySem.Value.ref 59, PySem.Value.int 260 0, PySem.Value.int 16 0, PySem.Value.str (PySem.Str.ofString "/claim/cut.py") 261] }),
  (61, { cls := .type "function", data := .func fd61 }),
  (74, { cls := PySem.Value.type "code", data := PySem.Data.fields #[PySem.Value.str (PySem.Str.ofString "__init__") 275, PySem.Value.str (PySem.Str.ofString "ParmReader.__init__") 276, PySem.Value.str (PySem.Str.ofString "/claim/cut.py") 277, PySem.Value.int 24 0, PySem.Value.int 2 0, PySem.Value.int 0 0, PySem.Value.int 0 0, PySem.Value.int 3 0, PySem.Value.ref 69, PySem.Value.bool true, PySem.Value.int 181 0, PySem.Value.ref 70, PySem.Value.none, PySem.Value.ref 71, PySem.Value.ref 72, PySem.Value.ref 73, PySem.Value.int 280 0, PySem.Value.int 24 0, PySem.Value.str (PySem.Str.ofString "/claim/cut.py") 281] }),
  (75, { cls := .type "function", data := .func fd75 }),
  (81, { cls := PySem.Value.type "code", data := PySem.Data.fields #[PySem.Value.str (PySem.Str.ofString "refuse") 283, PySem.Value.str (PySem.Str.ofString "ParmReader.refuse") 284, PySem.Value.str (PySem.Str.ofString "/claim/cut.py") 285, PySem.Value.int 31 0, PySem.Value.int 2 0, PySem.Value.int 0 0, PySem.Value.int 0 0, PySem.Value.int 3 0, PySem.Value.ref 76, PySem.Value.bool true, PySem.Value.int 181 0, PySem.Value.ref 77, PySem.Value.none, PySem.Value.ref 78, PySem.Value.ref 79, PySem.Value.ref 80, PySem.Value.int 288 0, PySem.Value.int 31 0, PySem.Value.str (PySem.Str.ofString "/claim/cut.py") 289] }),
  (82, { cls := .type "function", data := .func fd82 }),
  (88, { cls := PySem.Value.type "code", data := PySem.Data.fields #[PySem.Value.str (PySem.Str.ofString "end_text") 291, PySem.Value.str (PySem.Str.ofString "ParmReader.end_text") 292, PySem.Value.str (PySem.Str.ofString "/claim/cut.py") 293, PySem.Value.int 34 0, PySem.Value.int 1 0, PySem.Value.int 0 0, PySem.Value.int 0 0, PySem.Value.int 3 0, PySem.Value.ref 83, PySem.Value.bool true, PySem.Value.int 181 0, PySem.Value.ref 84, PySem.Value.none, PySem.Value.ref 85, PySem.Value.ref 86, PySem.Value.ref 87, PySem.Value.int 295 0, PySem.Value.int 34 0, PySem.Value.str (PySem.Str.ofString "/claim/cut.py") 296] }),
  (89, { cls := .type "function", data := .func fd89 }),
  (95, { cls := PySem.Value.type "code", data := PySem.Data.fields #[PySem.Value.str (PySem.Str.ofString "put") 298, PySem.Value.str (PySem.Str.ofString "ParmReader.put") 299, PySem.Value.str (PySem.Str.ofString "/claim/cut.py") 300, PySem.Value.int 39 0, PySem.Value.int 2 0, PySem.Value.int 0 0, PySem.Value.int 0 0, PySem.Value.int 3 0, PySem.Value.ref 90, PySem.Value.bool true, PySem.Value.int 181 0, PySem.Value.ref 91, PySem.Value.none, PySem.Value.ref 92, PySem.Value.ref 93, PySem.Value.ref 94, PySem.Value.int 303 0, PySem.Value.int 39 0, PySem.Value.str (PySem.Str.ofString "/claim/cut.py") 304] }),
  (96, { cls := .type "function", data := .func fd96 }),
  (102, { cls := PySem.Value.type "code", data := PySem.Data.fields #[PySem.Value.str (PySem.Str.ofString "program") 306, PySem.Value.str (PySem.Str.ofString "ParmReader.program") 307, PySem.Value.str (PySem.Str.ofString "/claim/cut.py") 308, PySem.Value.int 43 0, PySem.Value.int 1 0, PySem.Value.int 0 0, PySem.Value.int 0 0, PySem.Value.int 3 0, PySem.Value.ref 97, PySem.Value.bool true, PySem.Value.int 181 0, PySem.Value.ref 98, PySem.Value.none, PySem.Value.ref 99, PySem.Value.ref 100, PySem.Value.ref 101, PySem.Value.int 310 0, PySem.Value.int 43 0, PySem.Value.str (PySem.Str.ofString "/claim/cut.py") 311] }),
  (103, { cls := .type "function", data := .func fd103 }),
  (109, { cls := PySem.Value.type "code", data := PySem.Data.fields #[PySem.Value.str (PySem.Str.ofString "read_one") 313, PySem.Value.str (PySem.Str.ofString "ParmReader.read_one") 314, PySem.Value.str (PySem.Str.ofString "/claim/cut.py") 315, PySem.Value.int 55 0, PySem.Value.int 2 0, PySem.Value.int 0 0, PySem.Value.int 0 0, PySem.Value.int 3 0, PySem.Value.ref 104, PySem.Value.bool true, PySem.Value.int 181 0, PySem.Value.ref 105, PySem.Value.none, PySem.Value.ref 106, PySem.Value.ref 107, PySem.Value.ref 108, PySem.Value.int 319 0, PySem.Value.int 55 0, PySem.Value.str (PySem.Str.ofString "/claim/cut.py") 320] }),
  (110, { cls := .type "function", data := .func fd110 }),
  (116, { cls := PySem.Value.type "code", data := PySem.Data.fields #[PySem.Value.str (PySem.Str.ofString "read_named") 322, PySem.Value.str (PySem.Str.ofString "ParmReader.read_named") 323, PySem.Value.str (PySem.Str.ofString "/claim/cut.py") 324, PySem.Value.int 81 0, PySem.Value.int 3 0, PySem.Value.int 0 0, PySem.Value.int 0 0, PySem.Value.int 3 0, PySem.Value.ref 111, PySem.Value.bool true, PySem.Value.int 181 0, PySem.Value.ref 112, PySem.Value.none, PySem.Value.ref 113, PySem.Value.ref 114, PySem.Value.ref 115, PySem.Value.int 329 0, PySem.Value.int 81 0, PySem.Value.str (PySem.Str.ofString "/claim/cut.py") 330] }),
  (117, { cls := .type "function", data := .func fd117 }),
  (123, { cls := PySem.Value.type "code", data := PySem.Data.fields #[PySem.Value.str (PySem.Str.ofString "read_constant") 332, PySem.Value.str (PySem.Str.ofString "ParmReader.read_constant") 333, PySem.Value.str (PySem.Str.ofString "/claim/cut.py") 334, PySem.Value.int 95 0, PySem.Value.int 3 0, PySem.Value.int 0 0, PySem.Value.int 0 0, PySem.Value.int 3 0, PySem.Value.ref 118, PySem.Value.bool true, PySem.Value.int 181 0, PySem.Value.ref 119, PySem.Value.none, PySem.Value.ref 120, PySem.Value.ref 121, PySem.Value.ref 122, PySem.Value.int 340 0, PySem.Value.int 95 0, PySem.Value.str (PySem.Str.ofString "/claim/cut.py") 341] }),
  (124, { cls := .type "function", data := .func fd124 }),
  (130, { cls := PySem.Value.type "code", data := PySem.Data.fields #[PySem.Value.str (PySem.Str.ofString "read_branch") 343, PySem.Value.str (PySem.Str.ofString "ParmReader.read_branch") 344, PySem.Value.str (PySem.Str.ofString "/claim/cut.py") 345, PySem.Value.int 114 0, PySem.Value.int 3 0, PySem.Value.int 0 0, PySem.Value.int 0 0, PySem.Value.int 3 0, PySem.Value.ref 125, PySem.Value.bool true, PySem.Value.int 181 0, PySem.Value.ref 126, PySem.Value.none, PySem.Value.ref 127, PySem.Value.ref 128, PySem.Value.ref 129, PySem.Value.int 351 0, PySem.Value.int 114 0, PySem.Value.str (PySem.Str.ofString "/claim/cut.py") 352] }),
  (131, { cls := .type "function", data := .func fd131 }),
  (137, { cls := PySem.Value.type "code", data := PySem.Data.fields #[PySem.Value.str (PySem.Str.ofString "read_writer") 354, PySem.Value.str (PySem.Str.ofString "ParmReader.read_writer") 355, PySem.Value.str (PySem.Str.ofString "/claim/cut.py") 356, PySem.Value.int 141 0, PySem.Value.int 2 0, PySem.Value.int 0 0, PySem.Value.int 0 0, PySem.Value.int 3 0, PySem.Value.ref 132, PySem.Value.bool true, PySem.Value.int 181 0, PySem.Value.ref 133, PySem.Value.none, PySem.Value.ref 134, PySem.Value.ref 135, PySem.Value.ref 136, PySem.Value.int 365 0, PySem.Value.int 141 0, PySem.Value.str (PySem.Str.ofString "/claim/cut.py") 366] }),
  (138, { cls := .type "function", data := .func fd138 }),
  (140, { cls := PySem.Value.type "dict", data := PySem.Data.dict #[{ hash := PySem.PyData.keyHash P (PySem.Str.ofString "__module__"), key := PySem.Value.str (PySem.Str.ofString "__module__") 270, val := PySem.Value.str (PySem.Str.ofString "termcore.tparm") 234 }, { hash := PySem.PyData.keyHash P (PySem.Str.ofString "__firstlineno__"), key := PySem.Value.str (PySem.Str.ofString "__firstlineno__") 274, val := PySem.Value.int 22 273 }, { hash := PySem.PyData.keyHash P (PySem.Str.ofString "__init__"), key := PySem.Value.str (PySem.Str.ofString "__init__") 282, val := PySem.Value.ref 75 }, { hash := PySem.PyData.keyHash P (PySem.Str.ofString "refuse"), key := PySem.Value.str (PySem.Str.ofString "refuse") 290, val := PySem.Value.ref 82 }, { hash := PySem.PyData.keyHash P (PySem.Str.ofString "end_text"), key := PySem.Value.str (PySem.Str.ofString "end_text") 297, val := PySem.Value.ref 89 }, { hash := PySem.PyData.keyHash P (PySem.Str.ofString "put"), key := PySem.Value.str (PySem.Str.ofString "put") 305, val := PySem.Value.ref 96 }, { hash := PySem.PyData.keyHash P (PySem.Str.ofString "program"), key := PySem.Value.str (PySem.Str.ofString "program") 312, val := PySem.Value.ref 103 }, { hash := PySem.PyData.keyHash P (PySem.Str.ofString "read_one"), key := PySem.Value.str (PySem.Str.ofString "read_one") 321, val := PySem.Value.ref 110 }, { hash := PySem.PyData.keyHash P (PySem.Str.ofString "read_named"), key := PySem.Value.str (PySem.Str.ofString "read_named") 331, val := PySem.Value.ref 117 }, { hash := PySem.PyData.keyHash P (PySem.Str.ofString "read_constant"), key := PySem.Value.str (PySem.Str.ofString "read_constant") 342, val := PySem.Value.ref 124 }, { hash := PySem.PyData.keyHash P (PySem.Str.ofString "read_branch"), key := PySem.Value.str (PySem.Str.ofString "read_branch") 353, val := PySem.Value.ref 131 }, { hash := PySem.PyData.keyHash P (PySem.Str.ofString "read_writer"), key := PySem.Value.str (PySem.Str.ofString "read_writer") 367, val := PySem.Value.ref 138 }, { hash := PySem.PyData.keyHash P (PySem.Str.ofString "__static_attributes__"), key := PySem.Value.str (PySem.Str.ofString "__static_attributes__") 373, val := PySem.Value.ref 139 }, { hash := PySem.PyData.keyHash P (PySem.Str.ofString "__dict__"), key := PySem.Value.str (PySem.Str.ofString "__dict__") 375, val := PySem.Value.ref 142 }, { hash := PySem.PyData.keyHash P (PySem.Str.ofString "__weakref__"), key := PySem.Value.str (PySem.Str.ofString "__weakref__") 377, val := PySem.Value.ref 143 }, { hash := PySem.PyData.keyHash P (PySem.Str.ofString "__doc__"), key := PySem.Value.str (PySem.Str.ofString "__doc__") 378, val := PySem.Value.none }] 4 }),
  (141, { cls := PySem.Value.type "type", data := PySem.Data.cls { name := PySem.Str.ofString "ParmReader", bases := [PySem.Value.type "object"], mro := [PySem.Value.ref 141, PySem.Value.type "object"], ns := 140, qualname := PySem.Str.ofString "ParmReader" }, slots := #[none, none, some (PySem.Value.str (PySem.Str.ofString "ParmReader") 263), some (PySem.Value.str (PySem.Str.ofString "ParmReader") 271), some (PySem.Value.builtin "object.__new__"), some (PySem.Value.bool true)] }),
  (142, { cls := PySem.Value.type "getset_descriptor", data := PySem.Data.fields #[PySem.Value.str (PySem.Str.ofString "__dict__") 374, PySem.Value.ref 141, PySem.Value.builtin "function.__dict__", PySem.Value.builtin "function.__dict__#set"] }),
  (143, { cls := PySem.Value.type "getset_descriptor", data := PySem.Data.fields #[PySem.Value.str (PySem.Str.ofString "__weakref__") 376, PySem.Value.ref 141, PySem.Value.builtin "ExceptionGroup.__weakref__", PySem.Value.none] }),
  (151, { cls := PySem.Value.type "code", data := PySem.Data.fields #[PySem.Value.str (PySem.Str.ofString "tparm_program") 381, PySem.Value.str (PySem.Str.ofString "tparm_program") 382, PySem.Value.str (PySem.Str.ofString "/claim/cut.py") 383, PySem.Value.int 159 0, PySem.Value.int 1 0, PySem.Value.int 0 0, PySem.Value.int 0 0, PySem.Value.int 3 0, PySem.Value.ref 146, PySem.Value.bool true, PySem.Value.int 181 0, PySem.Value.ref 147, PySem.Value.none, PySem.Value.ref 148, PySem.Value.ref 149, PySem.Value.ref 150, PySem.Value.int 385 0, PySem.Value.int 159 0, PySem.Value.str (PySem.Str.ofString "/claim/cut.py") 386] }),
  (152, { cls := .type "function", data := .func fd152 }),
  (156, { cls := PySem.Value.type "code", data := PySem.Data.fields #[PySem.Value.str (PySem.Str.ofString "param_most") 388, PySem.Value.str (PySem.Str.ofString "param_most") 389, PySem.Value.str (PySem.Str.ofString "/claim/cut.py") 390, PySem.Value.int 161 0, PySem.Value.int 1 0, PySem.Value.int 0 0, PySem.Value.int 0 0, PySem.Value.int 3 0, PySem.Value.ref 153, PySem.Value.bool true, PySem.Value.int 181 0, PySem.Value.ref 154, PySem.Value.none, PySem.Value.none, PySem.Value.none, PySem.Value.ref 155, PySem.Value.int 391 0, PySem.Value.int 161 0, PySem.Value.str (PySem.Str.ofString "/claim/cut.py") 392] }),
  (157, { cls := .type "function", data := .func fd157 }),
  (163, { cls := PySem.Value.type "code", data := PySem.Data.fields #[PySem.Value.str (PySem.Str.ofString "param_is_plain") 394, PySem.Value.str (PySem.Str.ofString "param_is_plain") 395, PySem.Value.str (PySem.Str.ofString "/claim/cut.py") 396, PySem.Value.int 163 0, PySem.Value.int 1 0, PySem.Value.int 0 0, PySem.Value.int 0 0, PySem.Value.int 3 0, PySem.Value.ref 158, PySem.Value.bool true, PySem.Value.int 181 0, PySem.Value.ref 159, PySem.Value.none, PySem.Value.ref 160, PySem.Value.ref 161, PySem.Value.ref 162, PySem.Value.int 398 0, PySem.Value.int 163 0, PySem.Value.str (PySem.Str.ofString "/claim/cut.py") 399] }),
  (164, { cls := .type "function", data := .func fd164 }),
  (170, { cls := PySem.Value.type "code", data := PySem.Data.fields #[PySem.Value.str (PySem.Str.ofString "delay_at") 401, PySem.Value.str (PySem.Str.ofString "delay_at") 402, PySem.Value.str (PySem.Str.ofString "/claim/cut.py") 403, PySem.Value.int 165 0, PySem.Value.int 2 0, PySem.Value.int 0 0, PySem.Value.int 0 0, PySem.Value.int 3 0, PySem.Value.ref 165, PySem.Value.bool true, PySem.Value.int 181 0, PySem.Value.ref 166, PySem.Value.none, PySem.Value.ref 167, PySem.Value.ref 168, PySem.Value.ref 169, PySem.Value.int 411 0, PySem.Value.int 165 0, PySem.Value.str (PySem.Str.ofString "/claim/cut.py") 412] }),
  (171, { cls := .type "function", data := .func fd171 }),
  (177, { cls := PySem.Value.type "code", data := PySem.Data.fields #[PySem.Value.str (PySem.Str.ofString "delays_of") 414, PySem.Value.str (PySem.Str.ofString "delays_of") 415, PySem.Value.str (PySem.Str.ofString "/claim/cut.py") 416, PySem.Value.int 184 0, PySem.Value.int 1 0, PySem.Value.int 0 0, PySem.Value.int 0 0, PySem.Value.int 3 0, PySem.Value.ref 172, PySem.Value.bool true, PySem.Value.int 181 0, PySem.Value.ref 173, PySem.Value.none, PySem.Value.ref 174, PySem.Value.ref 175, PySem.Value.ref 176, PySem.Value.int 422 0, PySem.Value.int 184 0, PySem.Value.str (PySem.Str.ofString "/claim/cut.py") 423] }),
  (178, { cls := .type "function", data := .func fd178 }),
  (184, { cls := PySem.Value.type "code", data := PySem.Data.fields #[PySem.Value.str (PySem.Str.ofString "without_delays") 425, PySem.Value.str (PySem.Str.ofString "without_delays") 426, PySem.Value.str (PySem.Str.ofString "/claim/cut.py") 427, PySem.Value.int 197 0, PySem.Value.int 1 0, PySem.Value.int 0 0, PySem.Value.int 0 0, PySem.Value.int 3 0, PySem.Value.ref 179, PySem.Value.bool true, PySem.Value.int 181 0, PySem.Value.ref 180, PySem.Value.none, PySem.Value.ref 181, PySem.Value.ref 182, PySem.Value.ref 183, PySem.Value.int 429 0, PySem.Value.int 197 0, PySem.Value.str (PySem.Str.ofString "/claim/cut.py") 430] }),
  (185, { cls := .type "function", data := .func fd185 }),
  (186, { cls := PySem.Value.type "tuple", data := PySem.Data.seq #[PySem.Value.int 1 432] }),
  (192, { cls := PySem.Value.type "code", data := PySem.Data.fields #[PySem.Value.str (PySem.Str.ofString "delay_total") 433, PySem.Value.str (PySem.Str.ofString "delay_total") 434, PySem.Value.str (PySem.Str.ofString "/claim/cut.py") 435, PySem.Value.int 199 0, PySem.Value.int 2 0, PySem.Value.int 0 0, PySem.Value.int 0 0, PySem.Value.int 3 0, PySem.Value.ref 187, PySem.Value.bool true, PySem.Value.int 181 0, PySem.Value.ref 188, PySem.Value.none, PySem.Value.ref 189, PySem.Value.ref 190, PySem.Value.ref 191, PySem.Value.int 443 0, PySem.Value.int 199 0, PySem.Value.str (PySem.Str.ofString "/claim/cut.py") 444] }),
  (193, { cls := .type "function", data := .func fd193 }),
  (201, { cls := PySem.Value.type "tuple", data := PySem.Data.seq #[] }),
  (202, { cls := PySem.Value.type "tuple", data := PySem.Data.seq #[PySem.Value.ref 201] }),
  (208, { cls := PySem.Value.type "code", data := PySem.Data.fields #[PySem.Value.str (PySem.Str.ofString "__init__") 460, PySem.Value.str (PySem.Str.ofString "Info.__init__") 461, PySem.Value.str (PySem.Str.ofString "/claim/cut.py") 462, PySem.Value.int 207 0, PySem.Value.int 7 0, PySem.Value.int 0 0, PySem.Value.int 0 0, PySem.Value.int 3 0, PySem.Value.ref 203, PySem.Value.bool true, PySem.Value.int 181 0, PySem.Value.ref 204, PySem.Value.none, PySem.Value.ref 205, PySem.Value.ref 206, PySem.Value.ref 207, PySem.Value.int 470 0, PySem.Value.int 207 0, PySem.Value.str (PySem.Str.ofString "/claim/cut.py") 471] }),
  (209, { cls := .type "function", data := .func fd209 }),
  (211, { cls := PySem.Value.type "dict", data := PySem.Data.dict #[{ hash := PySem.PyData.keyHash P (PySem.Str.ofString "__module__"), key := PySem.Value.str (PySem.Str.ofString "__module__") 455, val := PySem.Value.str (PySem.Str.ofString "termcore.terminfo") 446 }, { hash := PySem.PyData.keyHash P (PySem.Str.ofString "__firstlineno__"), key := PySem.Value.str (PySem.Str.ofString "__firstlineno__") 459, val := PySem.Value.int 205 458 }, { hash := PySem.PyData.keyHash P (PySem.Str.ofString "__init__"), key := PySem.Value.str (PySem.Str.ofString "__init__") 472, val := PySem.Value.ref 209 }, { hash := PySem.PyData.keyHash P (PySem.Str.ofString "__static_attributes__"), key := PySem.Value.str (PySem.Str.ofString "__static_attributes__") 479, val := PySem.Value.ref 210 }, { hash := PySem.PyData.keyHash P (PySem.Str.ofString "__dict__"), key := PySem.Value.str (PySem.Str.ofString "__dict__") 481, val := PySem.Value.ref 213 }, { hash := PySem.PyData.keyHash P (PySem.Str.ofString "__weakref__"), key := PySem.Value.str (PySem.Str.ofString "__weakref__") 483, val := PySem.Value.ref 214 }, { hash := PySem.PyData.keyHash P (PySem.Str.ofString "__doc__"), key := PySem.Value.str (PySem.Str.ofString "__doc__") 484, val := PySem.Value.none }] 4 }),
  (212, { cls := PySem.Value.type "type", data := PySem.Data.cls { name := PySem.Str.ofString "Info", bases := [PySem.Value.type "object"], mro := [PySem.Value.ref 212, PySem.Value.type "object"], ns := 211, qualname := PySem.Str.ofString "Info" }, slots := #[none, none, some (PySem.Value.str (PySem.Str.ofString "Info") 448), some (PySem.Value.str (PySem.Str.ofString "Info") 456), some (PySem.Value.builtin "object.__new__"), some (PySem.Value.bool true)] }),
  (213, { cls := PySem.Value.type "getset_descriptor", data := PySem.Data.fields #[PySem.Value.str (PySem.Str.ofString "__dict__") 480, PySem.Value.ref 212, PySem.Value.builtin "function.__dict__", PySem.Value.builtin "function.__dict__#set"] }),
  (214, { cls := PySem.Value.type "getset_descriptor", data := PySem.Data.fields #[PySem.Value.str (PySem.Str.ofString "__weakref__") 482, PySem.Value.ref 212, PySem.Value.builtin "ExceptionGroup.__weakref__", PySem.Value.none] }),
  (220, { cls := PySem.Value.type "code", data := PySem.Data.fields #[PySem.Value.str (PySem.Str.ofString "differences") 487, PySem.Value.str (PySem.Str.ofString "differences") 488, PySem.Value.str (PySem.Str.ofString "/claim/cut.py") 489, PySem.Value.int 214 0, PySem.Value.int 2 0, PySem.Value.int 0 0, PySem.Value.int 0 0, PySem.Value.int 3 0, PySem.Value.ref 217, PySem.Value.bool true, PySem.Value.int 181 0, PySem.Value.ref 218, PySem.Value.none, PySem.Value.none, PySem.Value.none, PySem.Value.ref 219, PySem.Value.int 490 0, PySem.Value.int 214 0, PySem.Value.str (PySem.Str.ofString "/claim/cut.py") 491] }),
  (221, { cls := .type "function", data := .func fd221 }),
  (222, { cls := PySem.Value.type "tuple", data := PySem.Data.seq #[PySem.Value.bytes #[97] 495, PySem.Value.bytes #[36, 60, 53, 62] 496, PySem.Value.bytes #[36, 60, 49, 50, 46, 53, 42, 62] 497, PySem.Value.bytes #[36, 60, 48, 48, 55, 42, 47, 62] 498, PySem.Value.bytes #[36, 60, 51, 47, 47, 42, 42, 62] 499, PySem.Value.bytes #[36] 500, PySem.Value.bytes #[60, 53, 62] 501, PySem.Value.bytes #[36, 60] 502, PySem.Value.bytes #[36, 60, 46, 53, 62] 503, PySem.Value.bytes #[36, 60, 53, 46, 62] 504, PySem.Value.bytes #[36, 60, 53, 46, 50, 53, 62] 505, PySem.Value.bytes #[36, 60, 62] 506, PySem.Value.bytes #[53, 62] 507, PySem.Value.bytes #[36, 60, 57, 47, 120, 62] 508, PySem.Value.bytes #[37, 112, 49] 509, PySem.Value.bytes #[36, 60, 48, 46, 48, 62] 510, PySem.Value.bytes #[42, 62] 511] }),
  (223, { cls := PySem.Value.type "tuple", data := PySem.Data.seq #[PySem.Value.bytes #[97, 98] 513, PySem.Value.int 0 514] }),
  (224, { cls := PySem.Value.type "tuple", data := PySem.Data.seq #[PySem.Value.bytes #[37, 37] 515, PySem.Value.int 0 516] }),
  (225, { cls := PySem.Value.type "tuple", data := PySem.Data.seq #[PySem.Value.bytes #[37, 112, 51] 517, PySem.Value.int 3 518] }),
  (226, { cls := PySem.Value.type "tuple", data := PySem.Data.seq #[PySem.Value.bytes #[37, 112, 49, 48] 519, PySem.Value.int 1 520] }),
  (227, { cls := PySem.Value.type "tuple", data := PySem.Data.seq #[PySem.Value.bytes #[37, 123, 49, 50, 125] 521, PySem.Value.int 0 522] }),
  (228, { cls := PySem.Value.type "tuple", data := PySem.Data.seq #[PySem.Value.bytes #[37, 123, 45, 53, 125] 523, PySem.Value.int 0 524] }),
  (229, { cls := PySem.Value.type "tuple", data := PySem.Data.seq #[PySem.Value.bytes #[37, 39, 120, 39] 525, PySem.Value.int 0 526] }),
  (230, { cls := PySem.Value.type "tuple", data := PySem.Data.seq #[PySem.Value.bytes #[37, 39, 39, 39] 527, PySem.Value.int 0 528] }),
  (231, { cls := PySem.Value.type "tuple", data := PySem.Data.seq #[PySem.Value.bytes #[37, 80, 65] 529, PySem.Value.int 0 530] }),
  (232, { cls := PySem.Value.type "tuple", data := PySem.Data.seq #[PySem.Value.bytes #[37, 103, 122] 531, PySem.Value.int 0 532] }),
  (233, { cls := PySem.Value.type "tuple", data := PySem.Data.seq #[PySem.Value.bytes #[37, 112, 57, 37, 100] 533, PySem.Value.int 9 534] }),
  (234, { cls := PySem.Value.type "tuple", data := PySem.Data.seq #[PySem.Value.bytes #[37, 112, 50, 37, 58, 45, 53, 100] 535, PySem.Value.int 2 536] }),
  (235, { cls := PySem.Value.type "tuple", data := PySem.Data.seq #[PySem.Value.bytes #[37, 112, 49, 37, 48, 53, 46, 51, 120] 537, PySem.Value.int 1 538] }),
  (236, { cls := PySem.Value.type "tuple", data := PySem.Data.seq #[PySem.Value.bytes #[37, 35, 111] 539, PySem.Value.int 0 540] }),
  (237, { cls := PySem.Value.type "tuple", data := PySem.Data.seq #[PySem.Value.bytes #[37, 112, 52, 37, 108] 541, PySem.Value.int 4 542] }),
  (238, { cls := PySem.Value.type "tuple", data := PySem.Data.seq #[PySem.Value.bytes #[37, 112, 53, 37, 112, 54, 37, 43] 543, PySem.Value.int 6 544] }),
  (239, { cls := PySem.Value.type "tuple", data := PySem.Data.seq #[PySem.Value.bytes #[37, 105] 545, PySem.Value.int 0 546] }),
  (240, { cls := PySem.Value.type "tuple", data := PySem.Data.seq #[PySem.Value.bytes #[36, 60, 53, 62] 547, PySem.Value.int 0 548] }),
  (241, { cls := PySem.Value.type "tuple", data := PySem.Data.seq #[PySem.Value.bytes #[37, 45, 53, 100] 549, PySem.Value.int 0 550] }),
  (242, { cls := PySem.Value.type "tuple", data := PySem.Data.seq #[PySem.Value.bytes #[37, 58, 100] 551, PySem.Value.int 0 552] }),
  (243, { cls := PySem.Value.type "tuple", data := PySem.Data.seq #[PySem.Value.bytes #[37, 46, 100] 553, PySem.Value.int 0 554] }),
  (244, { cls := PySem.Value.type "tuple", data := PySem.Data.seq #[PySem.Value.bytes #[37, 112, 55, 37, 33, 37, 126] 555, PySem.Value.int 7 556] }),
  (245, { cls := PySem.Value.type "tuple", data := PySem.Data.seq #[PySem.Value.bytes #[37, 112, 56, 37, 115] 557, PySem.Value.int 8 558] }),
  (246, { cls := PySem.Value.type "tuple", data := PySem.Data.seq #[PySem.Value.bytes #[37] 559, PySem.Value.int (-1) 561] }),
  (247, { cls := PySem.Value.type "tuple", data := PySem.Data.seq #[PySem.Value.ref 223, PySem.Value.ref 224, PySem.Value.ref 225, PySem.Value.ref 226, PySem.Value.ref 227, PySem.Value.ref 228, PySem.Value.ref 229, PySem.Value.ref 230, PySem.Value.ref 231, PySem.Value.ref 232, PySem.Value.ref 233, PySem.Value.ref 234, PySem.Value.ref 235, PySem.Value.ref 236, PySem.Value.ref 237, PySem.Value.ref 238, PySem.Value.ref 239, PySem.Value.ref 240, PySem.Value.ref 241, PySem.Value.ref 242, PySem.Value.ref 243, PySem.Value.ref 244, PySem.Value.ref 245, PySem.Value.ref 246] }),
  (248, { cls := PySem.Value.type "tuple", data := PySem.Data.seq #[PySem.Value.bytes #[37, 122] 563, PySem.Value.int 0 564] }),
  (249, { cls := PySem.Value.type "tuple", data := PySem.Data.seq #[PySem.Value.bytes #[37, 112, 48] 565, PySem.Value.int 0 566] }),
  (250, { cls := PySem.Value.type "tuple", data := PySem.Data.seq #[PySem.Value.bytes #[37, 123, 125] 567, PySem.Value.int 0 568] }),
  (251, { cls := PySem.Value.type "tuple", data := PySem.Data.seq #[PySem.Value.bytes #[37, 123, 53] 569, PySem.Value.int 0 570] }),
  (252, { cls := PySem.Value.type "tuple", data := PySem.Data.seq #[PySem.Value.bytes #[37, 39, 120] 571, PySem.Value.int 0 572] }),
  (253, { cls := PySem.Value.type "tuple", data := PySem.Data.seq #[PySem.Value.bytes #[37, 80, 49] 573, PySem.Value.int 0 574] }),
  (254, { cls := PySem.Value.type "tuple", data := PySem.Data.seq #[PySem.Value.bytes #[37, 116] 575, PySem.Value.int 0 576] }),
  (255, { cls := PySem.Value.type "tuple", data := PySem.Data.seq #[PySem.Value.bytes #[37, 59] 577, PySem.Value.int 0 578] }),
  (256, { cls := PySem.Value.type "tuple", data := PySem.Data.seq #[PySem.Value.bytes #[37, 101] 579, PySem.Value.int 0 580] }),
  (257, { cls := PySem.Value.type "tuple", data := PySem.Data.seq #[PySem.Value.bytes #[37, 63, 37, 112, 49, 37, 101, 97, 98] 581, PySem.Value.int 5 582] }),
  (258, { cls := PySem.Value.type "tuple", data := PySem.Data.seq #[PySem.Value.bytes #[37, 63, 37, 112, 49, 37, 116, 97, 98, 37, 116, 99, 100, 37, 59] 583, PySem.Value.int 9 584] }),
  (259, { cls := PySem.Value.type "tuple", data := PySem.Data.seq #[PySem.Value.bytes #[37, 63, 37, 116, 37, 101, 37, 101, 37, 59] 585, PySem.Value.int 6 586] }),
  (260, { cls := PySem.Value.type "tuple", data := PySem.Data.seq #[PySem.Value.bytes #[37] 587, PySem.Value.int 0 588] }),
  (261, { cls := PySem.Value.type "tuple", data := PySem.Data.seq #[PySem.Value.bytes #[37, 112] 589, PySem.Value.int 0 590] }),
  (262, { cls := PySem.Value.type "tuple", data := PySem.Data.seq #[PySem.Value.bytes #[37, 53] 591, PySem.Value.int 0 592] }),
  (263, { cls := PySem.Value.type "tuple", data := PySem.Data.seq #[PySem.Value.bytes #[37, 63, 37, 112, 49, 37, 116] 593, PySem.Value.int (-1) 595] }),
  (264, { cls := PySem.Value.type "tuple", data := PySem.Data.seq #[PySem.Value.ref 248, PySem.Value.ref 249, PySem.Value.ref 250, PySem.Value.ref 251, PySem.Value.ref 252, PySem.Value.ref 253, PySem.Value.ref 254, PySem.Value.ref 255, PySem.Value.ref 256, PySem.Value.ref 257, PySem.Value.ref 258, PySem.Value.ref 259, PySem.Value.ref 260, PySem.Value.ref 261, PySem.Value.ref 262, PySem.Value.ref 263] }),
  (265, { cls := PySem.Value.type "tuple", data := PySem.Data.seq #[PySem.Value.bytes #[97, 109] 597, PySem.Value.bytes #[98, 99, 101] 598, PySem.Value.bytes #[99, 111, 108, 115] 599, PySem.Value.bytes #[108, 105, 110, 101, 115] 600, PySem.Value.bytes #[98, 101, 108] 601, PySem.Value.bytes #[115, 109, 99, 117, 112] 602, PySem.Value.bytes #[88, 84] 603, PySem.Value.bytes #[84, 99] 604] }),
  (271, { cls := PySem.Value.type "code", data := PySem.Data.fields #[PySem.Value.str (PySem.Str.ofString "_law_draw") 606, PySem.Value.str (PySem.Str.ofString "_law_draw") 607, PySem.Value.str (PySem.Str.ofString "/claim/cut.py") 608, PySem.Value.int 229 0, PySem.Value.int 2 0, PySem.Value.int 0 0, PySem.Value.int 0 0, PySem.Value.int 3 0, PySem.Value.ref 266, PySem.Value.bool true, PySem.Value.int 181 0, PySem.Value.ref 267, PySem.Value.none, PySem.Value.ref 268, PySem.Value.ref 269, PySem.Value.ref 270, PySem.Value.int 615 0, PySem.Value.int 229 0, PySem.Value.str (PySem.Str.ofString "/claim/cut.py") 616] }),
  (272, { cls := .type "function", data := .func fd272 }),
  (278, { cls := PySem.Value.type "code", data := PySem.Data.fields #[PySem.Value.str (PySem.Str.ofString "_law_pick") 618, PySem.Value.str (PySem.Str.ofString "_law_pick") 619, PySem.Value.str (PySem.Str.ofString "/claim/cut.py") 620, PySem.Value.int 236 0, PySem.Value.int 2 0, PySem.Value.int 0 0, PySem.Value.int 0 0, PySem.Value.int 3 0, PySem.Value.ref 273, PySem.Value.bool true, PySem.Value.int 181 0, PySem.Value.ref 274, PySem.Value.none, PySem.Value.ref 275, PySem.Value.ref 276, PySem.Value.ref 277, PySem.Value.int 623 0, PySem.Value.int 236 0, PySem.Value.str (PySem.Str.ofString "/claim/cut.py") 624] }),
  (279, { cls := .type "function", data := .func fd279 }),
  (283, { cls := PySem.Value.type "code", data := PySem.Data.fields #[PySem.Value.str (PySem.Str.ofString "_law_figures") 626, PySem.Value.str (PySem.Str.ofString "_law_figures") 627, PySem.Value.str (PySem.Str.ofString "/claim/cut.py") 628, PySem.Value.int 238 0, PySem.Value.int 1 0, PySem.Value.int 0 0, PySem.Value.int 0 0, PySem.Value.int 3 0, PySem.Value.ref 280, PySem.Value.bool true, PySem.Value.int 181 0, PySem.Value.ref 281, PySem.Value.none, PySem.Value.none, PySem.Value.none, PySem.Value.ref 282, PySem.Value.int 629 0, PySem.Value.int 238 0, PySem.Value.str (PySem.Str.ofString "/claim/cut.py") 630] }),
  (284, { cls := .type "function", data := .func fd284 }),
  (290, { cls := PySem.Value.type "code", data := PySem.Data.fields #[PySem.Value.str (PySem.Str.ofString "_law_delay") 632, PySem.Value.str (PySem.Str.ofString "_law_delay") 633, PySem.Value.str (PySem.Str.ofString "/claim/cut.py") 634, PySem.Value.int 245 0, PySem.Value.int 2 0, PySem.Value.int 0 0, PySem.Value.int 0 0, PySem.Value.int 3 0, PySem.Value.ref 285, PySem.Value.bool true, PySem.Value.int 181 0, PySem.Value.ref 286, PySem.Value.none, PySem.Value.ref 287, PySem.Value.ref 288, PySem.Value.ref 289, PySem.Value.int 643 0, PySem.Value.int 245 0, PySem.Value.str (PySem.Str.ofString "/claim/cut.py") 644] }),
  (291, { cls := .type "function", data := .func fd291 }),
  (295, { cls := PySem.Value.type "code", data := PySem.Data.fields #[PySem.Value.str (PySem.Str.ofString "_law_delays_right") 646, PySem.Value.str (PySem.Str.ofString "_law_delays_right") 647, PySem.Value.str (PySem.Str.ofString "/claim/cut.py") 648, PySem.Value.int 260 0, PySem.Value.int 1 0, PySem.Value.int 0 0, PySem.Value.int 0 0, PySem.Value.int 3 0, PySem.Value.ref 292, PySem.Value.bool true, PySem.Value.int 181 0, PySem.Value.ref 293, PySem.Value.none, PySem.Value.none, PySem.Value.none, PySem.Value.ref 294, PySem.Value.int 649 0, PySem.Value.int 260 0, PySem.Value.str (PySem.Str.ofString "/claim/cut.py") 650] }),
  (296, { cls := .type "function", data := .func fd296 }),
  (302, { cls := PySem.Value.type "code", data := PySem.Data.fields #[PySem.Value.str (PySem.Str.ofString "_law_made") 652, PySem.Value.str (PySem.Str.ofString "_law_made") 653, PySem.Value.str (PySem.Str.ofString "/claim/cut.py") 654, PySem.Value.int 280 0, PySem.Value.int 2 0, PySem.Value.int 0 0, PySem.Value.int 0 0, PySem.Value.int 3 0, PySem.Value.ref 297, PySem.Value.bool true, PySem.Value.int 181 0, PySem.Value.ref 298, PySem.Value.none, PySem.Value.ref 299, PySem.Value.ref 300, PySem.Value.ref 301, PySem.Value.int 668 0, PySem.Value.int 280 0, PySem.Value.str (PySem.Str.ofString "/claim/cut.py") 669] }),
  (303, { cls := .type "function", data := .func fd303 }),
  (309, { cls := PySem.Value.type "code", data := PySem.Data.fields #[PySem.Value.str (PySem.Str.ofString "_law_told") 671, PySem.Value.str (PySem.Str.ofString "_law_told") 672, PySem.Value.str (PySem.Str.ofString "/claim/cut.py") 673, PySem.Value.int 299 0, PySem.Value.int 2 0, PySem.Value.int 0 0, PySem.Value.int 0 0, PySem.Value.int 3 0, PySem.Value.ref 304, PySem.Value.bool true, PySem.Value.int 181 0, PySem.Value.ref 305, PySem.Value.none, PySem.Value.ref 306, PySem.Value.ref 307, PySem.Value.ref 308, PySem.Value.int 678 0, PySem.Value.int 299 0, PySem.Value.str (PySem.Str.ofString "/claim/cut.py") 679] }),
  (310, { cls := .type "function", data := .func fd310 }),
  (316, { cls := PySem.Value.type "code", data := PySem.Data.fields #[PySem.Value.str (PySem.Str.ofString "_law_most_right") 681, PySem.Value.str (PySem.Str.ofString "_law_most_right") 682, PySem.Value.str (PySem.Str.ofString "/claim/cut.py") 683, PySem.Value.int 306 0, PySem.Value.int 1 0, PySem.Value.int 0 0, PySem.Value.int 0 0, PySem.Value.int 3 0, PySem.Value.ref 311, PySem.Value.bool true, PySem.Value.int 181 0, PySem.Value.ref 312, PySem.Value.none, PySem.Value.ref 313, PySem.Value.ref 314, PySem.Value.ref 315, PySem.Value.int 693 0, PySem.Value.int 306 0, PySem.Value.str (PySem.Str.ofString "/claim/cut.py") 694] }),
  (317, { cls := .type "function", data := .func fd317 }),
  (323, { cls := PySem.Value.type "code", data := PySem.Data.fields #[PySem.Value.str (PySem.Str.ofString "_law_info") 696, PySem.Value.str (PySem.Str.ofString "_law_info") 697, PySem.Value.str (PySem.Str.ofString "/claim/cut.py") 698, PySem.Value.int 316 0, PySem.Value.int 1 0, PySem.Value.int 0 0, PySem.Value.int 0 0, PySem.Value.int 3 0, PySem.Value.ref 318, PySem.Value.bool true, PySem.Value.int 181 0, PySem.Value.ref 319, PySem.Value.none, PySem.Value.ref 320, PySem.Value.ref 321, PySem.Value.ref 322, PySem.Value.int 705 0, PySem.Value.int 316 0, PySem.Value.str (PySem.Str.ofString "/claim/cut.py") 706] }),
  (324, { cls := .type "function", data := .func fd324 }),
  (330, { cls := PySem.Value.type "code", data := PySem.Data.fields #[PySem.Value.str (PySem.Str.ofString "_law_is_like") 708, PySem.Value.str (PySem.Str.ofString "_law_is_like") 709, PySem.Value.str (PySem.Str.ofString "/claim/cut.py") 710, PySem.Value.int 324 0, PySem.Value.int 2 0, PySem.Value.int 0 0, PySem.Value.int 0 0, PySem.Value.int 3 0, PySem.Value.ref 325, PySem.Value.bool true, PySem.Value.int 181 0, PySem.Value.ref 326, PySem.Value.none, PySem.Value.ref 327, PySem.Value.ref 328, PySem.Value.ref 329, PySem.Value.int 713 0, PySem.Value.int 324 0, PySem.Value.str (PySem.Str.ofString "/claim/cut.py") 714] }),
  (331, { cls := .type "function", data := .func fd331 }),
  (335, { cls := PySem.Value.type "code", data := PySem.Data.fields #[PySem.Value.str (PySem.Str.ofString "_law_infos_right") 716, PySem.Value.str (PySem.Str.ofString "_law_infos_right") 717, PySem.Value.str (PySem.Str.ofString "/claim/cut.py") 718, PySem.Value.int 326 0, PySem.Value.int 1 0, PySem.Value.int 0 0, PySem.Value.int 0 0, PySem.Value.int 3 0, PySem.Value.ref 332, PySem.Value.bool true, PySem.Value.int 181 0, PySem.Value.ref 333, PySem.Value.none, PySem.Value.none, PySem.Value.none, PySem.Value.ref 334, PySem.Value.int 719 0, PySem.Value.int 326 0, PySem.Value.str (PySem.Str.ofString "/claim/cut.py") 720] }),
  (336, { cls := .type "function", data := .func fd336 }),
  (340, { cls := PySem.Value.type "code", data := PySem.Data.fields #[PySem.Value.str (PySem.Str.ofString "law") 722, PySem.Value.str (PySem.Str.ofString "law") 723, PySem.Value.str (PySem.Str.ofString "/claim/cut.py") 724, PySem.Value.int 340 0, PySem.Value.int 1 0, PySem.Value.int 0 0, PySem.Value.int 0 0, PySem.Value.int 3 0, PySem.Value.ref 337, PySem.Value.bool true, PySem.Value.int 181 0, PySem.Value.ref 338, PySem.Value.none, PySem.Value.none, PySem.Value.none, PySem.Value.ref 339, PySem.Value.int 725 0, PySem.Value.int 340 0, PySem.Value.str (PySem.Str.ofString "/claim/cut.py") 726] }),
  (341, { cls := .type "function", data := .func fd341 })
]
noncomputable def KFas : List Addr := [2, 3, 22, 28, 29, 31, 32, 33, 44, 45, 53, 54, 60, 61, 74, 75, 81, 82, 88, 89, 95, 96, 102, 103, 109, 110, 116, 117, 123, 124, 130, 131, 137, 138, 140, 141, 142, 143, 151, 152, 156, 157, 163, 164, 170, 171, 177, 178, 184, 185, 186, 192, 193, 201, 202, 208, 209, 211, 212, 213, 214, 220, 221, 222, 223, 224, 225, 226, 227, 228, 229, 230, 231, 232, 233, 234, 235, 236, 237, 238, 239, 240, 241, 242, 243, 244, 245, 246, 247, 248, 249, 250, 251, 252, 253, 254, 255, 256, 257, 258, 259, 260, 261, 262, 263, 264, 265, 271, 272, 278, 279, 283, 284, 290, 291, 295, 296, 302, 303, 309, 310, 316, 317, 323, 324, 330, 331, 335, 336, 340, 341]

noncomputable def topFromF (tb : String → Option Builtin) (p : Program) (w : World) (N : Nat) (s₀ : Shared) : Option Shared :=
  match s₀.heap.isNs mainGlobals && s₀.gens.size == 0 with
  | true => (PySem.W.Fast.tw14082659384304107361 tb p w s₀.heap.objs.size (s₀.heap.nsMap mainGlobals "__annotations__") N s₀ (topStub p)).bind fun s₁ => match staticsOk (importedModules p.main.body) s₀.heap s₁.heap && namesBound p s₁.heap && gensDone s₁ && laidKept s₀.heap s₁.heap with
      | true => some s₁
      | false => none
  | false => none
theorem topFrom_eq : @topFrom = topFromF := by
  funext tb p w N s
  unfold topFrom topFromF
  rw [← PySem.W.Fast.te14082659384304107361]
  rfl

theorem left_of {q : Program} {loose : List Str} {Xt : Shared → Bool} {α : Type} {Yf : Shared → α} {Ya : World → α} {N : Nat}
    (e : opening pw = plainProg pw.main.scope.names) (hN : Nat.ble 600 N = true) (f : ∀ s, fenceModules? pw s = some s)
    (run : ∀ (w : World) (os : OsState), (topFromF PySem.W.Fast.tw14364793385576792824 pw w N ⟨boot_heap w.params, Array.mk [], boot_drawn, boot_toks, os⟩).map (fun s => (PySem.W.Fast.tw4187177175401517315 q loose (importedModules pw.main.body) Xt true s, Yf s)) = some (openGood q loose, Ya w)) :
    LeftO pw q loose Xt Yf Ya N := fun w => by
  obtain ⟨⟨h, gs, d, k, os⟩, e1, e2⟩ := Option.map_eq_some_iff.mp (boot_open (p := pw) (N := N) e hN f w)
  obtain ⟨rfl, rfl, rfl, rfl⟩ : h = boot_heap w.params ∧ gs = Array.mk [] ∧ d = boot_drawn ∧ k = boot_toks := by simpa using e2
  have r := run w os
  rw [← PySem.W.Fast.te14364793385576792824, ← topFrom_eq, ← PySem.W.Fast.te4187177175401517315] at r
  unfold openEnds
  rw [e1, Option.bind_some]
  exact r

theorem KF_keys (P : Params) : KFas = (KF P).map (·.1) := by kernel_rfl
noncomputable def HK : Hook := kHook KF KFas KF_keys
theorem l1a : opening pw = plainProg pw.main.scope.names := by kernel_rfl
theorem l1b (s : Shared) : fenceModules? pw s = some s := by kernel_rfl
theorem l1c (w : World) (os : OsState) : (topFromF PySem.W.Fast.tw14364793385576792824 pw w 6000 ⟨boot_heap w.params, Array.mk [], boot_drawn, boot_toks, os⟩).map (fun s => (PySem.W.Fast.tw4187177175401517315 q1 loose1 (importedModules pw.main.body) (fun s => xlAt q1 [] s && recOk [] s) true s, KFas.map s.heap.get?)) = some (openGood q1 loose1, (KF w.params).map fun p => some p.2) := by kernel_rfl
theorem l1 : LeftO pw q1 loose1 (fun s => xlAt q1 [] s && recOk [] s) (Hook.obs HK) (Hook.val HK) 6000 :=
  left_of l1a (by decide) l1b l1c


end
section
open PySem PySem.W PyProof.Rows PySem.Calls PySem.Spec
set_option Elab.async false
set_option linter.unusedVariables false
set_option maxRecDepth 100000

/- a stack that bears none of the calls which keep a bytearray's memory: what wpAny cannot say -/
noncomputable def isDec : Code → Bool
  | .builtin id _ => Builtin.Bytes.decodersThatHold.contains id
  | _ => false
noncomputable def ND (l : List (Code × Pos)) : Prop := ∀ x ∈ l, isDec x.1 = false
theorem ND.cons {c : Code} {p : Pos} {l : List (Code × Pos)} (hc : isDec c = false) (h : ND l) : ND ((c, p) :: l) := fun x hx => by
  cases hx with
  | head => exact hc
  | tail _ hx => exact h x hx

noncomputable def wpB {α : Type} (M : Model) (A : Around) (t : Sem α) (Q : α → Shared → Prop) (E : Value → Shared → Prop) (s : Shared) : Prop :=
  ∀ Γ p, Γ.In A → isDec Γ.code = false → ND Γ.below → Sem.wp M Γ t (fun a _ s' => Q a s') (fun e _ s' => E e s') p s
noncomputable def codeB (M : Model) (A : Around) (c : Code) (R : Result → Shared → Prop) (s : Shared) : Prop :=
  ∀ Γ p, Γ.code = c → Γ.Below A → ND Γ.below → wpCode M Γ R p s

section
variable {α β : Type} {M : Model} {A : Around} {E : Value → Shared → Prop} {s : Shared}
theorem wpB_of {t : Sem α} {Q : α → Shared → Prop} (h : wpAny M A t Q E s) : wpB M A t Q E s := fun Γ p hΓ _ _ => h Γ p hΓ
theorem codeB_of {c : Code} {R : Result → Shared → Prop} (h : codeAny M A c R s) : codeB M A c R s := fun Γ p hc hΓ _ => h Γ p hc hΓ
theorem wpB_mono {t : Sem α} {Q Q' : α → Shared → Prop} {E' : Value → Shared → Prop} (h : wpB M A t Q E s) (hQ : ∀ a s, Q a s → Q' a s) (hE : ∀ e s, E e s → E' e s) : wpB M A t Q' E' s :=
  fun Γ p hΓ hd hn => Sem.wp_mono M Γ t (fun a _ s => hQ a s) (fun e _ s => hE e s) p s (h Γ p hΓ hd hn)
theorem codeB_mono {c : Code} {R R' : Result → Shared → Prop} (h : codeB M A c R s) (hR : ∀ r s, R r s → R' r s) : codeB M A c R' s := fun Γ p hc hΓ hn => wpCode_mono hR (h Γ p hc hΓ hn)
theorem wpB_bind {m : Sem α} {f : α → Sem β} {Q : β → Shared → Prop} (h : wpB M A m (fun a s' => wpB M A (f a) Q E s') E s) : wpB M A (m >>= f) Q E s := fun Γ p hΓ hd hn => by
  rw [Sem.wp_bind']
  exact Sem.wp_mono M Γ m (fun a p' s' h' => h' Γ p' hΓ hd hn) (fun _ _ _ h' => h') p s (h Γ p hΓ hd hn)
theorem wpB_holding {vs : List Value} {m : Sem α} {Q : α → Shared → Prop} (h : wpB M A m Q E s) : wpB M A (holding vs m) Q E s := fun Γ p hΓ hd hn => by rw [Sem.wp_holding]; exact h Γ p hΓ hd hn
theorem wpB_onRaise {m : Sem α} {k : Value → Sem Unit} {Q : α → Shared → Prop} (h : wpB M A m Q (fun e s' => wpB M A (k e) (fun _ s'' => E e s'') E s') s) : wpB M A (m.onRaise k) Q E s := fun Γ p hΓ hd hn => by
  rw [Sem.wp_onRaise]
  exact Sem.wp_mono M Γ m (fun _ _ _ h' => h') (fun e p' s' h' => h' Γ p' hΓ hd hn) p s (h Γ p hΓ hd hn)
theorem wpB_attempt {m : Sem α} {Q : Except Value α → Shared → Prop} (h : wpB M A m (fun a => Q (.ok a)) (fun e => Q (.error e)) s) : wpB M A m.attempt Q E s := fun Γ p hΓ hd hn => by rw [Sem.wp_attempt]; exact h Γ p hΓ hd hn
theorem enter_ND {Γ : PySem.Ctx} {c : Code} {h : Option Value} {p : Pos} (hd : isDec Γ.code = false) (hn : ND Γ.below) : ND (Γ.enter c h p).below := ND.cons hd hn
theorem wpB_run {c : Code} {h : Option Value} {Q : Flow → Shared → Prop} (hc : codeB M (A.mark h) c (fun r s' => match r with | .ok f => Q f s' | .error e => E e s') s) (hnb : h ≠ some byPass := by intro x; cases x) :
    wpB M A (run c h) Q E s := fun Γ p hΓ hd hn => by rw [Sem.wp_run]; exact hc _ p rfl (hΓ.enter c h p hnb) (enter_ND hd hn)
theorem wpB_runValue {c : Code} {Q : Value → Shared → Prop} (hc : codeB M A c (fun r s' => match r with | .ok (.ret v) => Q v s' | .ok _ => False | .error e => E e s') s) :
    wpB M A (runValue c) Q E s := fun Γ p hΓ hd hn => by rw [Sem.wp_runValue]; exact hc _ p rfl (hΓ.enter c none p (by intro x; cases x)) (enter_ND hd hn)
theorem wpB_keep {vs : List Value} {m : Sem α} {Q : α → Shared → Prop} (h : wpB M A m Q E s) : wpB M A (m.keep vs) Q E s := fun Γ p hΓ hd hn => by rw [Sem.wp_keep]; exact h Γ p hΓ hd hn
theorem codeB_of_tree {c : Code} {R : Result → Shared → Prop} (hdc : isDec c = false)
    (h : wpB M (A.under c) (M.den c) (fun fin s' => match fin with | .done f => R (.ok f) s' | .again c' => (c'.quiet = true) ∧ codeB M A c' R s') (fun e s' => R (.error e) s') s) : codeB M A c R s := fun Γ p hc hΓ hn => by
  rw [wpCode_iff_wp, hc]
  refine Sem.wp_mono M Γ _ (fun fin p' s' h' => ?_) (fun _ _ _ h' => h') p s (h Γ p (hc ▸ hΓ.in) (hc ▸ hdc) hn)
  cases fin with
  | done f => exact h'
  | again c' => exact ⟨h'.1, h'.2 (Γ.goto c') p' rfl (hΓ.goto c') hn⟩
theorem codeB_loop {c : Code} {R : Result → Shared → Prop} (hdc : isDec c = false) (hq : c.quiet = true) (I : Nat → Shared → Prop)
    (turn : ∀ n s, I n s → wpB M (A.under c) (M.den c) (fun fin s' => match fin with
        | .done f => R (.ok f) s'
        | .again c' => (c' = c ∧ ∃ m, m < n ∧ I m s') ∨ (c'.quiet = true ∧ codeB M A c' R s')) (fun e s' => R (.error e) s') s)
    (n : Nat) (h : I n s) : codeB M A c R s := by
  induction n using Nat.strongRecOn generalizing s with
  | ind n ih =>
    refine codeB_of_tree hdc (wpB_mono (turn n s h) (fun fin s' hf => ?_) fun _ _ h' => h')
    cases fin with
    | done f => exact hf
    | again c' =>
      rcases hf with ⟨rfl, m, hm, hI⟩ | hf
      · exact ⟨hq, ih m hm hI⟩
      · exact hf
end

structure Wd (w : World) (h : Heap) : Prop where
  X : (KF w.params).In h
  T : ∃ mean mg mb, Top q1 (looseW q1 loose1) mean mg mb h
noncomputable def Rest (s s' : Shared) : Prop := s'.gens = s.gens ∧ s'.drawn = s.drawn ∧ s'.os = s.os
structure Wp {α : Type} (M : Model) (A : Around) (t : Sem α) (Q : α → Heap → Prop) (E : Value → Heap → Prop) (h : Heap) : Prop where
  run : ∀ s : Shared, s.heap = h → wpB M A t (fun a s' => Rest s s' ∧ Q a s'.heap) (fun e s' => Rest s s' ∧ E e s'.heap) s

end
section
open PySem PySem.W PyProof.Rows PySem.Calls PySem.Spec
set_option Elab.async false
set_option linter.unusedVariables false
set_option maxRecDepth 100000

theorem Rest.rfl' {s : Shared} : Rest s s := ⟨rfl, rfl, rfl⟩
theorem Rest.trans {a b c : Shared} (x : Rest a b) (y : Rest b c) : Rest a c := ⟨y.1.trans x.1, y.2.1.trans x.2.1, y.2.2.trans x.2.2⟩

/- the code of a call, at any shared state over a heap -/
structure Wc (M : Model) (A : Around) (c : Code) (R : Result → Heap → Prop) (h : Heap) : Prop where
  run : ∀ s : Shared, s.heap = h → codeB M A c (fun r s' => Rest s s' ∧ R r s'.heap) s

section
variable {α β : Type} {M : Model} {A : Around} {E : Value → Heap → Prop} {h : Heap}

theorem Wp.at {t : Sem α} {Q : α → Heap → Prop} (x : Wp M A t Q E h) {s s₁ : Shared} (hk : Rest s s₁) (hh : s₁.heap = h) :
    wpB M A t (fun a s' => Rest s s' ∧ Q a s'.heap) (fun e s' => Rest s s' ∧ E e s'.heap) s₁ :=
  wpB_mono (x.run s₁ hh) (fun _ _ q => ⟨hk.trans q.1, q.2⟩) fun _ _ q => ⟨hk.trans q.1, q.2⟩
theorem Wc.at {c : Code} {R : Result → Heap → Prop} (x : Wc M A c R h) {s s₁ : Shared} (hk : Rest s s₁) (hh : s₁.heap = h) :
    codeB M A c (fun r s' => Rest s s' ∧ R r s'.heap) s₁ :=
  codeB_mono (x.run s₁ hh) fun _ _ q => ⟨hk.trans q.1, q.2⟩
theorem Wc_mono {c : Code} {R R' : Result → Heap → Prop} (x : Wc M A c R h) (k : ∀ r h', R r h' → R' r h') : Wc M A c R' h := ⟨fun s hs => codeB_mono (x.run s hs) fun _ _ q => ⟨q.1, k _ _ q.2⟩⟩

theorem Wp_mono {t : Sem α} {Q Q' : α → Heap → Prop} {E' : Value → Heap → Prop} (x : Wp M A t Q E h) (hQ : ∀ a h', Q a h' → Q' a h') (hE : ∀ e h', E e h' → E' e h') : Wp M A t Q' E' h :=
  ⟨fun s hs => wpB_mono (x.run s hs) (fun a s' q => ⟨q.1, hQ _ _ q.2⟩) fun e s' q => ⟨q.1, hE _ _ q.2⟩⟩
theorem Wp_post {t : Sem α} {Q Q' : α → Heap → Prop} (x : Wp M A t Q E h) (hQ : ∀ a h', Q a h' → Q' a h') : Wp M A t Q' E h := Wp_mono x hQ fun _ _ e => e
theorem Wp_noRaise {t : Sem α} {Q : α → Heap → Prop} (x : Wp M A t Q (fun _ _ => False) h) : Wp M A t Q E h := Wp_mono x (fun _ _ q => q) fun _ _ e => e.elim
theorem Wp_pure {a : α} {Q : α → Heap → Prop} (q : Q a h) : Wp M A (pure a) Q E h := ⟨fun s hs => wpB_of (wpAny_pure ⟨Rest.rfl', hs ▸ q⟩)⟩
theorem Wp_bind {m : Sem α} {f : α → Sem β} {Q : β → Heap → Prop} (x : Wp M A m (fun a h' => Wp M A (f a) Q E h') E h) : Wp M A (m >>= f) Q E h :=
  ⟨fun s hs => wpB_bind (wpB_mono (x.run s hs) (fun _ _ q => q.2.at q.1 rfl) fun _ _ q => q)⟩
theorem Wp_holding {vs : List Value} {m : Sem α} {Q : α → Heap → Prop} (x : Wp M A m Q E h) : Wp M A (holding vs m) Q E h := ⟨fun s hs => wpB_holding (x.run s hs)⟩
theorem Wp_keep {vs : List Value} {m : Sem α} {Q : α → Heap → Prop} (x : Wp M A m Q E h) : Wp M A (m.keep vs) Q E h := ⟨fun s hs => wpB_keep (x.run s hs)⟩
theorem Wp_onRaise {m : Sem α} {k : Value → Sem Unit} {Q : α → Heap → Prop} (x : Wp M A m Q (fun e h' => Wp M A (k e) (fun _ h'' => E e h'') E h') h) : Wp M A (m.onRaise k) Q E h :=
  ⟨fun s hs => wpB_onRaise (wpB_mono (x.run s hs) (fun _ _ q => q) fun e s' q => wpB_mono (q.2.at q.1 rfl) (fun _ _ z => z) fun _ _ z => z)⟩
theorem Wp_attempt {m : Sem α} {Q : Except Value α → Heap → Prop} (x : Wp M A m (fun a => Q (.ok a)) (fun e => Q (.error e)) h) : Wp M A m.attempt Q E h := ⟨fun s hs => wpB_attempt (x.run s hs)⟩
theorem Wp_runValue {c : Code} {Q : Value → Heap → Prop} (x : Wc M A c (fun r h' => match r with | .ok (.ret v) => Q v h' | .ok _ => False | .error e => E e h') h) : Wp M A (runValue c) Q E h :=
  ⟨fun s hs => wpB_runValue (codeB_mono (x.run s hs) fun r s' q => by
    cases r with
    | error e => exact q
    | ok f => cases f <;> first | exact q.2.elim | exact q)⟩
theorem Wp_call {f : Value} {pos : List Value} {kw : List (Str × Value)} {Q : Value → Heap → Prop}
    (x : Wc M A (.call f ⟨pos, kw⟩) (fun r h' => match r with | .ok (.ret v) => Q v h' | .ok _ => False | .error e => E e h') h) : Wp M A (call f pos kw) Q E h := Wp_runValue x
theorem Wp_run {c : Code} {hd : Option Value} {Q : Flow → Heap → Prop} (x : Wc M (A.mark hd) c (fun r h' => match r with | .ok f => Q f h' | .error e => E e h') h) (hnb : hd ≠ some byPass := by intro x; cases x) : Wp M A (run c hd) Q E h :=
  ⟨fun s hs => wpB_run (codeB_mono (x.run s hs) fun r s' q => by cases r <;> exact q) hnb⟩
/- a rule of the library for one tree, lifted: what it asks of the state is a fact of the heap -/
theorem Wp_of {t : Sem α} {Q : α → Heap → Prop} (x : ∀ g d tk o, wpAny M A t (fun a s' => (s'.gens = g ∧ s'.drawn = d ∧ s'.os = o) ∧ Q a s'.heap) (fun e s' => (s'.gens = g ∧ s'.drawn = d ∧ s'.os = o) ∧ E e s'.heap) ⟨h, g, d, tk, o⟩) : Wp M A t Q E h := by
  refine ⟨?_⟩
  rintro ⟨h', g, d, tk, o⟩ rfl
  exact wpB_of (x g d tk o)
theorem Wp_standAt {pos : Pos} {Q : Unit → Heap → Prop} (q : Q () h) : Wp M A (standAt pos) Q E h := Wp_of fun g d tk o => wpAny_standAt ⟨⟨rfl, rfl, rfl⟩, q⟩
theorem Wp_point {Q : Unit → Heap → Prop} (q : Q () h) : Wp M A point Q E h := Wp_of fun g d tk o => wpAny_point ⟨⟨rfl, rfl, rfl⟩, q⟩
theorem Wp_rule {t : String} {Q : Unit → Heap → Prop} (q : Q () h) : Wp M A (rule t) Q E h := Wp_of fun g d tk o => wpAny_rule ⟨⟨rfl, rfl, rfl⟩, q⟩
theorem Wp_release {vs keep : List Value} {Q : Unit → Heap → Prop} (q : Q () h) : Wp M A (release vs keep) Q E h := Wp_of fun g d tk o => wpAny_release ⟨⟨rfl, rfl, rfl⟩, q⟩
theorem Wp_operate {vs : List Value} {m : Sem Value} {Q : Value → Heap → Prop} (x : Wp M A m Q E h) : Wp M A (operate vs m) Q E h :=
  Wp_bind (Wp_holding (Wp_post x fun r h' q => Wp_bind (Wp_release (Wp_pure q))))
theorem Wp_load {a : Addr} {o : Obj} {Q : Obj → Heap → Prop} (ho : h.get? a = some o) (q : Q o h) : Wp M A (load a) Q E h := Wp_of fun g d tk os => wpAny_load ho ⟨⟨rfl, rfl, rfl⟩, q⟩
theorem Wc_of_tree {c : Code} {R : Result → Heap → Prop} (hdc : isDec c = false)
    (x : Wp M (A.under c) (M.den c) (fun fin h' => match fin with | .done f => R (.ok f) h' | .again c' => c'.quiet = true ∧ Wc M A c' R h') (fun e h' => R (.error e) h') h) : Wc M A c R h :=
  ⟨fun s hs => codeB_of_tree hdc (wpB_mono (x.run s hs) (fun fin s' q => by
    cases fin with
    | done f => exact q
    | again c' => exact ⟨q.2.1, q.2.2.at q.1 rfl⟩) fun _ _ q => q)⟩
theorem Wc_loop {c : Code} {R : Result → Heap → Prop} (hdc : isDec c = false) (hq : c.quiet = true) {σ : Type} (I : σ → Heap → Prop) (μ : σ → Nat)
    (turn : ∀ x h, I x h → Wp M (A.under c) (M.den c) (fun fin h' => match fin with
        | .done f => R (.ok f) h'
        | .again c' => (c' = c ∧ ∃ x', μ x' < μ x ∧ I x' h') ∨ (c'.quiet = true ∧ Wc M A c' R h')) (fun e h' => R (.error e) h') h)
    (x₀ : σ) (h0 : I x₀ h) : Wc M A c R h := by
  refine ⟨fun s hs => ?_⟩
  subst hs
  refine codeB_loop hdc hq (fun n s' => Rest s s' ∧ ∃ x, μ x = n ∧ I x s'.heap) (fun n s₁ hI => ?_) (μ x₀) ⟨Rest.rfl', x₀, rfl, h0⟩
  obtain ⟨hr, x, rfl, hx⟩ := hI
  refine wpB_mono ((turn x s₁.heap hx).at hr rfl) (fun fin s₂ q => ?_) fun _ _ q => q
  cases fin with
  | done f => exact q
  | again c' =>
    rcases q.2 with ⟨e, x', hm, hI'⟩ | ⟨q1, q2⟩
    · exact .inl ⟨e, _, hm, q.1, x', rfl, hI'⟩
    · exact .inr ⟨q1, q2.at q.1 rfl⟩
end

noncomputable abbrev MM (w : World) : Model := model pw w
noncomputable def Seq (w : World) (A : Around) (rest : List Stmt) (env : Env) (Q : Flow → Heap → Prop) (E : Value → Heap → Prop) : Flow → Heap → Prop
  | .next, h => Wp (MM w) A (execs rest env) Q E h
  | f, h => Q f h

/- a goal behind a name while a hypothesis is taken apart -/
theorem gh {G : Prop} (f : ∀ C : Prop, (G → C) → C) : G := f G id
/- a value that is no comprehension -/
noncomputable def compOf (value : Expr) : Option Scope := PySem.swapsWith.match_1 (fun _ => Option Scope) value (fun _ _ s _ => some s) (fun _ _ s _ => some s) (fun _ _ _ s _ => some s) (fun _ => none)
noncomputable def noSwap (e : Expr) : Bool := (compOf e).isNone
theorem noSwap.to {value : Expr} (h : noSwap value = true) (t : Option Expr) (line : Nat) (env : Env) : swapsWith value t line env = pure false := by
  have h : compOf value = none := Option.isNone_iff_eq_none.mp h
  unfold compOf at h
  unfold swapsWith
  rw [h]
/- what waits for a value: frames with names of their own (a frame is a short term) -/
section
variable (w : World) (A : Around) (E : Value → Heap → Prop) (env : Env)
noncomputable abbrev KRest {α : Type} (rest : List Stmt) (Q : Flow → Heap → Prop) : α → Heap → Prop := fun _ h' => Wp (MM w) A (execs rest env) Q E h'
noncomputable abbrev KRet (Q : Flow → Heap → Prop) : Value → Heap → Prop := fun v h' => Q (.ret v) h'
noncomputable abbrev KStore (rest : List Stmt) (x : Str) (Q : Flow → Heap → Prop) : Value → Heap → Prop := fun v h' => Wp (MM w) A (storeName env x v) (KRest w A E env rest Q) E h'
noncomputable abbrev KTupA (rest : List Stmt) (t : Expr) (Q : Flow → Heap → Prop) : Value → Heap → Prop := fun v h' => Wp (MM w) A (assign t env v) (KRest w A E env rest Q) E h'
noncomputable abbrev KAtt2 (rest : List Stmt) (attr : Str) (v : Value) (Q : Flow → Heap → Prop) : Value → Heap → Prop := fun ov h₂ => Wp (MM w) A (setAttr ov attr v) (KRest w A E env rest Q) E h₂
noncomputable abbrev KAtt1 (rest : List Stmt) (o : Expr) (attr : Str) (Q : Flow → Heap → Prop) : Value → Heap → Prop := fun v h₁ => Wp (MM w) A (eval o env) (KAtt2 w A E env rest attr v Q) E h₁
noncomputable abbrev KSub3 (rest : List Stmt) (ov v : Value) (Q : Flow → Heap → Prop) : Value → Heap → Prop := fun iv h₃ => Wp (MM w) A (setItem ov iv v) (KRest w A E env rest Q) E h₃
noncomputable abbrev KSub2 (rest : List Stmt) (i : Expr) (v : Value) (Q : Flow → Heap → Prop) : Value → Heap → Prop := fun ov h₂ => Wp (MM w) A (eval i env) (KSub3 w A E env rest ov v Q) E h₂
noncomputable abbrev KSub1 (rest : List Stmt) (o i : Expr) (Q : Flow → Heap → Prop) : Value → Heap → Prop := fun v h₁ => Wp (MM w) A (eval o env) (KSub2 w A E env rest i v Q) E h₁
noncomputable abbrev KBin2 (op : Operator) (Q : Value → Heap → Prop) (a : Value) : Value → Heap → Prop := fun b h₂ => Wp (MM w) A (binaryOp op a b) Q E h₂
noncomputable abbrev KBin1 (r : Expr) (op : Operator) (Q : Value → Heap → Prop) : Value → Heap → Prop := fun a h₁ => Wp (MM w) A (eval r env) (KBin2 w A E op Q a) E h₁
noncomputable abbrev KUn (op : UnaryOp) (Q : Value → Heap → Prop) : Value → Heap → Prop := fun a h₁ => Wp (MM w) A (unaryOp op a) Q E h₁
noncomputable abbrev KCmp2 (op : CmpOp) (Q : Value → Heap → Prop) (a : Value) : Value → Heap → Prop := fun b h₂ => Wp (MM w) A (compareOp op a b) Q E h₂
noncomputable abbrev KCmp1 (r : Expr) (op : CmpOp) (Q : Value → Heap → Prop) : Value → Heap → Prop := fun a h₁ => Wp (MM w) A (eval r env) (KCmp2 w A E op Q a) E h₁
noncomputable abbrev KTr (Q : Bool → Heap → Prop) : Value → Heap → Prop := fun c h₃ => Wp (MM w) A (truthy c) Q E h₃
noncomputable abbrev KTst2 (op : CmpOp) (Q : Bool → Heap → Prop) (a : Value) : Value → Heap → Prop := fun b h₂ => Wp (MM w) A (compareOp op a b) (KTr w A E Q) E h₂
noncomputable abbrev KTst1 (r : Expr) (op : CmpOp) (Q : Bool → Heap → Prop) : Value → Heap → Prop := fun a h₁ => Wp (MM w) A (eval r env) (KTst2 w A E op Q a) E h₁
noncomputable abbrev KNot (Q : Bool → Heap → Prop) : Bool → Heap → Prop := fun b h₁ => Q (!b) h₁
noncomputable abbrev KIf (body orelse : List Stmt) (Q : Flow → Heap → Prop) : Bool → Heap → Prop := fun b h' => (b = true → Wp (MM w) A (execs body env) Q E h') ∧ (b = false → Wp (MM w) A (execs orelse env) Q E h')
noncomputable abbrev KAll (es : List Expr) (Q : Bool → Heap → Prop) : Bool → Heap → Prop := fun b h₁ => (b = true → Wp (MM w) A (allTrue .And es env) Q E h₁) ∧ (b = false → Q false h₁)
noncomputable abbrev KAny (es : List Expr) (Q : Bool → Heap → Prop) : Bool → Heap → Prop := fun b h₁ => (b = true → Q true h₁) ∧ (b = false → Wp (MM w) A (allTrue .Or es env) Q E h₁)
noncomputable abbrev KIfE (body orelse : Expr) (Q : Value → Heap → Prop) : Bool → Heap → Prop := fun b h' => (b = true → Wp (MM w) A (eval body env) Q E h') ∧ (b = false → Wp (MM w) A (eval orelse env) Q E h')
noncomputable abbrev KIdx2 (value slice : Expr) (Q : Value → Heap → Prop) (o : Value) : Value → Heap → Prop := fun i h₂ => Wp (MM w) A (subscriptTail value slice o i) Q E h₂
noncomputable abbrev KIdx1 (value slice : Expr) (Q : Value → Heap → Prop) : Value → Heap → Prop := fun o h₁ => Wp (MM w) A (eval slice env) (KIdx2 w A E value slice Q o) E h₁
noncomputable abbrev KGet (attr : Str) (Q : Value → Heap → Prop) : Value → Heap → Prop := fun o h₁ => Wp (MM w) A (getAttr o attr true) Q E h₁
noncomputable abbrev KTup (Q : Value → Heap → Prop) : List Value → Heap → Prop := fun vs h₁ => Wp (MM w) A (newTuple vs) Q E h₁
noncomputable abbrev KLst (Q : Value → Heap → Prop) : List Value → Heap → Prop := fun vs h₁ => Wp (MM w) A (newList vs) Q E h₁
noncomputable abbrev KSp2 (Q : List Value → Heap → Prop) (v : Value) : List Value → Heap → Prop := fun vs h₂ => Q (v :: vs) h₂
noncomputable abbrev KSp1 (pos : Pos) (es : List Expr) (Q : List Value → Heap → Prop) : Value → Heap → Prop := fun v h₁ => Wp (MM w) A (spliced (backTo pos (starEach es env))) (KSp2 Q v) E h₁
noncomputable abbrev KCall1 (pos : Pos) (args : List Expr) (Q : Value → Heap → Prop) : Value → Heap → Prop := fun f h₁ => Wp (MM w) A (callWith pos f [] (backTo pos (starEach args env)) []) Q E h₁
noncomputable abbrev KMeth2 (pos : Pos) (args : List Expr) (Q : Value → Heap → Prop) : Value × List Value → Heap → Prop := fun fx h₂ => Wp (MM w) A (callWith pos fx.1 fx.2 (backTo pos (starEach args env)) []) Q E h₂
noncomputable abbrev KMeth1 (name : Str) (pl : Sem Bool) (pos : Pos) (args : List Expr) (Q : Value → Heap → Prop) : Value → Heap → Prop := fun ov h₁ => Wp (MM w) A (getMethod ov name pl) (KMeth2 w A E env pos args Q) E h₁
noncomputable abbrev KAs (ts : List Expr) (xs : List Value) (Q : Unit → Heap → Prop) : Unit → Heap → Prop := fun _ h' => Wp (MM w) A (assignInOrder ((assignEach ts env).map (·.2)) xs) Q E h'
noncomputable abbrev KSet (attr : Str) (v : Value) (Q : Unit → Heap → Prop) : Value → Heap → Prop := fun ov h₁ => Wp (MM w) A (setAttr ov attr v) Q E h₁
end

section
variable {w : World} {A : Around} {E : Value → Heap → Prop} {h : Heap} {env : Env} {rest : List Stmt}

theorem Seq_next {Q : Flow → Heap → Prop} (x : Wp (MM w) A (execs rest env) Q E h) : Seq w A rest env Q E .next h := x
theorem Seq_ret {Q : Flow → Heap → Prop} {v : Value} (x : Q (.ret v) h) : Seq w A rest env Q E (.ret v) h := x
theorem execs_cons {st : Stmt} {Q : Flow → Heap → Prop} (x : Wp (MM w) A (exec st env) (Seq w A rest env Q E) E h) : Wp (MM w) A (execs (st :: rest) env) Q E h := by
  rw [arm_execs_cons]
  refine Wp_bind (Wp_post x fun f h' q => ?_)
  cases f <;> first | exact q | exact Wp_pure q
theorem execs_nil {Q : Flow → Heap → Prop} (x : Q .next h) : Wp (MM w) A (execs [] env) Q E h := Wp_pure x

theorem st_If {test : Expr} {body orelse : List Stmt} {pos : Pos} {Q : Flow → Heap → Prop}
    (x : Wp (MM w) A (isTrue test env (eval test env)) (KIf w A E env body orelse (Seq w A rest env Q E)) E h) :
    Wp (MM w) A (execs (.If test body orelse pos :: rest) env) Q E h := execs_cons (by
  rw [arm_exec_If]
  refine Wp_bind (Wp_standAt (Wp_bind (Wp_post x fun b h' q => ?_)))
  cases b with
  | true => exact q.1 rfl
  | false => exact q.2 rfl)
theorem st_Return {e : Expr} {pos : Pos} {Q : Flow → Heap → Prop} (x : Wp (MM w) A (eval e env) (KRet Q) E h) : Wp (MM w) A (execs (.Return (some e) pos :: rest) env) Q E h := execs_cons (by
  rw [arm_exec_Return]
  exact Wp_bind (Wp_standAt (Wp_bind (Wp_post x fun v h' q => Wp_pure q))))
theorem st_Return0 {pos : Pos} {Q : Flow → Heap → Prop} (x : Q (.ret .none) h) : Wp (MM w) A (execs (.Return none pos :: rest) env) Q E h := execs_cons (by
  rw [arm_exec_Return]
  exact Wp_bind (Wp_standAt (Wp_pure x)))
theorem st_Expr {e : Expr} {pos : Pos} {Q : Flow → Heap → Prop} (x : Wp (MM w) A (eval e env) (KRest w A E env rest Q) E h)
    (hi : interactive env = false := by with_unfolding_all rfl) (hs : noSwap e = true := by with_unfolding_all rfl) : Wp (MM w) A (execs (.Expr e pos :: rest) env) Q E h := execs_cons (by
  rw [arm_exec_Expr, hi, noSwap.to hs]
  refine Wp_bind (Wp_standAt ?_)
  rw [if_neg Bool.false_ne_true]
  refine Wp_bind (Wp_pure ?_)
  rw [if_neg Bool.false_ne_true]
  exact Wp_bind (Wp_post x fun v h' q => Wp_of fun g d tk o => wpAny_dropValue ⟨⟨rfl, rfl, rfl⟩, q⟩))
theorem Wp_bindName {x : Str} {v : Value} {Q : Unit → Heap → Prop} (q : Wp (MM w) A (storeName env x v) Q E h) : Wp (MM w) A (bindName env x v) Q E h := by
  unfold bindName
  exact Wp_bind (Wp_holding (Wp_point (Wp_bind (Wp_post q fun _ h'' q' => Wp_point q'))))
/- an assignment whose stores are done one by one -/
theorem st_Assign_ {ts : List Expr} {value : Expr} {pos : Pos} {Q : Flow → Heap → Prop}
    (k : Wp (MM w) A (eval value env) (fun v h' => Wp (MM w) A (assignAll v ((assignEach ts env).map (·.2))) (fun _ h'' => Wp (MM w) A (execs rest env) Q E h'') E h') E h)
    (hs : swapsWithSole ts value pos.line env = pure false := by with_unfolding_all rfl) (hw : swappedStores ts value env = pure none := by with_unfolding_all rfl) : Wp (MM w) A (execs (.Assign ts value pos :: rest) env) Q E h := execs_cons (by
  rw [arm_exec_Assign, hs]
  refine Wp_bind (Wp_standAt (Wp_bind (Wp_pure ?_)))
  rw [if_neg Bool.false_ne_true]
  refine Wp_bind (Wp_post k fun v h' q => ?_)
  rw [hw]
  refine Wp_bind (Wp_pure ?_)
  exact Wp_bind (Wp_post q fun _ h'' q' => Wp_pure q'))
theorem st_Assign {x : Str} {pos' : Pos} {value : Expr} {pos : Pos} {Q : Flow → Heap → Prop}
    (k : Wp (MM w) A (eval value env) (KStore w A E env rest x Q) E h)
    (hs : noSwap value = true := by with_unfolding_all rfl) : Wp (MM w) A (execs (.Assign [.Name x pos'] value pos :: rest) env) Q E h :=
  st_Assign_ (Wp_post k fun v h' q => by
    show Wp _ _ (assign (.Name x pos') env v) _ _ _
    rw [arm_assign_Name]
    exact Wp_bind (Wp_standAt (Wp_bindName q))) (noSwap.to hs (some (.Name x pos')) pos.line env) rfl
/- the same where the value is a comprehension that takes the place of the name's old value -/
theorem st_AssignC {x : Str} {pos' : Pos} {value : Expr} {pos : Pos} {Q : Flow → Heap → Prop}
    (k : Wp (MM w) A (evalThenUse value env (fun v => assign (.Name x pos') env v)) (KRest w A E env rest Q) E h)
    (hs : swapsWith value (some (.Name x pos')) pos.line env = pure true := by with_unfolding_all rfl) : Wp (MM w) A (execs (.Assign [.Name x pos'] value pos :: rest) env) Q E h := execs_cons (by
  rw [arm_exec_Assign, show swapsWithSole [.Name x pos'] value pos.line env = pure true from hs]
  refine Wp_bind (Wp_standAt (Wp_bind (Wp_pure ?_)))
  rw [if_pos rfl]
  exact Wp_bind (Wp_post k fun _ h'' q => Wp_pure q))
theorem st_AssignAttr {o : Expr} {attr : Str} {pos' : Pos} {value : Expr} {pos : Pos} {Q : Flow → Heap → Prop}
    (k : Wp (MM w) A (eval value env) (KAtt1 w A E env rest o attr Q) E h)
    (hs : swapsWithSole [.Attribute o attr pos'] value pos.line env = pure false := by with_unfolding_all rfl) (hw : swappedStores [.Attribute o attr pos'] value env = pure none := by with_unfolding_all rfl) :
    Wp (MM w) A (execs (.Assign [.Attribute o attr pos'] value pos :: rest) env) Q E h :=
  st_Assign_ (Wp_post k fun v h' q => by
    show Wp (MM w) A (do
      let ov ← holding [v] (eval o env)
      standAt pos'.atName
      holding [v, ov] (setAttr ov attr v)
      release [v, ov] []) _ _ _
    exact Wp_bind (Wp_holding (Wp_post q fun ov h₂ k₂ => Wp_bind (Wp_standAt (Wp_bind (Wp_holding (Wp_post k₂ fun _ h₃ k₃ => Wp_release k₃))))))) hs hw
theorem st_AssignSub {o i : Expr} {pos' : Pos} {value : Expr} {pos : Pos} {Q : Flow → Heap → Prop}
    (k : Wp (MM w) A (eval value env) (KSub1 w A E env rest o i Q) E h)
    (hs : swapsWith value (some (.Subscript o i pos')) pos.line env = pure false := by with_unfolding_all rfl) (hw : swappedStores [.Subscript o i pos'] value env = pure none := by with_unfolding_all rfl) : Wp (MM w) A (execs (.Assign [.Subscript o i pos'] value pos :: rest) env) Q E h :=
  st_Assign_ (Wp_post k fun v h' q => by
    show Wp (MM w) A (assign (.Subscript o i pos') env v) _ _ _
    rw [arm_assign_Subscript]
    exact Wp_bind (Wp_holding (Wp_post q fun ov h₂ k₂ => Wp_bind (Wp_holding (Wp_post k₂ fun iv h₃ k₃ => Wp_bind (Wp_standAt (Wp_bind (Wp_holding (Wp_post k₃ fun _ h₄ k₄ => Wp_release k₄))))))))) hs hw

theorem e_int {i : Int} {k : Nat} {pos : Pos} {Q : Value → Heap → Prop} (x : ∀ t, Q (.int i t) h) : Wp (MM w) A (eval (.Constant (.int i) k pos) env) Q E h := Wp_of fun g d tk o => wpAny_Constant_int ⟨⟨rfl, rfl, rfl⟩, x _⟩
theorem e_none {k : Nat} {pos : Pos} {Q : Value → Heap → Prop} (x : Q .none h) : Wp (MM w) A (eval (.Constant .none k pos) env) Q E h := Wp_of fun g d tk o => wpAny_Constant_none ⟨⟨rfl, rfl, rfl⟩, x⟩
theorem e_bool {b : Bool} {k : Nat} {pos : Pos} {Q : Value → Heap → Prop} (x : Q (.bool b) h) : Wp (MM w) A (eval (.Constant (.bool b) k pos) env) Q E h := Wp_of fun g d tk o => wpAny_Constant_bool ⟨⟨rfl, rfl, rfl⟩, x⟩
theorem e_bytes {b : List UInt8} {k : Nat} {pos : Pos} {Q : Value → Heap → Prop} (x : ∀ t, Q (.bytes b.toArray t) h) : Wp (MM w) A (eval (.Constant (.bytes b) k pos) env) Q E h := Wp_of fun g d tk o => by
  show wpAny _ _ (mkTextBytes b.toArray) _ _ _
  unfold mkTextBytes
  exact wpAny_bind (wpAny_fresh (wpAny_pure ⟨⟨rfl, rfl, rfl⟩, x _⟩))
theorem e_str {b : Str} {k : Nat} {pos : Pos} {Q : Value → Heap → Prop} (x : ∀ t, Q (.str b t) h) : Wp (MM w) A (eval (.Constant (.str b) k pos) env) Q E h := Wp_of fun g d tk o => wpAny_Constant_str ⟨⟨rfl, rfl, rfl⟩, x _⟩
theorem e_BinOp {l r : Expr} {op : Operator} {pos : Pos} {Q : Value → Heap → Prop} (x : Wp (MM w) A (eval l env) (KBin1 w A E env r op Q) E h) :
    Wp (MM w) A (eval (.BinOp l op r pos) env) Q E h := by
  rw [arm_eval_BinOp]
  exact Wp_bind (Wp_post x fun a h₁ q₁ => Wp_bind (Wp_holding (Wp_post q₁ fun b h₂ q₂ => Wp_bind (Wp_standAt (Wp_operate q₂)))))
theorem e_UnaryOp {e : Expr} {op : UnaryOp} {pos : Pos} {Q : Value → Heap → Prop} (x : Wp (MM w) A (eval e env) (KUn w A E op Q) E h) : Wp (MM w) A (eval (.UnaryOp op e pos) env) Q E h := by
  rw [arm_eval_UnaryOp]
  exact Wp_bind (Wp_post x fun a h₁ q₁ => Wp_bind (Wp_standAt (Wp_holding q₁)))
theorem markedBehindIn_plain {op : CmpOp} {e : Expr} {t : Sem Value} (hb : behindInMarks op e = false) : markedBehindIn op e t = t := by unfold markedBehindIn; rw [hb]
theorem e_Compare {l r : Expr} {op : CmpOp} {pos : Pos} {Q : Value → Heap → Prop} (x : Wp (MM w) A (eval l env) (KCmp1 w A E env r op Q) E h)
    (hb : behindInMarks op r = false := by with_unfolding_all rfl) : Wp (MM w) A (eval (.Compare l [op] [r] pos) env) Q E h := by
  show Wp _ _ (do compareChain pos (← eval l env) [op] [markedBehindIn op r (eval r env)]) _ _ _
  rw [markedBehindIn_plain hb]
  exact Wp_bind (Wp_post x fun a h₁ q₁ => Wp_bind (Wp_holding (Wp_post q₁ fun b h₂ q₂ => Wp_bind (Wp_standAt (Wp_operate q₂)))))
theorem t_Compare {l r : Expr} {op : CmpOp} {pos : Pos} {whole : Sem Value} {Q : Bool → Heap → Prop}
    (x : Wp (MM w) A (eval l env) (KTst1 w A E env r op Q) E h)
    (hb : behindInMarks op r = false := by with_unfolding_all rfl) : Wp (MM w) A (isTrue (.Compare l [op] [r] pos) env whole) Q E h := by
  show Wp _ _ (do testChain pos (← eval l env) [op] [markedBehindIn op r (eval r env)]) _ _ _
  rw [markedBehindIn_plain hb]
  exact Wp_bind (Wp_post x fun a h₁ q₁ => Wp_bind (Wp_holding (Wp_post q₁ fun b h₂ q₂ => Wp_bind (Wp_standAt (Wp_bind (Wp_operate (Wp_post q₂ fun c h₃ q₃ => Wp_holding q₃)))))))
/- a chain of two comparisons, as a test and as a value -/
theorem t_Compare2 {l r r' : Expr} {op op' : CmpOp} {pos : Pos} {whole : Sem Value} {Q : Bool → Heap → Prop}
    (x : Wp (MM w) A (eval l env) (fun a h₁ => Wp (MM w) A (eval r env) (fun b h₂ => Wp (MM w) A (compareOp op a b) (fun c h₃ => Wp (MM w) A (truthy c) (fun y h₄ =>
      (y = true → Wp (MM w) A (eval r' env) (fun b' h₅ => Wp (MM w) A (compareOp op' b b') (fun c' h₆ => Wp (MM w) A (truthy c') Q E h₆) E h₅) E h₄) ∧ (y = false → Q false h₄)) E h₃) E h₂) E h₁) E h)
    (hb : behindInMarks op' r' = false := by with_unfolding_all rfl) : Wp (MM w) A (isTrue (.Compare l [op, op'] [r, r'] pos) env whole) Q E h := by
  show Wp _ _ (do testChain pos (← eval l env) [op, op'] [eval r env, markedBehindIn op' r' (eval r' env)]) _ _ _
  rw [markedBehindIn_plain hb]
  refine Wp_bind (Wp_post x fun a h₁ q₁ => Wp_bind (Wp_holding (Wp_post q₁ fun b h₂ q₂ => Wp_bind (Wp_standAt (Wp_bind (Wp_holding (Wp_post q₂ fun c h₃ q₃ => Wp_bind (Wp_release (Wp_bind (Wp_holding (Wp_post q₃ fun y h₄ q₄ => ?_)))))))))))
  cases y with
  | false => exact Wp_pure (q₄.2 rfl)
  | true => exact Wp_bind (Wp_holding (Wp_post (q₄.1 rfl) fun b' h₅ q₅ => Wp_bind (Wp_standAt (Wp_bind (Wp_operate (Wp_post q₅ fun c' h₆ q₆ => Wp_holding q₆))))))
theorem t_Not {e : Expr} {pos : Pos} {whole : Sem Value} {Q : Bool → Heap → Prop} (x : Wp (MM w) A (isTrue e env (eval e env)) (KNot Q) E h) : Wp (MM w) A (isTrue (.UnaryOp .Not e pos) env whole) Q E h := by
  rw [arm_isTrue_UnaryOp]
  exact Wp_bind (Wp_post x fun b h₁ q => Wp_pure q)
theorem t_plain {e : Expr} {whole : Sem Value} {Q : Bool → Heap → Prop} (x : Wp (MM w) A whole (KTr w A E Q) E h)
    (hp : isTrue e env whole = (do let v ← whole; standAt e.pos; holding [v] (truthy v)) := by with_unfolding_all rfl) : Wp (MM w) A (isTrue e env whole) Q E h := by
  rw [hp]
  exact Wp_bind (Wp_post x fun v h₁ q => Wp_bind (Wp_standAt (Wp_holding q)))
theorem t_BoolOp {op : BoolOp} {vs : List Expr} {pos : Pos} {whole : Sem Value} {Q : Bool → Heap → Prop} (x : Wp (MM w) A (allTrue op vs env) Q E h) : Wp (MM w) A (isTrue (.BoolOp op vs pos) env whole) Q E h := by
  rw [arm_isTrue_BoolOp]; exact x
theorem t_And_cons {e : Expr} {es : List Expr} {Q : Bool → Heap → Prop} (x : Wp (MM w) A (isTrue e env (eval e env)) (KAll w A E env es Q) E h) :
    Wp (MM w) A (allTrue .And (e :: es) env) Q E h := by
  rw [arm_allTrue_cons]
  refine Wp_bind (Wp_post x fun b h₁ q => ?_)
  cases b with
  | true => exact q.1 rfl
  | false => exact Wp_pure (q.2 rfl)
theorem t_And_nil {Q : Bool → Heap → Prop} (x : Q true h) : Wp (MM w) A (allTrue .And [] env) Q E h := by
  show Wp _ _ (pure (BoolOp.And == BoolOp.And)) _ _ _
  exact Wp_pure x
theorem t_Or_cons {e : Expr} {es : List Expr} {Q : Bool → Heap → Prop} (x : Wp (MM w) A (isTrue e env (eval e env)) (KAny w A E env es Q) E h) :
    Wp (MM w) A (allTrue .Or (e :: es) env) Q E h := by
  rw [arm_allTrue_cons]
  refine Wp_bind (Wp_post x fun b h₁ q => ?_)
  cases b with
  | true => exact Wp_pure (q.1 rfl)
  | false => exact q.2 rfl
theorem t_Or_nil {Q : Bool → Heap → Prop} (x : Q false h) : Wp (MM w) A (allTrue .Or [] env) Q E h := by
  show Wp _ _ (pure (BoolOp.Or == BoolOp.And)) _ _ _
  exact Wp_pure x
theorem e_IfExp {test body orelse : Expr} {pos : Pos} {Q : Value → Heap → Prop}
    (x : Wp (MM w) A (isTrue test env (eval test env)) (KIfE w A E env body orelse Q) E h) :
    Wp (MM w) A (eval (.IfExp test body orelse pos) env) Q E h := by
  rw [arm_eval_IfExp]
  refine Wp_bind (Wp_post x fun b h₁ q => ?_)
  cases b with
  | true => exact q.1 rfl
  | false => exact q.2 rfl
theorem e_BoolOp {op : BoolOp} {vs : List Expr} {pos : Pos} {Q : Value → Heap → Prop} (x : Wp (MM w) A (boolOp pos op (evalEach vs env)) Q E h) : Wp (MM w) A (eval (.BoolOp op vs pos) env) Q E h := by
  show Wp _ _ (boolOp pos op (evalEach vs env)) _ _ _
  exact x
theorem b_last {pos : Pos} {op : BoolOp} {e : Expr} {Q : Value → Heap → Prop} (x : Wp (MM w) A (eval e env) Q E h) : Wp (MM w) A (boolOp pos op (evalEach [e] env)) Q E h := by
  show Wp _ _ (eval e env) _ _ _
  exact x
theorem b_And {pos : Pos} {e e' : Expr} {es : List Expr} {Q : Value → Heap → Prop}
    (x : Wp (MM w) A (eval e env) (fun v h₁ => Wp (MM w) A (truthy v) (fun b h₂ => (b = true → Wp (MM w) A (boolOp pos .And (evalEach (e' :: es) env)) Q E h₂) ∧ (b = false → Q v h₂)) E h₁) E h) :
    Wp (MM w) A (boolOp pos .And (evalEach (e :: e' :: es) env)) Q E h := by
  show Wp _ _ (do
    let v ← eval e env
    standAt pos
    let t ← holding [v] (truthy v)
    match BoolOp.And, t with
    | .And, false | .Or, true => pure v
    | _, _ => boolOp pos .And (evalEach (e' :: es) env)) _ _ _
  refine Wp_bind (Wp_post x fun v h₁ q => Wp_bind (Wp_standAt (Wp_bind (Wp_holding (Wp_post q fun b h₂ q₂ => ?_)))))
  cases b with
  | true => exact q₂.1 rfl
  | false => exact Wp_pure (q₂.2 rfl)
theorem b_Or {pos : Pos} {e e' : Expr} {es : List Expr} {Q : Value → Heap → Prop}
    (x : Wp (MM w) A (eval e env) (fun v h₁ => Wp (MM w) A (truthy v) (fun b h₂ => (b = true → Q v h₂) ∧ (b = false → Wp (MM w) A (boolOp pos .Or (evalEach (e' :: es) env)) Q E h₂)) E h₁) E h) :
    Wp (MM w) A (boolOp pos .Or (evalEach (e :: e' :: es) env)) Q E h := by
  show Wp _ _ (do
    let v ← eval e env
    standAt pos
    let t ← holding [v] (truthy v)
    match BoolOp.Or, t with
    | .And, false | .Or, true => pure v
    | _, _ => boolOp pos .Or (evalEach (e' :: es) env)) _ _ _
  refine Wp_bind (Wp_post x fun v h₁ q => Wp_bind (Wp_standAt (Wp_bind (Wp_holding (Wp_post q fun b h₂ q₂ => ?_)))))
  cases b with
  | true => exact Wp_pure (q₂.1 rfl)
  | false => exact q₂.2 rfl
theorem truthy_bool {b : Bool} {Q : Bool → Heap → Prop} (x : Q b h) : Wp (MM w) A (truthy (.bool b)) Q E h := Wp_of fun g d tk o => wpAny_truthy_bool ⟨⟨rfl, rfl, rfl⟩, x⟩
theorem e_Subscript {value slice : Expr} {pos : Pos} {Q : Value → Heap → Prop} (x : Wp (MM w) A (eval value env) (KIdx1 w A E env value slice Q) E h) :
    Wp (MM w) A (eval (.Subscript value slice pos) env) Q E h := by
  show Wp _ _ (do
    let o ← eval value env
    let i ← holding [o] (eval slice env)
    standAt pos
    subscriptTail value slice o i) _ _ _
  exact Wp_bind (Wp_post x fun o h₁ q₁ => Wp_bind (Wp_holding (Wp_post q₁ fun i h₂ q₂ => Wp_bind (Wp_standAt q₂))))
theorem e_Attribute {x attr : Str} {xp pos : Pos} {Q : Value → Heap → Prop} (k : Wp (MM w) A (eval (.Name x xp) env) (KGet w A E attr Q) E h) :
    Wp (MM w) A (eval (.Attribute (.Name x xp) attr pos) env) Q E h := by
  rw [arm_eval_Attribute, show attributeBase (.Name x xp) attr env (eval (.Name x xp) env) = eval (.Name x xp) env from rfl]
  refine Wp_bind (Wp_post k fun o h₁ q₁ => Wp_bind (Wp_standAt (Wp_bind (Wp_holding (Wp_post q₁ fun r h₂ q₂ => ?_)))))
  rw [show letTemporaryGo (.Name x xp) o r = pure () from rfl]
  exact Wp_bind (Wp_pure (Wp_pure q₂))
theorem e_Tuple {elts : List Expr} {k : Nat} {pos : Pos} {Q : Value → Heap → Prop} (x : Wp (MM w) A (spliced (backTo pos (starEach elts env))) (KTup w A E Q) E h) : Wp (MM w) A (eval (.Tuple elts k pos) env) Q E h := by
  rw [arm_eval_Tuple]
  exact Wp_bind (Wp_standAt (Wp_bind x))
theorem e_List {elts : List Expr} {pos : Pos} {Q : Value → Heap → Prop} (x : Wp (MM w) A (spliced (backTo pos (starEach elts env))) (KLst w A E Q) E h) : Wp (MM w) A (eval (.List elts pos) env) Q E h := by
  rw [arm_eval_List]
  exact Wp_bind (Wp_standAt (Wp_bind x))
theorem sp_nil {pos : Pos} {Q : List Value → Heap → Prop} (x : Q [] h) : Wp (MM w) A (spliced (backTo pos (starEach [] env))) Q E h := by
  show Wp _ _ (pure []) _ _ _
  exact Wp_pure x
theorem sp_cons {pos : Pos} {e : Expr} {es : List Expr} {Q : List Value → Heap → Prop}
    (x : Wp (MM w) A (eval e env) (KSp1 w A E env pos es Q) E h)
    (hs : starEach (e :: es) env = (false, eval e env) :: starEach es env := by with_unfolding_all rfl) : Wp (MM w) A (spliced (backTo pos (starEach (e :: es) env))) Q E h := by
  rw [hs]
  show Wp _ _ (do
    let v ← eval e env
    let here ← (if false = true then do
        if ← notIterableAtAll v then
          rule "star.not-iterable"; raiseError "TypeError" s!"Value after * must be an iterable, not {← typeNameOf v}"
        collect v
      else pure [v] : Sem (List Value))
    return here ++ (← holding here (spliced (backTo pos (starEach es env))))) _ _ _
  refine Wp_bind (Wp_post x fun v h₁ q => Wp_bind ?_)
  rw [if_neg (by decide)]
  exact Wp_pure (Wp_bind (Wp_holding (Wp_post q fun vs h₂ q₂ => Wp_pure q₂)))
end

end
section
open PySem PySem.W PyProof.Rows PySem.Calls PySem.Spec
set_option Elab.async false
set_option linter.unusedVariables false
set_option maxRecDepth 100000

noncomputable def put (x : Str) (v : Value) : List (Str × Value) → List (Str × Value)
  | [] => [(x, v)]
  | (y, u) :: l => if x = y then (y, v) :: l else (y, u) :: put x v l
noncomputable def lk (m : List (Str × Value)) : Str → Option Value := fun y => m.lookup y
theorem lk_put (x : Str) (v : Value) : ∀ m : List (Str × Value), (fun y => if y = x then some v else lk m y) = lk (put x v m)
  | [] => by
    funext y
    show _ = List.lookup y [(x, v)]
    rw [List.lookup_cons]
    by_cases h : y = x
    · subst h; simp
    · have : (y == x) = false := by simpa using h
      simp [h, this, lk]
  | (z, u) :: m => by
    funext y
    have ih := congrFun (lk_put x v m) y
    show (if y = x then some v else List.lookup y ((z, u) :: m)) = List.lookup y (put x v ((z, u) :: m))
    unfold put
    by_cases hz : x = z
    · subst hz
      rw [if_pos rfl, List.lookup_cons, List.lookup_cons]
      by_cases h : y = x
      · subst h; simp
      · have : (y == x) = false := by simpa using h
        simp [h, this]
    · rw [if_neg hz, List.lookup_cons, List.lookup_cons]
      by_cases h : y = z
      · subst h
        have : ¬ y = x := fun e => hz e.symm
        simp [this]
      · have : (y == z) = false := by simpa using h
        rw [this]
        exact ih

noncomputable def Wo (w : World) (hw h : Heap) : Prop := Wd w hw ∧ hw.StaysIn h
theorem Wo.mono {w : World} {hw h h' : Heap} (D : Wo w hw h) (k : h.StaysIn h') : Wo w hw h' := ⟨D.1, fun b o e => k b o (D.2 b o e)⟩
theorem Wo.top {w : World} {hw h : Heap} (D : Wo w hw h) : ∃ mean mg mb, Top q1 (looseW q1 loose1) mean mg mb h := let ⟨a, b, c, T⟩ := D.1.T; ⟨a, b, c, T.keeps D.2⟩
theorem Wo.K {w : World} {hw h : Heap} (D : Wo w hw h) : (KF w.params).In h := D.1.X.keeps D.2
theorem Wo.nolimit {w : World} {hw h : Heap} (D : Wo w hw h) : h.NoLimit := let ⟨_, _, _, T⟩ := D.top; T.nolimit

structure St (w : World) (hw h₀ : Heap) (L : Addr) (h : Heap) (m : List (Str × Value)) (l : List (Addr × Obj)) : Prop where
  D : Wo w hw h₀
  F : Fr h₀ L h (lk m)
  N : News h₀ L h l
  nd : (l.map (·.1)).Nodup

inductive Up (a : Addr) (o o' : Obj) : List (Addr × Obj) → List (Addr × Obj) → Prop where
  | head {l} : Up a o o' ((a, o) :: l) ((a, o') :: l)
  | tail {p l l'} : Up a o o' l l' → Up a o o' (p :: l) (p :: l')
theorem Up.map {a : Addr} {o o' : Obj} {l l' : List (Addr × Obj)} (u : Up a o o' l l') : l'.map (·.1) = l.map (·.1) := by
  induction u with
  | head => rfl
  | tail _ ih => rw [List.map_cons, List.map_cons, ih]
theorem Up.mem {a : Addr} {o o' : Obj} {l l' : List (Addr × Obj)} (u : Up a o o' l l') : (a, o) ∈ l := by
  induction u with
  | head => exact .head _
  | tail _ ih => exact .tail _ ih
theorem Up.ne {a : Addr} {o o' : Obj} {l l' : List (Addr × Obj)} (u : Up a o o' l l') (nd : (l.map (·.1)).Nodup) : ∀ p ∈ l', p = (a, o') ∨ (p ∈ l ∧ p.1 ≠ a) := by
  induction u with
  | head =>
    intro p hp
    cases hp with
    | head => exact .inl rfl
    | tail _ hp => exact .inr ⟨.tail _ hp, fun e => (List.nodup_cons.mp nd).1 (List.mem_map.mpr ⟨p, hp, e⟩)⟩
  | tail u ih =>
    intro p hp
    have nd' := List.nodup_cons.mp nd
    cases hp with
    | head => exact .inr ⟨.head _, fun e => nd'.1 (List.mem_map.mpr ⟨_, u.mem, e.symm⟩)⟩
    | tail _ hp => exact (ih nd'.2 p hp).imp id fun q => ⟨.tail _ q.1, q.2⟩

section
variable {w : World} {hw h₀ h h' : Heap} {L : Addr} {m : List (Str × Value)} {l l' : List (Addr × Obj)}
theorem St.wd (S : St w hw h₀ L h m l) : Wo w hw h := S.D.mono S.F.keep
theorem St.grow (S : St w hw h₀ L h m l) (k : h.StaysIn h') : St w hw h₀ L h' m l := ⟨S.D, S.F.keeps k, S.N.grown k, S.nd⟩
theorem St.sub (S : St w hw h₀ L h m l) (k : l'.Sublist l) : St w hw h₀ L h m l' := ⟨S.D, S.F, fun p hp => S.N p (k.subset hp), S.nd.sublist (k.map _)⟩
theorem St.nil (S : St w hw h₀ L h m l) : St w hw h₀ L h m [] := S.sub (List.nil_sublist _)
theorem St.push (S : St w hw h₀ L h m l) (o : Obj) (hf : o.isFreed = false := by with_unfolding_all rfl) : St w hw h₀ L (h.push o) m ((h.objs.size, o) :: l) :=
  ⟨S.D, S.F.push o, S.N.push S.F o hf, by
    rw [List.map_cons]
    refine List.nodup_cons.mpr ⟨fun hm => ?_, S.nd⟩
    refine gh fun CC kk => ?_
    obtain ⟨p, hp, e⟩ := List.mem_map.mp hm
    refine kk ?_
    clear kk CC
    exact absurd (Heap.lt_size (S.N p hp).1) (by rw [e]; exact Nat.lt_irrefl _)⟩
/- one object of the ledger is turned, nothing else -/
theorem St.upd {a : Addr} {o o' : Obj} (S : St w hw h₀ L h m l) (u : Up a o o' l l') (k : ∀ b x, b ≠ a → h.get? b = some x → h'.get? b = some x) (ho : h'.get? a = some o') : St w hw h₀ L h' m l' := by
  have ha := S.N _ u.mem
  refine ⟨S.D, ⟨S.F.ns.extBut k (Ne.symm ha.2.1), fun b x e => k b x (fun q => ?_) (S.F.keep b x e), S.F.above⟩, fun p hp => ?_, u.map ▸ S.nd⟩
  · have := ha.2.2; rw [← q, e] at this; cases this
  · rcases u.ne S.nd p hp with rfl | ⟨hp', hne⟩
    · exact ⟨ho, ha.2⟩
    · exact ⟨k _ _ hne (S.N p hp').1, (S.N p hp').2⟩
theorem St.get {a : Addr} {o : Obj} (S : St w hw h₀ L h m l) (hm : (a, o) ∈ l) : h.get? a = some o := (S.N _ hm).1
theorem St.base {a : Addr} {o : Obj} (S : St w hw h₀ L h m l) (e : h₀.get? a = some o) : h.get? a = some o := S.F.keep _ _ e
end

section
variable {w : World} {A : Around} {E : Value → Heap → Prop} {hw h₀ h : Heap} {L a : Addr} {m : List (Str × Value)} {l : List (Addr × Obj)} {fd : FuncData}

/- a name of a def's own, a name of the module's or the builtins': asked at once, of closed terms -/
noncomputable def isLoc (fd : FuncData) (x : Str) : Bool := decide (fd.scope.kind = .function) && (decide (fd.scope.names.lookup x = some .local) && !(x == ("__debug__" : Str)))
noncomputable def isGlo (fd : FuncData) (x : Str) : Bool := decide (fd.globals = 3) && (decide (fd.builtins = 0) && (decide (fd.scope.kind = .function) && (decide (fd.scope.names.lookup x = some .globalImplicit) && (!(x == ("__debug__" : Str)) && decide (x ≠ "__name__")))))
theorem isLoc.to {x : Str} (e : isLoc fd x = true) : fd.scope.kind = .function ∧ fd.scope.names.lookup x = some .local ∧ (x == ("__debug__" : Str)) = false := by
  unfold isLoc at e
  rw [Bool.and_eq_true, Bool.and_eq_true, Bool.not_eq_true'] at e
  exact ⟨of_decide_eq_true e.1, of_decide_eq_true e.2.1, e.2.2⟩
theorem isGlo.to {x : Str} (e : isGlo fd x = true) : fd.globals = 3 ∧ fd.builtins = 0 ∧ fd.scope.kind = .function ∧ fd.scope.names.lookup x = some .globalImplicit ∧ (x == ("__debug__" : Str)) = false ∧ x ≠ "__name__" := by
  unfold isGlo at e
  rw [Bool.and_eq_true, Bool.and_eq_true, Bool.and_eq_true, Bool.and_eq_true, Bool.and_eq_true, Bool.not_eq_true'] at e
  exact ⟨of_decide_eq_true e.1, of_decide_eq_true e.2.1, of_decide_eq_true e.2.2.1, of_decide_eq_true e.2.2.2.1, e.2.2.2.2.1, of_decide_eq_true e.2.2.2.2.2⟩
theorem n_local {x : Str} {pos : Pos} {v : Value} {Q : Value → Heap → Prop} (S : St w hw h₀ L h m l) (hv : lk m x = some v) (q : Q v h) (hk : isLoc fd x = true := by with_unfolding_all rfl) :
    Wp (MM w) A (eval (.Name x pos) (callEnv fd L a)) Q E h := Wp_of fun g d tk o =>
  wpAny_Name (wpAny_loadName_local (isLoc.to hk).1 (isLoc.to hk).2.1 S.F.ns hv ⟨⟨rfl, rfl, rfl⟩, q⟩) (isLoc.to hk).2.2
theorem n_localK {x : Str} {pos : Pos} {v : Value} {Q : Value → Heap → Prop} (hk : isLoc fd x = true) (S : St w hw h₀ L h m l) (hv : lk m x = some v) (q : Q v h) : Wp (MM w) A (eval (.Name x pos) (callEnv fd L a)) Q E h := n_local S hv q hk
theorem n_store {x : Str} {v : Value} {Q : Unit → Heap → Prop} (S : St w hw h₀ L h m l) (q : ∀ h', St w hw h₀ L h' (put x v m) l → Q () h') (hk : isLoc fd x = true := by with_unfolding_all rfl) :
    Wp (MM w) A (storeName (callEnv fd L a) x v) Q E h := Wp_of fun g d tk o =>
  wpAny_storeName_local (isLoc.to hk).2.1 S.F.ns (fun h' hn hs => ⟨⟨rfl, rfl, rfl⟩, q h' ⟨S.D, lk_put x v m ▸ S.F.set hn hs, S.N.set hs, S.nd⟩⟩)
    (by show (fd.scope.kind == .class || (fd.scope.kind == .module && L != fd.globals)) = false; rw [(isLoc.to hk).1]; rfl)
theorem n_global {x : Str} {pos : Pos} {v : Value} {Q : Value → Heap → Prop} (S : St w hw h₀ L h m l) (hg : nsIn (KF w.params) mainGlobals x = some (some v)) (q : Q v h) (hk : isGlo fd x = true := by with_unfolding_all rfl) :
    Wp (MM w) A (eval (.Name x pos) (callEnv fd L a)) Q E h := Wp_of fun g d tk o => by
  refine gh fun CC kk => ?_
  obtain ⟨_, mg, mb, T⟩ := S.wd.top
  obtain ⟨hgl, _, hk, hl, hd, _⟩ := isGlo.to hk
  refine kk ?_
  clear kk CC
  exact Name_function_global hk hl (loadGlobal_global (env := callEnv fd L a) (by show Heap.Ns _ fd.globals mg; rw [hgl]; exact T.g) (mg_of S.wd.K T.g hg) ⟨⟨rfl, rfl, rfl⟩, q⟩) hd
theorem n_builtin {x : Str} {pos : Pos} {v : Value} {Q : Value → Heap → Prop} (S : St w hw h₀ L h m l) (hg : nsIn (KF w.params) mainGlobals x = some none) (hb : bootBuiltins x = some v) (q : Q v h) (hk : isGlo fd x = true := by with_unfolding_all rfl) :
    Wp (MM w) A (eval (.Name x pos) (callEnv fd L a)) Q E h := Wp_of fun g d tk o => by
  refine gh fun CC kk => ?_
  obtain ⟨_, mg, mb, T⟩ := S.wd.top
  obtain ⟨hgl, hbl, hk, hl, hd, hn⟩ := isGlo.to hk
  refine kk ?_
  clear kk CC
  exact Name_function_global hk hl (loadGlobal_builtin (env := callEnv fd L a) (by show Heap.Ns _ fd.globals mg; rw [hgl]; exact T.g) (mg_none_of S.wd.K T.g hg) (by show Heap.Ns _ fd.builtins mb; rw [hbl]; exact T.b) ((T.builtins x hn).trans hb) ⟨⟨rfl, rfl, rfl⟩, q⟩) hd

/- what keeps a callee alive in a call: asked of a reference alone -/
noncomputable def Keeps (f : Value) (h : Heap) : Prop := match f with
  | .ref b => (∃ o fd, h.get? b = some o ∧ o.data = .func fd) ∨ ∃ P cd, (KF P).In h ∧ clsIn (KF P) b = some cd ∧ specialIn (KF P) (.ref b) "__call__" = some (some (.builtin "type.__call__"))
  | _ => True
theorem keeperOf_wp {f : Value} {Q : Keeper → Heap → Prop} (k : Keeps f h) (q : ∀ kp, kp = .machine ∨ kp = .frame → Q kp h) : Wp (MM w) A (keeperOf f) Q E h := Wp_of fun g d tk o => by
  cases f with
  | ref b =>
    unfold keeperOf
    rcases k with ⟨ob, fd, ho, hd⟩ | ⟨P, cd, hK, hc, hs⟩
    · refine wpAny_bind (wpAny_load ho ?_)
      rw [hd]
      exact wpAny_pure ⟨⟨rfl, rfl, rfl⟩, q _ (.inr rfl)⟩
    · obtain ⟨ob, ho, hd⟩ : ∃ ob, h.get? b = some ob ∧ ob.data = .cls cd := by
        unfold clsIn at hc
        split at hc
        · rename_i e; cases hc; exact ⟨_, hK _ _ e, rfl⟩
        · cases hc
      have L : Looks (MM w) h (specialOf (.ref b) "__call__") (some (.builtin "type.__call__")) := looks_specialIn hK hs
      refine wpAny_bind (wpAny_load ho ?_)
      rw [hd]
      refine wpAny_bind (L.here ?_)
      rw [if_pos (by decide)]
      exact wpAny_pure ⟨⟨rfl, rfl, rfl⟩, q _ (.inl rfl)⟩
  | _ => exact wpAny_pure ⟨⟨rfl, rfl, rfl⟩, q _ (.inl rfl)⟩
theorem callMarked_wp {mk f : Value} {pos : List Value} {Q : Value → Heap → Prop} (x : Wp (MM w) A (call f pos []) Q E h) : Wp (MM w) A (callMarked mk f pos []) Q E h := Wp_keep x
noncomputable abbrev KArgs (w : World) (A : Around) (E : Value → Heap → Prop) (f : Value) (first : List Value) (Q : Value → Heap → Prop) : List Value → Heap → Prop := fun vs h' => Keeps f h' ∧ Wp (MM w) A (call f (first ++ vs) []) Q E h'
theorem e_callWith {env : Env} {pos : Pos} {f : Value} {first : List Value} {es : List Expr} {Q : Value → Heap → Prop}
    (x : Wp (MM w) A (spliced (backTo pos (starEach es env))) (KArgs w A E f first Q) E h)
    (hl : (backTo pos (starEach es env)).any (·.1) = false := by with_unfolding_all rfl) : Wp (MM w) A (callWith pos f first (backTo pos (starEach es env)) []) Q E h := by
  have key : Wp (MM w) A (evalArgs f true (backTo pos (starEach es env)) []) (fun a h' => a.kw = [] ∧ Keeps f h' ∧ Wp (MM w) A (call f (first ++ a.pos) []) Q E h') E h := by
    generalize backTo pos (starEach es env) = ts at hl x
    have go : Wp (MM w) A (spliced ts >>= fun pos => holding (pos ++ []) (do
        let kw ← evalAll ([] : List (Sem Value))
        pure (⟨pos, (([] : List (Option Str × Sem Value)).filterMap (·.1)).zip kw⟩ : Args))) (fun a h' => a.kw = [] ∧ Keeps f h' ∧ Wp (MM w) A (call f (first ++ a.pos) []) Q E h') E h :=
      Wp_bind (Wp_post x fun vs h₁ q => Wp_holding (Wp_bind (Wp_pure (Wp_pure ⟨rfl, q⟩))))
    cases ts with
    | nil => exact go
    | cons t ts =>
      obtain ⟨b, t⟩ := t
      obtain rfl : b = false := (by simpa using hl : b = false ∧ _).1
      exact go
  show Wp (MM w) A (do
    let a ← holding (f :: first) (evalArgs f true (backTo pos (starEach es env)) [])
    standAt pos
    let starred := (backTo pos (starEach es env)).any (·.1) || ([] : List (Option Str × Sem Value)).any (·.1.isNone)
    let pos := first ++ a.pos
    let r ← match ← keeperOf f, starred with
      | .frame, true => callMarked starredCall f pos a.kw
      | .frame, false => if (backTo _ (starEach es env)).length + 2 * ([] : List (Option Str × Sem Value)).length > 30 then call f pos a.kw else callMarked plainCall f pos a.kw
      | .boundFrame, false => if (backTo _ (starEach es env)).length + 2 * ([] : List (Option Str × Sem Value)).length > 30 then call f pos a.kw else callMarked callOfAMethodObject f pos a.kw
      | .machine, false => call f pos a.kw
      | _, _ => operate (f :: (if starred then pos.reverse else pos) ++ a.kw.map (·.2)) (call f pos a.kw)
    holding [r] point
    pure r) Q E h
  refine Wp_bind (Wp_holding (Wp_post key fun a h' q => ?_))
  refine gh fun CC kk => ?_
  obtain ⟨hkw, hkp, hc⟩ := q
  refine kk ?_
  clear kk CC
  refine Wp_bind (Wp_standAt ?_)
  rw [hl]
  have fin : ∀ r h'', Q r h'' → Wp (MM w) A (do holding [r] point; pure r) Q E h'' := fun r h'' q => Wp_bind (Wp_holding (Wp_point (Wp_pure q)))
  refine Wp_bind (keeperOf_wp hkp fun kp hk => ?_)
  rw [hkw]
  rcases hk with rfl | rfl
  · exact Wp_bind (Wp_post hc fin)
  · show Wp _ _ (if _ then _ else _) _ _ _
    split
    · exact Wp_bind (Wp_post hc fin)
    · exact Wp_bind (callMarked_wp (Wp_post hc fin))
end

end
section
open PySem PySem.W PyProof.Rows PySem.Calls PySem.Spec
set_option Elab.async false
set_option linter.unusedVariables false
set_option maxRecDepth 100000

noncomputable def flv : Flow → Value | .ret v => v | _ => .none
/- all that stood stands as it stood, but what is named -/
noncomputable def Same (W : List Addr) (h h' : Heap) : Prop := ∀ b o, b ∉ W → h.get? b = some o → h'.get? b = some o
theorem Same.of {h h' : Heap} (k : h.StaysIn h') : Same [] h h' := fun b o _ e => k b o e

structure Rm (A : Around) (n : Nat) : Prop where
  hd : A.handled = none
  dp : A.depth + n < recursionLimit
  un : A.units + 8 * n < cLine
  gd : A.guards = some []
theorem Rm.mono {A : Around} {n m : Nat} (r : Rm A n) (h : m ≤ n) : Rm A m := ⟨r.hd, by have := r.dp; lia, by have := r.un; lia, r.gd⟩
theorem Rm.deeper {A : Around} {n : Nat} {env : Env} (r : Rm A (n + 1)) : Rm (A.deeper env) n :=
  ⟨r.hd, by have := r.dp; show A.depth + 1 + n < _; lia, by have := r.un; show A.units + 3 + 8 * n < _; lia, r.gd⟩
theorem Rm.dep {A : Around} {n : Nat} (r : Rm A n) : A.depth < recursionLimit := by have := r.dp; lia
section
variable {w : World} {A : Around} {hw h : Heap}

theorem Wc_func {body : List Stmt} {env : Env} {R : Result → Heap → Prop}
    (x : Wp (MM w) (A.deeper env) (execs body env) (fun fl h' => R (.ok (.ret (flv fl))) h')
        (fun e h' => Wp (MM w) (A.deeper env) (leaving env e) (fun _ h'' => R (.error e) h'') (fun e' h'' => R (.error e') h'') h') h) : Wc (MM w) A (.func body env) R h := by
  refine Wc_of_tree rfl ?_
  show Wp _ (A.deeper env) (do point; match ← (execs body env).onRaise (leaving env) with | .ret v => ret v | _ => ret .none) _ _ _
  refine Wp_bind (Wp_point (Wp_bind (Wp_onRaise (Wp_mono x (fun f h' q => ?_) fun e h' q => q))))
  cases f <;> exact Wp_pure q
/- a call of a def: what the arguments bind, and the body -/
theorem call_fn {f : Addr} {fd : FuncData} {args : List Value} {body : List Stmt} {R : Result → Heap → Prop} (D : Wo w hw h)
    (hK : (KF w.params).lookup f = some { cls := .type "function", data := .func fd }) (hcd : codeIn (KF w.params) fd.code fd.qualname = true) (room : A.depth < recursionLimit) (hbody : fd.body = .stmts body)
    (x : Wp (MM w) A.in1 (bindArgs fd ⟨args, []⟩) (fun binds h₁ => Wp (MM w) A.in1 (newFunctionEnv fd.scope fd.globals fd.closure binds (fd.qualname ++ ".<locals>.") (some f) fd.code none fd.builtins)
      (fun env h₂ => h₂.NoLimit ∧ Wc (MM w) A (.func body env) R h₂) (fun e h' => R (.error e) h') h₁) (fun e h' => R (.error e) h') h)
    (hco : fd.scope.isCoroutine = false) (hgen : fd.scope.isGenerator = false) : Wc (MM w) A (.call (.ref f) ⟨args, []⟩) R h := by
  refine Wc_of_tree rfl ?_
  show Wp _ A.in1 (callAny (.ref f) ⟨args, []⟩) _ _ _
  simp only [callAny]
  refine Wp_bind (Wp_load (D.K _ _ hK) ?_)
  refine gh fun CC kk => ?_
  obtain ⟨c, oc, vs, tq, hc, hoc, hdc, hq⟩ := codeRec_of D.K hcd
  refine kk ?_
  clear kk CC
  simp only [callFunction, hco, hgen, hbody, hc]
  rw [hc] at x
  refine Wp_bind (m := field (.ref c) 1) (Wp_of fun g d tk o => wpAny_field hoc hdc hq ⟨⟨rfl, rfl, rfl⟩, Wp_bind (Wp_pure ?_)⟩)
  exact Wp_bind (Wp_post x fun binds h₁ q => Wp_bind (Wp_post q fun env h₂ q₂ => Wp_bind (Wp_of fun g d tk o => wpAny_enterFrame q₂.1 room ⟨⟨rfl, rfl, rfl⟩, Wp_pure ⟨rfl, q₂.2⟩⟩)))

/- entering a def: its frame stands, the ledger l holds what it may turn -/
theorem enter {f : Addr} {fd : FuncData} {args : List Value} {binds : List (Str × Value)} {body : List Stmt} {R : Result → Heap → Prop} (D : Wo w hw h)
    (l : List (Addr × Obj)) (hl : ∀ p ∈ l, h.get? p.1 = some p.2 ∧ hw.get? p.1 = none) (nd : (l.map (·.1)).Nodup)
    (hK : (KF w.params).lookup f = some { cls := .type "function", data := .func fd }) (hcd : codeIn (KF w.params) fd.code fd.qualname = true) (room : A.depth < recursionLimit)
    (hbind : ∀ s : Shared, s.heap = h → BindsTo s fd ⟨args, []⟩ binds) (hbody : fd.body = .stmts body)
    (k : ∀ h₁, St w hw (hideAll h (l.map (·.1))) h.objs.size h₁ binds.reverse l →
      Wp (MM w) (A.deeper (callEnv fd h.objs.size f)) (execs body (callEnv fd h.objs.size f)) (fun fl h' => R (.ok (.ret (flv fl))) h')
        (fun e h' => Wp (MM w) (A.deeper (callEnv fd h.objs.size f)) (leaving (callEnv fd h.objs.size f) e) (fun _ h'' => R (.error e) h'') (fun e' h'' => R (.error e') h'') h') h₁)
    (hloc : ∀ x ∈ binds, fd.scope.names.lookup x.1 = some .local) (hcell : ∀ x ∈ fd.scope.names, x.2 ≠ .cell)
    (hco : fd.scope.isCoroutine = false) (hgen : fd.scope.isGenerator = false) (hk : fd.scope.kind = .function) : Wc (MM w) A (.call (.ref f) ⟨args, []⟩) R h := by
  refine call_fn D hK hcd room hbody (Wp_of fun g d tk o => hbind _ rfl _ _ _ _ ⟨⟨rfl, rfl, rfl⟩, ?_⟩) hco hgen
  refine Wp_of fun g d tk o => wpAny_newFunctionEnv hcell hloc (fun h₁ hns hsb => ⟨⟨rfl, rfl, rfl⟩, D.nolimit.fresh _ hsb, ?_⟩) hk
  have hkeep : ∀ b o, h.get? b = some o → h₁.get? b = some o := fun b o e => hsb.extBut b o (Nat.ne_of_lt (Heap.lt_size e)) (Heap.get?_push_of_some _ e)
  have nW : ∀ b o, hw.get? b = some o → b ∉ l.map (·.1) := fun b o e hb => by
    refine gh fun CC kk => ?_
    obtain ⟨p, hp, rfl⟩ := List.mem_map.mp hb
    refine kk ?_
    clear kk CC
    rw [(hl p hp).2] at e; cases e
  have S : St w hw (hideAll h (l.map (·.1))) h.objs.size h₁ binds.reverse l :=
    ⟨⟨D.1, fun b o e => hideAll_get _ (D.2 b o e) (nW b o e)⟩,
     ⟨hns, fun b o e => hkeep b o (of_hideAll _ e), Nat.le_of_eq (hideAll_size _ _)⟩,
     fun p hp => ⟨hkeep _ _ (hl p hp).1, Nat.ne_of_lt (Heap.lt_size (hl p hp).1), hideAll_none _ (List.mem_map_of_mem hp)⟩, nd⟩
  exact Wc_func (k h₁ S)

/- a def that raises nothing -/
theorem enter_ret {f : Addr} {fd : FuncData} {args : List Value} {binds : List (Str × Value)} {body : List Stmt} {Q : Value → Heap → Prop} {E : Value → Heap → Prop} (D : Wo w hw h)
    (l : List (Addr × Obj)) (hl : ∀ p ∈ l, h.get? p.1 = some p.2 ∧ hw.get? p.1 = none) (nd : (l.map (·.1)).Nodup)
    (hK : (KF w.params).lookup f = some { cls := .type "function", data := .func fd }) (hcd : codeIn (KF w.params) fd.code fd.qualname = true) (room : A.depth < recursionLimit)
    (hbind : ∀ s : Shared, s.heap = h → BindsTo s fd ⟨args, []⟩ binds) (hbody : fd.body = .stmts body)
    (k : ∀ h₁, St w hw (hideAll h (l.map (·.1))) h.objs.size h₁ binds.reverse l →
      Wp (MM w) (A.deeper (callEnv fd h.objs.size f)) (execs body (callEnv fd h.objs.size f)) (fun fl h' => Q (flv fl) h') (fun _ _ => False) h₁)
    (hloc : ∀ x ∈ binds, fd.scope.names.lookup x.1 = some .local) (hcell : ∀ x ∈ fd.scope.names, x.2 ≠ .cell)
    (hco : fd.scope.isCoroutine = false) (hgen : fd.scope.isGenerator = false) (hk : fd.scope.kind = .function) : Wp (MM w) A (call (.ref f) args []) Q E h :=
  Wp_call (enter D l hl nd hK hcd room hbind hbody (fun h₁ S => Wp_mono (k h₁ S) (fun _ _ q => q) fun _ _ e => e.elim) hloc hcell hco hgen hk)
end

/- ints and bytes -/
section
variable {w : World} {A : Around} {E : Value → Heap → Prop} {h : Heap} {Q : Value → Heap → Prop} {a b : Int} {t u : Tok}
theorem i_add (q : ∀ t', Q (.int (a + b) t') h) : Wp (MM w) A (binaryOp .Add (.int a t) (.int b u)) Q E h := Wp_of fun g d tk o => add_int ⟨⟨rfl, rfl, rfl⟩, q _⟩
theorem i_sub (q : ∀ t', Q (.int (a - b) t') h) : Wp (MM w) A (binaryOp .Sub (.int a t) (.int b u)) Q E h := Wp_of fun g d tk o => P.sub_int ⟨⟨rfl, rfl, rfl⟩, q _⟩
theorem i_mul (hm : IntMulOk a b) (q : ∀ t', Q (.int (a * b) t') h) : Wp (MM w) A (binaryOp .Mult (.int a t) (.int b u)) Q E h := Wp_of fun g d tk o => P.mul_int ⟨⟨rfl, rfl, rfl⟩, q _⟩ hm
theorem i_mod (hb : b ≠ 0) (q : ∀ t', Q (.int (a.fmod b) t') h) : Wp (MM w) A (binaryOp .Mod (.int a t) (.int b u)) Q E h := Wp_of fun g d tk o => mod_int' hb ⟨⟨rfl, rfl, rfl⟩, q _⟩
theorem i_div (hb : b ≠ 0) (hp : Builtin.divisionGoesByPylong a b = false) (q : ∀ t', Q (.int (a.fdiv b) t') h) : Wp (MM w) A (binaryOp .FloorDiv (.int a t) (.int b u)) Q E h := Wp_of fun g d tk o => floordiv_int hb ⟨⟨rfl, rfl, rfl⟩, q _⟩ (.inl hp)
theorem i_neg (q : ∀ t', Q (.int (-a) t') h) : Wp (MM w) A (unaryOp .USub (.int a t)) Q E h := Wp_of fun g d tk o => P.neg_int ⟨⟨rfl, rfl, rfl⟩, q _⟩
theorem i_lt (q : Q (.bool (decide (a < b))) h) : Wp (MM w) A (compareOp .Lt (.int a t) (.int b u)) Q E h := Wp_of fun g d tk o => P.lt_int ⟨⟨rfl, rfl, rfl⟩, q⟩
theorem i_le (q : Q (.bool (decide (a ≤ b))) h) : Wp (MM w) A (compareOp .LtE (.int a t) (.int b u)) Q E h := Wp_of fun g d tk o => P.le_int ⟨⟨rfl, rfl, rfl⟩, q⟩
theorem i_gt (q : Q (.bool (decide (a > b))) h) : Wp (MM w) A (compareOp .Gt (.int a t) (.int b u)) Q E h := Wp_of fun g d tk o => P.gt_int ⟨⟨rfl, rfl, rfl⟩, q⟩
theorem i_ge (q : Q (.bool (decide (a ≥ b))) h) : Wp (MM w) A (compareOp .GtE (.int a t) (.int b u)) Q E h := Wp_of fun g d tk o => P.ge_int ⟨⟨rfl, rfl, rfl⟩, q⟩
theorem i_eq (q : Q (.bool (a == b)) h) : Wp (MM w) A (compareOp .Eq (.int a t) (.int b u)) Q E h := Wp_of fun g d tk o => P.eq_int ⟨⟨rfl, rfl, rfl⟩, q⟩
theorem i_ne (q : Q (.bool (a != b)) h) : Wp (MM w) A (compareOp .NotEq (.int a t) (.int b u)) Q E h := Wp_of fun g d tk o => P.ne_int ⟨⟨rfl, rfl, rfl⟩, q⟩
end
section
variable {w : World} {A : Around} {E : Value → Heap → Prop} {h : Heap} {Q : Value → Heap → Prop} {b c : Array UInt8} {t u : Tok}
theorem y_eq (q : Q (.bool (b.toList == c.toList)) h) : Wp (MM w) A (compareOp .Eq (.bytes b t) (.bytes c u)) Q E h := Wp_of fun g d tk o => eq_bytes ⟨⟨rfl, rfl, rfl⟩, q⟩
theorem y_ne (q : Q (.bool (b.toList != c.toList)) h) : Wp (MM w) A (compareOp .NotEq (.bytes b t) (.bytes c u)) Q E h := Wp_of fun g d tk o =>
  compareOp_gives (op := .NotEq) (typeIs_bytes _ b t) (typeIs_bytes _ c u) FB.slot_bytes_ne FB.entry_bytes_ne (FB.args_bytes_ne_2 _ _) (gives_bytes_ne b c t u) (fun x => nomatch x) ⟨⟨rfl, rfl, rfl⟩, q⟩
theorem y_len (hz : b.size ≤ 1099511627776) (q : ∀ t', Q (.int b.size t') h) : Wp (MM w) A (call (.builtin "len") [.bytes b t]) Q E h := Wp_of fun g d tk o => len_bytes hz ⟨⟨rfl, rfl, rfl⟩, q _⟩
theorem y_item {value slice : Expr} {i : Nat} {ti : Tok} {x : UInt8} (hz : b.size ≤ 1099511627776) (hx : b[i]? = some x) (q : ∀ t', Q (.int x.toNat t') h)
    (hs : subscripted slice false (.bytes b t) (.int i ti) = operate [.bytes b t, .int i ti] (getItem (.bytes b t) (.int i ti)) := by with_unfolding_all rfl) :
    Wp (MM w) A (subscriptTail value slice (.bytes b t) (.int i ti)) Q E h := Wp_of fun g d tk o => by
  have hi : i < b.size := (Array.getElem?_eq_some_iff.mp hx).1
  refine tail_any (typeIs_bytes _ b t) FB.slot_bytes_getitem.lookup ?_ hs
  have hb : b = b.toList.toArray := by simp
  have e : b.toList.getD i 0 = x := by
    have : b.toList[i]? = some x := by rw [Array.getElem?_toList]; exact hx
    rw [List.getD_eq_getElem?_getD, this]; rfl
  rw [hb]
  refine getItem_bytes (by simpa using hz) (by lia) (by simpa using hi) ?_
  rw [Int.toNat_natCast, e]
  exact ⟨⟨rfl, rfl, rfl⟩, q _⟩
theorem gives_in {k : Int} (h0 : 0 ≤ k) (h1 : k < 256) : Gives (Builtin.«bytes.__contains__» ⟨[.bytes b t, .int k u], []⟩) (.val (.bool (b.contains k.toNat.toUInt8))) := by
  refine .of_wp fun M A E s Q hq => ?_
  show wpAny M A (Builtin.Bytes.containsIn "bytes.__contains__" (.bytes b t) (.int k u) >>= fun r => _) _ E s
  refine wpAny_bind ?_
  unfold Builtin.Bytes.containsIn
  refine wpAny_bind (wpAny_attempt (wpAny_of_eq (a := k) rfl ?_))
  refine wpAny_bind (wpAny_of_eq KBy.buffer_eq ?_)
  show wpAny M A (if (decide (k < 0) || decide (k ≥ 256)) = true then _ else _) _ E s
  rw [if_neg (by simp; lia)]
  exact wpAny_pure (wpAny_pure ⟨_, rfl, hq⟩)
theorem y_in {k : Int} (h0 : 0 ≤ k) (h1 : k < 256) (q : Q (.bool (b.contains k.toNat.toUInt8)) h) : Wp (MM w) A (compareOp .In (.int k u) (.bytes b t)) Q E h := Wp_of fun g d tk o =>
  in_gives (typeIs_bytes _ b t) FB.slot_bytes_contains FB.entry_bytes_contains (FB.args_bytes_contains_2 _ _) (gives_in h0 h1) ⟨⟨rfl, rfl, rfl⟩, q⟩
theorem y_notin {k : Int} (h0 : 0 ≤ k) (h1 : k < 256) (q : Q (.bool (!(b.contains k.toNat.toUInt8))) h) : Wp (MM w) A (compareOp .NotIn (.int k u) (.bytes b t)) Q E h := Wp_of fun g d tk o =>
  notIn_gives (typeIs_bytes _ b t) FB.slot_bytes_contains FB.entry_bytes_contains (FB.args_bytes_contains_2 _ _) (gives_in h0 h1) ⟨⟨rfl, rfl, rfl⟩, q⟩
end

end
section
open PySem PySem.W PyProof.Rows PySem.Calls PySem.Spec
set_option Elab.async false
set_option linter.unusedVariables false
set_option maxRecDepth 100000

theorem g_TermError {P : Params} : nsIn (KF P) mainGlobals "TermError" = some (some (.ref 32)) := by kernel_rfl
theorem g_BadParam {P : Params} : nsIn (KF P) mainGlobals "BadParam" = some (some (.ref 45)) := by kernel_rfl
theorem g_PERCENT {P : Params} : nsIn (KF P) mainGlobals "PERCENT" = some (some (.int 37 236)) := by kernel_rfl
theorem g_TWO_OPERATORS {P : Params} : nsIn (KF P) mainGlobals "TWO_OPERATORS" = some (some (.bytes #[43, 45, 42, 47, 109, 38, 124, 94, 61, 62, 60, 65, 79] 238)) := by kernel_rfl
theorem g_ONE_OPERATORS {P : Params} : nsIn (KF P) mainGlobals "ONE_OPERATORS" = some (some (.bytes #[33, 126] 240)) := by kernel_rfl
theorem g_WRITERS {P : Params} : nsIn (KF P) mainGlobals "WRITERS" = some (some (.bytes #[100, 111, 120, 88, 115] 242)) := by kernel_rfl
theorem g_DIGITS {P : Params} : nsIn (KF P) mainGlobals "DIGITS" = some (some (.bytes #[48, 49, 50, 51, 52, 53, 54, 55, 56, 57] 244)) := by kernel_rfl
theorem g_param_is_digit {P : Params} : nsIn (KF P) mainGlobals "param_is_digit" = some (some (.ref 54)) := by kernel_rfl
theorem g_param_number {P : Params} : nsIn (KF P) mainGlobals "param_number" = some (some (.ref 61)) := by kernel_rfl
theorem g_ParmReader {P : Params} : nsIn (KF P) mainGlobals "ParmReader" = some (some (.ref 141)) := by kernel_rfl
theorem g_tparm_program {P : Params} : nsIn (KF P) mainGlobals "tparm_program" = some (some (.ref 152)) := by kernel_rfl
theorem g_param_most {P : Params} : nsIn (KF P) mainGlobals "param_most" = some (some (.ref 157)) := by kernel_rfl
theorem g_param_is_plain {P : Params} : nsIn (KF P) mainGlobals "param_is_plain" = some (some (.ref 164)) := by kernel_rfl
theorem g_delay_at {P : Params} : nsIn (KF P) mainGlobals "delay_at" = some (some (.ref 171)) := by kernel_rfl
theorem g_delays_of {P : Params} : nsIn (KF P) mainGlobals "delays_of" = some (some (.ref 178)) := by kernel_rfl
theorem g_without_delays {P : Params} : nsIn (KF P) mainGlobals "without_delays" = some (some (.ref 185)) := by kernel_rfl
theorem g_delay_total {P : Params} : nsIn (KF P) mainGlobals "delay_total" = some (some (.ref 193)) := by kernel_rfl
theorem g_Info {P : Params} : nsIn (KF P) mainGlobals "Info" = some (some (.ref 212)) := by kernel_rfl
theorem g_differences {P : Params} : nsIn (KF P) mainGlobals "differences" = some (some (.ref 221)) := by kernel_rfl
theorem g_law_pieces {P : Params} : nsIn (KF P) mainGlobals "_law_pieces" = some (some (.ref 222)) := by kernel_rfl
theorem g_law_good {P : Params} : nsIn (KF P) mainGlobals "_law_good" = some (some (.ref 247)) := by kernel_rfl
theorem g_law_ill {P : Params} : nsIn (KF P) mainGlobals "_law_ill" = some (some (.ref 264)) := by kernel_rfl
theorem g_law_names {P : Params} : nsIn (KF P) mainGlobals "_law_names" = some (some (.ref 265)) := by kernel_rfl
theorem g_law_draw {P : Params} : nsIn (KF P) mainGlobals "_law_draw" = some (some (.ref 272)) := by kernel_rfl
theorem g_law_pick {P : Params} : nsIn (KF P) mainGlobals "_law_pick" = some (some (.ref 279)) := by kernel_rfl
theorem g_law_figures {P : Params} : nsIn (KF P) mainGlobals "_law_figures" = some (some (.ref 284)) := by kernel_rfl
theorem g_law_delay {P : Params} : nsIn (KF P) mainGlobals "_law_delay" = some (some (.ref 291)) := by kernel_rfl
theorem g_law_delays_right {P : Params} : nsIn (KF P) mainGlobals "_law_delays_right" = some (some (.ref 296)) := by kernel_rfl
theorem g_law_made {P : Params} : nsIn (KF P) mainGlobals "_law_made" = some (some (.ref 303)) := by kernel_rfl
theorem g_law_told {P : Params} : nsIn (KF P) mainGlobals "_law_told" = some (some (.ref 310)) := by kernel_rfl
theorem g_law_most_right {P : Params} : nsIn (KF P) mainGlobals "_law_most_right" = some (some (.ref 317)) := by kernel_rfl
theorem g_law_info {P : Params} : nsIn (KF P) mainGlobals "_law_info" = some (some (.ref 324)) := by kernel_rfl
theorem g_law_is_like {P : Params} : nsIn (KF P) mainGlobals "_law_is_like" = some (some (.ref 331)) := by kernel_rfl
theorem g_law_infos_right {P : Params} : nsIn (KF P) mainGlobals "_law_infos_right" = some (some (.ref 336)) := by kernel_rfl
theorem gb_len {P : Params} : nsIn (KF P) mainGlobals "len" = some none := by kernel_rfl
theorem bb_len : bootBuiltins "len" = some (.builtin "len") := by boot_fast
theorem gb_max {P : Params} : nsIn (KF P) mainGlobals "max" = some none := by kernel_rfl
theorem bb_max : bootBuiltins "max" = some (.builtin "max") := by boot_fast
theorem gb_sum {P : Params} : nsIn (KF P) mainGlobals "sum" = some none := by kernel_rfl
theorem bb_sum : bootBuiltins "sum" = some (.builtin "sum") := by boot_fast
theorem gb_sorted {P : Params} : nsIn (KF P) mainGlobals "sorted" = some none := by kernel_rfl
theorem bb_sorted : bootBuiltins "sorted" = some (.builtin "sorted") := by boot_fast
theorem gb_list {P : Params} : nsIn (KF P) mainGlobals "list" = some none := by kernel_rfl
theorem bb_list : bootBuiltins "list" = some (.type "list") := by boot_fast
theorem gb_dict {P : Params} : nsIn (KF P) mainGlobals "dict" = some none := by kernel_rfl
theorem bb_dict : bootBuiltins "dict" = some (.type "dict") := by boot_fast
theorem gb_isinstance {P : Params} : nsIn (KF P) mainGlobals "isinstance" = some none := by kernel_rfl
theorem bb_isinstance : bootBuiltins "isinstance" = some (.builtin "isinstance") := by boot_fast
theorem gb_bool {P : Params} : nsIn (KF P) mainGlobals "bool" = some none := by kernel_rfl
theorem bb_bool : bootBuiltins "bool" = some (.type "bool") := by boot_fast
theorem gb_bytes {P : Params} : nsIn (KF P) mainGlobals "bytes" = some none := by kernel_rfl
theorem bb_bytes : bootBuiltins "bytes" = some (.type "bytes") := by boot_fast
theorem gb_bytearray {P : Params} : nsIn (KF P) mainGlobals "bytearray" = some none := by kernel_rfl
theorem bb_bytearray : bootBuiltins "bytearray" = some (.type "bytearray") := by kernel_rfl
theorem gb_range {P : Params} : nsIn (KF P) mainGlobals "range" = some none := by kernel_rfl
theorem bb_range : bootBuiltins "range" = some (.type "range") := by boot_fast
theorem gb_zip {P : Params} : nsIn (KF P) mainGlobals "zip" = some none := by kernel_rfl
theorem bb_zip : bootBuiltins "zip" = some (.type "zip") := by boot_fast

theorem kf54 (P : Params) : (KF P).lookup 54 = some { cls := .type "function", data := .func fd54 } := by kernel_rfl
theorem kc54 (P : Params) : codeIn (KF P) fd54.code fd54.qualname = true := by kernel_rfl
theorem kf61 (P : Params) : (KF P).lookup 61 = some { cls := .type "function", data := .func fd61 } := by kernel_rfl
theorem kc61 (P : Params) : codeIn (KF P) fd61.code fd61.qualname = true := by kernel_rfl
theorem kf75 (P : Params) : (KF P).lookup 75 = some { cls := .type "function", data := .func fd75 } := by kernel_rfl
theorem kc75 (P : Params) : codeIn (KF P) fd75.code fd75.qualname = true := by kernel_rfl
theorem kf82 (P : Params) : (KF P).lookup 82 = some { cls := .type "function", data := .func fd82 } := by kernel_rfl
theorem kc82 (P : Params) : codeIn (KF P) fd82.code fd82.qualname = true := by kernel_rfl
theorem kf89 (P : Params) : (KF P).lookup 89 = some { cls := .type "function", data := .func fd89 } := by kernel_rfl
theorem kc89 (P : Params) : codeIn (KF P) fd89.code fd89.qualname = true := by kernel_rfl
theorem kf96 (P : Params) : (KF P).lookup 96 = some { cls := .type "function", data := .func fd96 } := by kernel_rfl
theorem kc96 (P : Params) : codeIn (KF P) fd96.code fd96.qualname = true := by kernel_rfl
theorem kf103 (P : Params) : (KF P).lookup 103 = some { cls := .type "function", data := .func fd103 } := by kernel_rfl
theorem kc103 (P : Params) : codeIn (KF P) fd103.code fd103.qualname = true := by kernel_rfl
theorem kf110 (P : Params) : (KF P).lookup 110 = some { cls := .type "function", data := .func fd110 } := by kernel_rfl
theorem kc110 (P : Params) : codeIn (KF P) fd110.code fd110.qualname = true := by kernel_rfl
theorem kf117 (P : Params) : (KF P).lookup 117 = some { cls := .type "function", data := .func fd117 } := by kernel_rfl
theorem kc117 (P : Params) : codeIn (KF P) fd117.code fd117.qualname = true := by kernel_rfl
theorem kf124 (P : Params) : (KF P).lookup 124 = some { cls := .type "function", data := .func fd124 } := by kernel_rfl
theorem kc124 (P : Params) : codeIn (KF P) fd124.code fd124.qualname = true := by kernel_rfl
theorem kf131 (P : Params) : (KF P).lookup 131 = some { cls := .type "function", data := .func fd131 } := by kernel_rfl
theorem kc131 (P : Params) : codeIn (KF P) fd131.code fd131.qualname = true := by kernel_rfl
theorem kf138 (P : Params) : (KF P).lookup 138 = some { cls := .type "function", data := .func fd138 } := by kernel_rfl
theorem kc138 (P : Params) : codeIn (KF P) fd138.code fd138.qualname = true := by kernel_rfl
theorem kf152 (P : Params) : (KF P).lookup 152 = some { cls := .type "function", data := .func fd152 } := by kernel_rfl
theorem kc152 (P : Params) : codeIn (KF P) fd152.code fd152.qualname = true := by kernel_rfl
theorem kf157 (P : Params) : (KF P).lookup 157 = some { cls := .type "function", data := .func fd157 } := by kernel_rfl
theorem kc157 (P : Params) : codeIn (KF P) fd157.code fd157.qualname = true := by kernel_rfl
theorem kf164 (P : Params) : (KF P).lookup 164 = some { cls := .type "function", data := .func fd164 } := by kernel_rfl
theorem kc164 (P : Params) : codeIn (KF P) fd164.code fd164.qualname = true := by kernel_rfl
theorem kf171 (P : Params) : (KF P).lookup 171 = some { cls := .type "function", data := .func fd171 } := by kernel_rfl
theorem kc171 (P : Params) : codeIn (KF P) fd171.code fd171.qualname = true := by kernel_rfl
theorem kf178 (P : Params) : (KF P).lookup 178 = some { cls := .type "function", data := .func fd178 } := by kernel_rfl
theorem kc178 (P : Params) : codeIn (KF P) fd178.code fd178.qualname = true := by kernel_rfl
theorem kf185 (P : Params) : (KF P).lookup 185 = some { cls := .type "function", data := .func fd185 } := by kernel_rfl
theorem kc185 (P : Params) : codeIn (KF P) fd185.code fd185.qualname = true := by kernel_rfl
theorem kf193 (P : Params) : (KF P).lookup 193 = some { cls := .type "function", data := .func fd193 } := by kernel_rfl
theorem kc193 (P : Params) : codeIn (KF P) fd193.code fd193.qualname = true := by kernel_rfl
theorem kf209 (P : Params) : (KF P).lookup 209 = some { cls := .type "function", data := .func fd209 } := by kernel_rfl
theorem kc209 (P : Params) : codeIn (KF P) fd209.code fd209.qualname = true := by kernel_rfl
theorem kf221 (P : Params) : (KF P).lookup 221 = some { cls := .type "function", data := .func fd221 } := by kernel_rfl
theorem kc221 (P : Params) : codeIn (KF P) fd221.code fd221.qualname = true := by kernel_rfl
theorem kf272 (P : Params) : (KF P).lookup 272 = some { cls := .type "function", data := .func fd272 } := by kernel_rfl
theorem kc272 (P : Params) : codeIn (KF P) fd272.code fd272.qualname = true := by kernel_rfl
theorem kf279 (P : Params) : (KF P).lookup 279 = some { cls := .type "function", data := .func fd279 } := by kernel_rfl
theorem kc279 (P : Params) : codeIn (KF P) fd279.code fd279.qualname = true := by kernel_rfl
theorem kf284 (P : Params) : (KF P).lookup 284 = some { cls := .type "function", data := .func fd284 } := by kernel_rfl
theorem kc284 (P : Params) : codeIn (KF P) fd284.code fd284.qualname = true := by kernel_rfl
theorem kf291 (P : Params) : (KF P).lookup 291 = some { cls := .type "function", data := .func fd291 } := by kernel_rfl
theorem kc291 (P : Params) : codeIn (KF P) fd291.code fd291.qualname = true := by kernel_rfl
theorem kf296 (P : Params) : (KF P).lookup 296 = some { cls := .type "function", data := .func fd296 } := by kernel_rfl
theorem kc296 (P : Params) : codeIn (KF P) fd296.code fd296.qualname = true := by kernel_rfl
theorem kf303 (P : Params) : (KF P).lookup 303 = some { cls := .type "function", data := .func fd303 } := by kernel_rfl
theorem kc303 (P : Params) : codeIn (KF P) fd303.code fd303.qualname = true := by kernel_rfl
theorem kf310 (P : Params) : (KF P).lookup 310 = some { cls := .type "function", data := .func fd310 } := by kernel_rfl
theorem kc310 (P : Params) : codeIn (KF P) fd310.code fd310.qualname = true := by kernel_rfl
theorem kf317 (P : Params) : (KF P).lookup 317 = some { cls := .type "function", data := .func fd317 } := by kernel_rfl
theorem kc317 (P : Params) : codeIn (KF P) fd317.code fd317.qualname = true := by kernel_rfl
theorem kf324 (P : Params) : (KF P).lookup 324 = some { cls := .type "function", data := .func fd324 } := by kernel_rfl
theorem kc324 (P : Params) : codeIn (KF P) fd324.code fd324.qualname = true := by kernel_rfl
theorem kf331 (P : Params) : (KF P).lookup 331 = some { cls := .type "function", data := .func fd331 } := by kernel_rfl
theorem kc331 (P : Params) : codeIn (KF P) fd331.code fd331.qualname = true := by kernel_rfl
theorem kf336 (P : Params) : (KF P).lookup 336 = some { cls := .type "function", data := .func fd336 } := by kernel_rfl
theorem kc336 (P : Params) : codeIn (KF P) fd336.code fd336.qualname = true := by kernel_rfl
theorem kf341 (P : Params) : (KF P).lookup 341 = some { cls := .type "function", data := .func fd341 } := by kernel_rfl
theorem kc341 (P : Params) : codeIn (KF P) fd341.code fd341.qualname = true := by kernel_rfl
theorem kf29 (P : Params) : (KF P).lookup 29 = some { cls := .type "function", data := .func fd29 } := by kernel_rfl
theorem kc29 (P : Params) : codeIn (KF P) fd29.code fd29.qualname = true := by kernel_rfl
section
variable {w : World} {A : Around} {E : Value → Heap → Prop} {h : Heap} {env : Env}
theorem e_Call {x : Str} {np pos : Pos} {args : List Expr} {Q : Value → Heap → Prop}
    (k : Wp (MM w) A (eval (.Name x np) env) (KCall1 w A E env pos args Q) E h) :
    Wp (MM w) A (eval (.Call (.Name x np) args [] pos) env) Q E h := by
  show Wp _ _ (do callWith pos (← eval (.Name x np) env) [] (backTo pos (starEach args env)) (backToKw pos (keywordEach [] env))) _ _ _
  exact Wp_bind k
theorem e_CallG {hw h₀ : Heap} {L a : Addr} {m : List (Str × Value)} {l : List (Addr × Obj)} {fd : FuncData} {x : Str} {np pos : Pos} {args : List Expr} {v : Value} {Q : Value → Heap → Prop} (S : St w hw h₀ L h m l)
    (hg : nsIn (KF w.params) mainGlobals x = some (some v)) (q : Wp (MM w) A (spliced (backTo pos (starEach args (callEnv fd L a)))) (KArgs w A E v [] Q) E h) (hk : isGlo fd x = true := by with_unfolding_all rfl)
    (hl : (backTo pos (starEach args (callEnv fd L a))).any (·.1) = false := by with_unfolding_all rfl) : Wp (MM w) A (eval (.Call (.Name x np) args [] pos) (callEnv fd L a)) Q E h :=
  e_Call (n_global S hg (e_callWith q hl) hk)
theorem sp_loc {hw h₀ : Heap} {L a : Addr} {m : List (Str × Value)} {l : List (Addr × Obj)} {fd : FuncData} {x : Str} {np pos : Pos} {es : List Expr} {v : Value} {Q : List Value → Heap → Prop} (S : St w hw h₀ L h m l)
    (hv : lk m x = some v) (q : Wp (MM w) A (spliced (backTo pos (starEach es (callEnv fd L a)))) (KSp2 Q v) E h) (hk : isLoc fd x = true := by with_unfolding_all rfl) :
    Wp (MM w) A (spliced (backTo pos (starEach (.Name x np :: es) (callEnv fd L a)))) Q E h :=
  sp_cons (n_local S hv q hk)
theorem e_Meth {o : Expr} {name : Str} {apos pos : Pos} {args : List Expr} {pl : Sem Bool} {Q : Value → Heap → Prop}
    (k : Wp (MM w) A (eval o env) (KMeth1 w A E env name pl pos args Q) E h)
    (he : eval (.Call (.Attribute o name apos) args [] pos) env = (do
      let ov ← eval o env
      standAt apos.atName
      let (f, first) ← holding [ov] (getMethod ov name pl)
      callWith pos f first (backTo pos (starEach args env)) (backToKw pos (keywordEach [] env))) := by with_unfolding_all rfl) :
    Wp (MM w) A (eval (.Call (.Attribute o name apos) args [] pos) env) Q E h := by
  rw [he]
  exact Wp_bind (Wp_post k fun ov h₁ q₁ => Wp_bind (Wp_standAt (Wp_bind (Wp_holding (Wp_post q₁ fun fx h₂ q₂ => q₂)))))
theorem keeps_fn {w : World} {hw h₀ : Heap} {L : Addr} {m : List (Str × Value)} {l : List (Addr × Obj)} {a : Addr} {fd : FuncData} (S : St w hw h₀ L h m l)
    (e : (KF w.params).lookup a = some { cls := .type "function", data := .func fd }) : Keeps (.ref a) h := .inl ⟨_, fd, S.wd.K _ _ e, rfl⟩
noncomputable def keepCls (K : Frag) (a : Addr) : Bool := (clsIn K a).isSome && specialIn K (.ref a) "__call__" == some (some (.builtin "type.__call__"))
theorem keeps_cls {w : World} {hw h₀ : Heap} {L : Addr} {m : List (Str × Value)} {l : List (Addr × Obj)} {a : Addr} (S : St w hw h₀ L h m l) (e : keepCls (KF w.params) a = true) : Keeps (.ref a) h := by
  unfold keepCls at e
  rw [Bool.and_eq_true] at e
  obtain ⟨cd, hc⟩ := Option.isSome_iff_exists.mp e.1
  exact .inr ⟨_, cd, S.wd.K, hc, beq_iff_eq.mp e.2⟩
theorem kk45 (P : Params) : keepCls (KF P) 45 = true := by kernel_rfl
theorem kk141 (P : Params) : keepCls (KF P) 141 = true := by kernel_rfl
theorem kk212 (P : Params) : keepCls (KF P) 212 = true := by kernel_rfl
end
section
variable {w : World} {A : Around} {hw h : Heap}
theorem St.stay {h₀ : Heap} {L : Addr} {m : List (Str × Value)} {l : List (Addr × Obj)} (S : St w hw h₀ L h m l) : h₀.StaysIn h := S.F.keep
/- a def that raises nothing and turns nothing -/
theorem enter0 {f : Addr} {fd : FuncData} {args : List Value} {binds : List (Str × Value)} {body : List Stmt} {Q : Value → Heap → Prop} {E : Value → Heap → Prop} (D : Wo w hw h) (room : A.depth < recursionLimit)
    (hK : (KF w.params).lookup f = some { cls := .type "function", data := .func fd }) (hcd : codeIn (KF w.params) fd.code fd.qualname = true)
    (hbind : ∀ s : Shared, s.heap = h → BindsTo s fd ⟨args, []⟩ binds) (hbody : fd.body = .stmts body) (m₀ : List (Str × Value)) (hm : binds.reverse = m₀)
    (k : ∀ h₁, St w hw h h.objs.size h₁ m₀ [] → Wp (MM w) (A.deeper (callEnv fd h.objs.size f)) (execs body (callEnv fd h.objs.size f)) (fun fl h' => Q (flv fl) h') (fun _ _ => False) h₁)
    (hloc : ∀ x ∈ binds, fd.scope.names.lookup x.1 = some .local) (hcell : ∀ x ∈ fd.scope.names, x.2 ≠ .cell)
    (hco : fd.scope.isCoroutine = false) (hgen : fd.scope.isGenerator = false) (hk : fd.scope.kind = .function) : Wp (MM w) A (call (.ref f) args []) Q E h :=
  enter_ret D [] (fun _ h => nomatch h) .nil hK hcd room hbind hbody (fun h₁ S => k h₁ (hm ▸ S)) hloc hcell hco hgen hk
end

end
section
open PySem PySem.W PyProof.Rows PySem.Calls PySem.Spec
set_option Elab.async false
set_option linter.unusedVariables false
set_option maxRecDepth 100000

section
variable {w : World} {A : Around} {E : Value → Heap → Prop} {h : Heap} {env : Env} {rest : List Stmt}

/- what a turn of a loop hands on -/
noncomputable def Turn (w : World) (A : Around) (rest : List Stmt) (env : Env) (Q : Flow → Heap → Prop) (E : Value → Heap → Prop) (J : Heap → Prop) : Flow → Heap → Prop
  | .next, h => J h
  | .cont, h => J h
  | .brk, h => Wp (MM w) A (execs rest env) Q E h
  | .ret v, h => Q (.ret v) h

noncomputable abbrev NoE : Value → Heap → Prop := fun _ _ => False
section
variable (w : World) (A : Around) (E : Value → Heap → Prop) (env : Env)
noncomputable abbrev KLoop (E' : Value → Heap → Prop) (body orelse rest : List Stmt) (Q : Flow → Heap → Prop) (J : Heap → Prop) : Bool → Heap → Prop := fun b h₁ =>
  (b = true → Wp (MM w) A (execs body env) (Turn w A rest env Q E J) E' h₁) ∧ (b = false → Wp (MM w) A (execs orelse env) (Seq w A rest env Q E) E' h₁)
noncomputable abbrev KBody {α : Type} (body rest : List Stmt) (Q : Flow → Heap → Prop) (J : Heap → Prop) : α → Heap → Prop := fun _ h₂ => Wp (MM w) A (execs body env) (Turn w A rest env Q E J) NoE h₂
noncomputable abbrev KGo (target : Expr) (v : Value) (body rest : List Stmt) (Q : Flow → Heap → Prop) (J : Heap → Prop) : Unit → Heap → Prop := fun _ h₁ => Wp (MM w) A (assign target env v) (KBody w A E env body rest Q J) NoE h₁
end
/- what becomes of an exception that a loop's turn raises -/
noncomputable def LoopE (w : World) (A : Around) (env : Env) (E : Value → Heap → Prop) : Value → Heap → Prop := fun e h =>
  Wp (MM w) A (do noteFrame e env; theTreesLotGoes e) (fun _ h₁ => Wp (MM w) A (do
    if (← field e 1) == .none then unsupported "frame.own-activation:exception-without-traceback"
    setFlight e env.frame : Sem Unit) (fun _ h₂ => E e h₂) E h₁) (fun e' h₁ => Wp (MM w) A (do
    if (← field e' 1) == .none then unsupported "frame.own-activation:exception-without-traceback"
    setFlight e' env.frame : Sem Unit) (fun _ h₂ => E e' h₂) E h₁) h
theorem st_While' {test : Expr} {body orelse : List Stmt} {pos : Pos} {Q : Flow → Heap → Prop} {σ : Type} (I : σ → Heap → Prop) (μ : σ → Nat) (x₀ : σ) (h0 : I x₀ h)
    (step : ∀ x (J : Heap → Prop), (∀ x' h', μ x' < μ x → I x' h' → J h') → ∀ h, I x h → Wp (MM w) A (isTrue test env (eval test env)) (KLoop w A E env (LoopE w A env E) body orelse rest Q J) (LoopE w A env E) h) :
    Wp (MM w) A (execs (.While test body orelse pos :: rest) env) Q E h := execs_cons (by
  rw [arm_exec_While]
  refine Wp_bind (Wp_standAt ?_)
  unfold runOwn
  refine Wp_onRaise (Wp_run ?_)
  refine Wc_loop rfl rfl I μ (fun x h₁ hI => ?_) x₀ h0
  show Wp _ A ((whileTurn test body orelse env).onRaise (fun x => do noteFrame x env; theTreesLotGoes x)) _ _ _
  refine Wp_onRaise ?_
  simp only [whileTurn]
  refine Wp_bind (Wp_mono (step x (fun h' => ∃ x', μ x' < μ x ∧ I x' h') (fun x' _ a b => ⟨x', a, b⟩) h₁ hI) (fun b h₂ q => ?_) fun _ _ q => q)
  cases b with
  | true =>
    rw [if_pos rfl]
    refine Wp_bind (Wp_mono (q.1 rfl) (fun f h₃ q₃ => ?_) fun _ _ q => q)
    cases f with
    | next => exact Wp_pure (.inl ⟨rfl, q₃⟩)
    | cont => exact Wp_pure (.inl ⟨rfl, q₃⟩)
    | brk => exact Wp_pure q₃
    | ret v => exact Wp_pure q₃
  | false =>
    rw [if_neg Bool.false_ne_true]
    exact Wp_bind (Wp_mono (q.2 rfl) (fun f h₃ q₃ => Wp_pure q₃) fun _ _ q => q))
theorem st_While {test : Expr} {body orelse : List Stmt} {pos : Pos} {Q : Flow → Heap → Prop} {σ : Type} (I : σ → Heap → Prop) (μ : σ → Nat) (x₀ : σ) (h0 : I x₀ h)
    (step : ∀ x (J : Heap → Prop), (∀ x' h', μ x' < μ x → I x' h' → J h') → ∀ h, I x h → Wp (MM w) A (isTrue test env (eval test env)) (KLoop w A E env NoE body orelse rest Q J) NoE h) :
    Wp (MM w) A (execs (.While test body orelse pos :: rest) env) Q E h :=
  st_While' I μ x₀ h0 fun x J hJ h hI => Wp_mono (step x J hJ h hI) (fun b h₁ q => ⟨fun hb => Wp_noRaise (q.1 hb), fun hb => Wp_noRaise (q.2 hb)⟩) fun _ _ e => e.elim

/- the turns of a for over an iterator at hand -/
noncomputable def Loop (w : World) (A : Around) (env : Env) (target : Expr) (it : Value) (body orelse rest : List Stmt) (Q : Flow → Heap → Prop) (E : Value → Heap → Prop) (h : Heap) : Prop :=
  Wc (MM w) A (.forLoop target it body orelse env) (fun r h' => match r with | .ok f => Seq w A rest env Q E f h' | .error _ => False) h
section
variable (w : World) (A : Around) (E : Value → Heap → Prop) (env : Env)
noncomputable abbrev KFor2 (target : Expr) (body orelse rest : List Stmt) (Q : Flow → Heap → Prop) : Value → Heap → Prop := fun it h₂ => Loop w A env target it body orelse rest Q E h₂
noncomputable abbrev KFor1 (target : Expr) (body orelse rest : List Stmt) (Q : Flow → Heap → Prop) : Value → Heap → Prop := fun x h₁ => Wp (MM w) A (pyIter x) (KFor2 w A E env target body orelse rest Q) E h₁
end
theorem st_For {target iter : Expr} {body orelse : List Stmt} {pos : Pos} {Q : Flow → Heap → Prop}
    (x : Wp (MM w) A (eval iter env) (KFor1 w A E env target body orelse rest Q) E h)
    (hf : ∀ x, foldedSetIterable iter env x = pure x := by intro _; with_unfolding_all rfl) : Wp (MM w) A (execs (.For target iter body orelse pos :: rest) env) Q E h := execs_cons (by
  rw [arm_exec_For]
  refine Wp_bind (Wp_standAt (Wp_bind (Wp_post x fun v h₁ q => ?_)))
  rw [hf]
  refine Wp_bind (Wp_pure (Wp_bind (Wp_standAt (Wp_bind (Wp_holding (Wp_post q fun it h₂ q₂ => ?_))))))
  unfold runOwn
  refine Wp_onRaise (Wp_run (Wc_mono q₂ fun r h₃ q₃ => ?_))
  cases r with
  | ok f => exact q₃
  | error e => exact q₃.elim)
theorem loop_for {target : Expr} {it : Value} {body : List Stmt} {Q : Flow → Heap → Prop} {σ : Type} (I : σ → Heap → Prop) (μ : σ → Nat) (x₀ : σ) (h0 : I x₀ h)
    (turn : ∀ x h, I x h → Wp (MM w) A (pyNext it) (fun r h₁ => match r with
      | none => Seq w A rest env Q E .next h₁
      | some v => Wp (MM w) A (letOwnedTupleGo target it v) (fun _ h₁' => Wp (MM w) A (assign target env v) (fun _ h₂ => Wp (MM w) A (execs body env) (Turn w A rest env Q E fun h' => ∃ x', μ x' < μ x ∧ I x' h') NoE h₂) NoE h₁') NoE h₁) NoE h) :
    Loop w A env target it body [] rest Q E h := by
  refine Wc_loop rfl rfl I μ (fun x h₁ hI => ?_) x₀ h0
  show Wp _ A ((forTurn target it body [] env).onRaise (fun x => do noteFrame x env; theTreesLotGoes x)) _ _ _
  refine Wp_onRaise (Wp_noRaise ?_)
  simp only [forTurn]
  refine Wp_bind (Wp_standAt (Wp_bind (Wp_onRaise (Wp_mono (turn x h₁ hI) (fun r h₂ q => ?_) fun _ _ e => e.elim))))
  cases r with
  | none =>
    refine Wp_pure (.inr ⟨rfl, Wc_of_tree rfl ?_⟩)
    show Wp _ A (do return Fin.done (← (execs [] env).onRaise (fun x => do noteFrame x env; theTreesLotGoes x))) _ _ _
    exact Wp_bind (Wp_onRaise (execs_nil (Wp_pure q)))
  | some v =>
    refine Wp_bind (Wp_post q fun _ h₃ q₃ => Wp_bind (Wp_post q₃ fun _ h₄ q₄ => Wp_bind (Wp_post q₄ fun f h₅ q₅ => ?_)))
    cases f with
    | next => exact Wp_pure (.inl ⟨rfl, q₅⟩)
    | cont => exact Wp_pure (.inl ⟨rfl, q₅⟩)
    | brk => exact Wp_pure q₅
    | ret v => exact Wp_pure q₅
theorem go_name {x : Str} {p : Pos} {it v : Value} {Q : Unit → Heap → Prop} (q : Q () h) : Wp (MM w) A (letOwnedTupleGo (.Name x p) it v) Q E h := Wp_pure q
theorem as_name {x : Str} {p : Pos} {v : Value} {Q : Unit → Heap → Prop} (q : Wp (MM w) A (storeName env x v) Q E h) : Wp (MM w) A (assign (.Name x p) env v) Q E h := by
  rw [arm_assign_Name]
  exact Wp_bind (Wp_standAt (Wp_bindName q))
end

/- objects by what they are -/
noncomputable def OLst (o : Obj) (items : List Value) : Prop := ∃ n, o = listOf items.toArray n
noncomputable def OTup (o : Obj) (items : List Value) : Prop := ∃ n, o = { cls := .type "tuple", data := .seq items.toArray n }
noncomputable def OLit (o : Obj) (l : Addr) (k : Nat) : Prop := o.cls = .type "list_iterator" ∧ o.data = .fields #[.ref l, .int k 0]
noncomputable def ORit (o : Obj) (x left step : Int) : Prop := o.cls = .type "range_iterator" ∧ o.data = .fields #[rawInt x, rawInt left, rawInt step]
theorem OLst.at {o : Obj} {items : List Value} {h : Heap} {a : Addr} (x : OLst o items) (e : h.get? a = some o) : h.IsList a items.toArray := let ⟨n, x⟩ := x; ⟨o, e, by rw [x], n, by rw [x]⟩
theorem OTup.at {o : Obj} {items : List Value} {h : Heap} {a : Addr} (x : OTup o items) (e : h.get? a = some o) : h.IsTuple a items.toArray := let ⟨n, x⟩ := x; ⟨o, e, by rw [x], n, by rw [x]⟩

section
variable {w : World} {A : Around} {E : Value → Heap → Prop} {hw h₀ h : Heap} {L : Addr} {m : List (Str × Value)} {l : List (Addr × Obj)} {Q : Value → Heap → Prop}

theorem s_tuple {vs : List Value} (S : St w hw h₀ L h m l) (hz : vs.length ≤ 16777216) (q : ∀ a o h', OTup o vs → St w hw h₀ L h' m ((a, o) :: l) → Q (.ref a) h') : Wp (MM w) A (newTuple vs) Q E h := Wp_of fun g d tk o =>
  wpAny_newObj_type ⟨⟨rfl, rfl, rfl⟩, q _ _ _ ⟨0, rfl⟩ (S.push { cls := .type "tuple", data := .seq vs.toArray })⟩ (by show vs.toArray.size ≤ sizeLine; rw [List.size_toArray, sizeLine_eq]; exact hz)
theorem s_list {vs : List Value} (S : St w hw h₀ L h m l) (hz : vs.length ≤ 16777216) (q : ∀ a o h', OLst o vs → St w hw h₀ L h' m ((a, o) :: l) → Q (.ref a) h') : Wp (MM w) A (newList vs) Q E h := Wp_of fun g d tk o =>
  wpAny_newObj_type ⟨⟨rfl, rfl, rfl⟩, q _ _ _ ⟨0, rfl⟩ (S.push { cls := .type "list", data := .seq vs.toArray })⟩ (by show vs.toArray.size ≤ sizeLine; rw [List.size_toArray, sizeLine_eq]; exact hz)
theorem s_append {a : Addr} {o : Obj} {items : List Value} {v : Value} (S : St w hw h₀ L h m l) (ho : OLst o items) (hm : (a, o) ∈ l) (hz : items.length ≤ 16777216)
    (q : ∀ o' h', OLst o' (items ++ [v]) → (∀ l', Up a o o' l l' → St w hw h₀ L h' m l') → Q .none h') : Wp (MM w) A (call (.builtin "list.append") [.ref a, v] []) Q E h := Wp_of fun g d tk os =>
  let ⟨n, hn⟩ := ho
  append_at (its := items.toArray) (n := n) ((S.get hm).trans (congrArg some hn)) (fun h' hs hl => by
    rw [List.push_toArray] at hl
    exact ⟨⟨rfl, rfl, rfl⟩, q _ h' ⟨n + 1, rfl⟩ fun l' u => S.upd u hs.extBut hl⟩) (by rw [List.size_toArray, sizeLine_eq]; exact hz)
theorem s_mappend {a : Addr} {o : Obj} {items : List Value} {pl : Sem Bool} {Q : Value × List Value → Heap → Prop} (ho : OLst o items) (e : h.get? a = some o) (q : Q (.builtin "list.append", [.ref a]) h) : Wp (MM w) A (getMethod (.ref a) "append" pl) Q E h := Wp_of fun g d tk os =>
  let ⟨n, hn⟩ := ho
  Calls.getMethod_list_append e (by rw [hn]) (by rw [hn]) ⟨⟨rfl, rfl, rfl⟩, q⟩
theorem s_setItem {a : Addr} {o : Obj} {items : List Value} {v : Value} {k : Nat} {t : Tok} {Q : Unit → Heap → Prop} (S : St w hw h₀ L h m l) (ho : OLst o items) (hm : (a, o) ∈ l) (hk : k < items.length) (hz : items.length ≤ 16777216)
    (q : ∀ o' h', OLst o' (items.set k v) → (∀ l', Up a o o' l l' → St w hw h₀ L h' m l') → Q () h') : Wp (MM w) A (setItem (.ref a) (.int k t) v) Q E h := Wp_of fun g d tk os =>
  let ⟨n, hn⟩ := ho
  ki_setAt (items := items.toArray) (n := n) ((S.get hm).trans (congrArg some hn)) (by lia) (by lia) (by rw [List.size_toArray]; lia) (by
    have hl := Heap.get?_update_self (Obj.mapSeq (·.setIfInBounds (Int.toNat (k : Int)) v)) ((S.get hm).trans (congrArg some hn) : h.get? a = some (listOf items.toArray n)) rfl
    refine ⟨⟨rfl, rfl, rfl⟩, q _ _ ⟨n, rfl⟩ fun l' u => S.upd u (Heap.SameBut.update ..).extBut (hl.trans ?_)⟩
    simp [Obj.mapSeq])
theorem s_item {value slice : Expr} {a : Addr} {o : Obj} {items : List Value} {v : Value} {k : Nat} {t : Tok} (ho : OLst o items) (e : h.get? a = some o) (hv : items[k]? = some v) (hz : items.length ≤ 16777216) (q : Q v h)
    (hs : subscripted slice false (.ref a) (.int k t) = operate [.ref a, .int k t] (getItem (.ref a) (.int k t)) := by with_unfolding_all rfl) :
    Wp (MM w) A (subscriptTail value slice (.ref a) (.int k t)) Q E h := Wp_of fun g d tk os =>
  have hk : k < items.length := (List.getElem?_eq_some_iff.mp hv).1
  have hl : Heap.IsList h a items.toArray := ho.at e
  tail_any hl.typeIs slot_list_getitem.lookup (wpAny_getItem_list hl (by lia) (by lia) (by simpa using hv) ⟨⟨rfl, rfl, rfl⟩, q⟩) hs
theorem seqIx {n k : Nat} (h : k < n) : seqIndex? (k : Int) n = some k := by
  have e : (if (k : Int) < 0 then (k : Int) + n else k) = k := if_neg (Int.not_lt.mpr (Int.natCast_nonneg k))
  show (if (decide (0 ≤ if (k : Int) < 0 then (k : Int) + n else (k : Int)) && decide ((if (k : Int) < 0 then (k : Int) + n else (k : Int)) < n)) = true then some (if (k : Int) < 0 then (k : Int) + n else (k : Int)).toNat else none) = some k
  rw [e, decide_eq_true (Int.natCast_nonneg k), decide_eq_true (Int.ofNat_lt.mpr h)]
  rfl
theorem s_titem {value slice : Expr} {a : Addr} {o : Obj} {items : List Value} {v : Value} {k : Nat} {t : Tok} (ho : OTup o items) (e : h.get? a = some o) (hv : items[k]? = some v) (hz : items.length ≤ 16777216) (q : Q v h)
    (hs : subscripted slice false (.ref a) (.int k t) = operate [.ref a, .int k t] (getItem (.ref a) (.int k t)) := by with_unfolding_all rfl) :
    Wp (MM w) A (subscriptTail value slice (.ref a) (.int k t)) Q E h := Wp_of fun g d tk os =>
  have hk : k < items.length := (List.getElem?_eq_some_iff.mp hv).1
  item_tupleT (ho.at e) (by lia) (by lia) (j := k) (seqIx hk) (by simpa using hv) ⟨⟨rfl, rfl, rfl⟩, q⟩ hs
theorem s_len {a : Addr} {o : Obj} {items : List Value} (ho : OLst o items) (e : h.get? a = some o) (hz : items.length ≤ 16777216) (q : ∀ t, Q (.int items.length t) h) : Wp (MM w) A (call (.builtin "len") [.ref a] []) Q E h := Wp_of fun g d tk os =>
  call_len_list (ho.at e) (by rw [List.size_toArray]; lia) (by rw [List.size_toArray]; exact ⟨⟨rfl, rfl, rfl⟩, q _⟩)
theorem s_tlen {a : Addr} {o : Obj} {items : List Value} (ho : OTup o items) (e : h.get? a = some o) (hz : items.length ≤ 16777216) (q : ∀ t, Q (.int items.length t) h) : Wp (MM w) A (call (.builtin "len") [.ref a] []) Q E h := Wp_of fun g d tk os =>
  len_tuple (ho.at e) (by rw [List.size_toArray]; lia) (by rw [List.size_toArray]; exact ⟨⟨rfl, rfl, rfl⟩, q _⟩)
end

end
section
open PySem PySem.W PyProof.Rows PySem.Calls PySem.Spec
set_option Elab.async false
set_option linter.unusedVariables false
set_option maxRecDepth 100000

noncomputable abbrev Led := List (Addr × Obj)
noncomputable def adr (l : Led) : List Addr := l.map (·.1)

/- a call's word: what it owned is turned, what it hands out stands, all else stands as it stood -/
structure Step (h : Heap) (l : Led) (h' : Heap) (l' : Led) : Prop where
  same : Same (adr l) h h'
  own : ∀ p ∈ l', h'.get? p.1 = some p.2 ∧ (p.1 ∈ adr l ∨ h.get? p.1 = none)
  nd : (adr l').Nodup

theorem hide_none {h : Heap} {W : List Addr} {a : Addr} (e : (hideAll h W).get? a = none) : a ∈ W ∨ h.get? a = none := by
  by_cases hm : a ∈ W
  · exact .inl hm
  · cases e' : h.get? a with
    | none => exact .inr rfl
    | some o => rw [hideAll_get W e' hm] at e; cases e

section
variable {w : World} {hw h₀ h h' : Heap} {L : Addr} {m : List (Str × Value)} {l l' k : Led}
theorem St.step (S : St w hw (hideAll h (adr l)) L h' m l') : Step h l h' l' :=
  ⟨fun b o hb e => S.F.keep b o (hideAll_get _ e hb), fun p hp => ⟨(S.N p hp).1, hide_none (S.N p hp).2.2⟩, S.nd⟩
theorem St.step0 (S : St w hw h L h' m l') : Step h [] h' l' :=
  ⟨Same.of S.F.keep, fun p hp => ⟨(S.N p hp).1, .inr (S.N p hp).2.2⟩, S.nd⟩
theorem Step.sub {h h' : Heap} {l l' l'' : Led} (x : Step h l h' l') (k : l''.Sublist l') : Step h l h' l'' := ⟨x.same, fun p hp => x.own p (k.subset hp), x.nd.sublist (k.map _)⟩
theorem St.perm (S : St w hw h₀ L h m l) (x : l.Perm l') : St w hw h₀ L h m l' := ⟨S.D, S.F, fun p hp => S.N p (x.mem_iff.mpr hp), (x.map _).nodup_iff.mp S.nd⟩
/- behind a call that owned l of the ledger -/
theorem St.call (S : St w hw h₀ L h m (l ++ k)) (x : Step h l h' l') : St w hw h₀ L h' m (l' ++ k) := by
  have hN : ∀ p ∈ l ++ k, h.get? p.1 = some p.2 ∧ p.1 ≠ L ∧ h₀.get? p.1 = none := S.N
  have memL : ∀ a ∈ adr l, a ≠ L ∧ h₀.get? a = none := fun a ha => by
    obtain ⟨p, hp, rfl⟩ := List.mem_map.mp ha
    exact (hN p (List.mem_append_left _ hp)).2
  have hLn : L ∉ adr l := fun hm => (memL L hm).1 rfl
  have nd := S.nd
  rw [List.map_append, List.nodup_append] at nd
  refine ⟨S.D, ⟨S.F.ns.at' fun o e => x.same L o hLn e, fun b o e => x.same b o (fun hm => by rw [(memL b hm).2] at e; cases e) (S.F.keep b o e), S.F.above⟩, fun p hp => ?_, ?_⟩
  · rcases List.mem_append.mp hp with hp | hp
    · obtain ⟨h1, h2⟩ := x.own p hp
      refine ⟨h1, ?_⟩
      rcases h2 with h2 | h2
      · exact memL _ h2
      · refine ⟨fun e => ?_, ?_⟩
        · obtain ⟨o, _, _, ho, _⟩ := S.F.ns
          rw [← e, h2] at ho; cases ho
        · cases e : h₀.get? p.1 with
          | none => rfl
          | some o => have := S.F.keep _ _ e; rw [h2] at this; cases this
    · have h1 := hN p (List.mem_append_right _ hp)
      refine ⟨x.same _ _ (fun hm => ?_) h1.1, h1.2⟩
      exact nd.2.2 p.1 hm p.1 (List.mem_map_of_mem hp) rfl
  · rw [List.map_append, List.nodup_append]
    refine ⟨x.nd, nd.2.1, fun a ha b hb e => ?_⟩
    subst e
    obtain ⟨p, hp, rfl⟩ := List.mem_map.mp ha
    obtain ⟨q, hq, hqe⟩ := List.mem_map.mp hb
    rcases (x.own p hp).2 with h2 | h2
    · exact nd.2.2 p.1 h2 p.1 hb rfl
    · have := (hN q (List.mem_append_right _ hq)).1
      rw [hqe, h2] at this; cases this
theorem St.call0 (S : St w hw h₀ L h m k) (x : Step h [] h' l') : St w hw h₀ L h' m (l' ++ k) := St.call (l := []) S x
theorem St.own (S : St w hw h₀ L h m l) (D : Wo w hw h₀) : ∀ p ∈ l, h.get? p.1 = some p.2 ∧ hw.get? p.1 = none := fun p hp =>
  ⟨(S.N p hp).1, by
    cases e : hw.get? p.1 with
    | none => rfl
    | some o => have := D.2 _ _ e; rw [(S.N p hp).2.2] at this; cases this⟩
theorem St.own' (S : St w hw h₀ L h m (l ++ k)) : ∀ p ∈ l, h.get? p.1 = some p.2 ∧ hw.get? p.1 = none := fun p hp => S.own S.D p (List.mem_append_left _ hp)
theorem St.nd' (S : St w hw h₀ L h m (l ++ k)) : (adr l).Nodup := by
  have nd := S.nd
  rw [List.map_append, List.nodup_append] at nd
  exact nd.1
end
theorem pf_app {p K l k : Led} (x : K.Perm (l ++ k)) : (p ++ K).Perm (l ++ (p ++ k)) := (x.append_left p).trans (by
  rw [← List.append_assoc, ← List.append_assoc]
  exact (List.perm_append_comm).append_right k)

end
section
open PySem PySem.W PyProof.Rows PySem.Calls PySem.Spec
set_option Elab.async false
set_option linter.unusedVariables false
set_option maxRecDepth 100000

noncomputable def cut (l : List UInt8) (i j : Nat) : List UInt8 := (l.drop i).take (j - i)
theorem cut_clip (l : List UInt8) (i j : Nat) : (l.drop (min i l.length)).take (min j l.length - min i l.length) = cut l i j := by
  unfold cut
  by_cases hi : i ≤ l.length
  · rw [Nat.min_eq_left hi]
    refine List.take_eq_take_iff.mpr ?_
    rw [List.length_drop, Nat.sub_min_sub_right, Nat.sub_min_sub_right, Nat.min_assoc, Nat.min_self]
  · rw [Nat.min_eq_right (Nat.le_of_lt (Nat.not_le.mp hi)), List.drop_of_length_le (Nat.le_refl l.length), List.drop_of_length_le (i := i) (Nat.le_of_lt (Nat.not_le.mp hi)), List.take_nil, List.take_nil]

section
variable {w : World} {A : Around} {E : Value → Heap → Prop} {hw h₀ h : Heap} {L : Addr} {m : List (Str × Value)} {led : Led} {env : Env} {Q : Value → Heap → Prop} {l k : List UInt8} {t u : Tok}

theorem e_SliceB {lo hi : Expr} {p : Pos} (x : Wp (MM w) A (eval lo env) (fun a h₁ => Wp (MM w) A (eval hi env) (fun b h₂ => Q (.ref h₂.objs.size) (h₂.push { cls := .type "slice", data := .fields #[a, b, .none] })) E h₁) E h) :
    Wp (MM w) A (eval (.Slice (some lo) (some hi) none p) env) Q E h := by
  rw [arm_eval_Slice]
  exact Wp_bind (Wp_post x fun a h₁ q₁ => Wp_bind (Wp_holding (Wp_post q₁ fun b h₂ q₂ => Wp_bind (Wp_holding (Wp_pure (Wp_of fun g d tk o => wpAny_newObj_type ⟨⟨rfl, rfl, rfl⟩, q₂⟩))))))
theorem e_SliceL {lo : Expr} {p : Pos} (x : Wp (MM w) A (eval lo env) (fun a h₂ => Q (.ref h₂.objs.size) (h₂.push { cls := .type "slice", data := .fields #[a, .none, .none] })) E h) :
    Wp (MM w) A (eval (.Slice (some lo) none none p) env) Q E h := by
  rw [arm_eval_Slice]
  exact Wp_bind (Wp_post x fun a h₁ q₁ => Wp_bind (Wp_holding (Wp_pure (Wp_bind (Wp_holding (Wp_pure (Wp_of fun g d tk o => wpAny_newObj_type ⟨⟨rfl, rfl, rfl⟩, q₁⟩)))))))
theorem e_SliceH {hi : Expr} {p : Pos} (x : Wp (MM w) A (eval hi env) (fun b h₂ => Q (.ref h₂.objs.size) (h₂.push { cls := .type "slice", data := .fields #[.none, b, .none] })) E h) :
    Wp (MM w) A (eval (.Slice none (some hi) none p) env) Q E h := by
  rw [arm_eval_Slice]
  exact Wp_bind (Wp_pure (Wp_bind (Wp_holding (Wp_post x fun a h₁ q₁ => Wp_bind (Wp_holding (Wp_pure (Wp_of fun g d tk o => wpAny_newObj_type ⟨⟨rfl, rfl, rfl⟩, q₁⟩)))))))
theorem letTemp_bytes {value : Expr} {b : Array UInt8} {r : Value} : letTemporaryGo value (.bytes b t) r = pure () := by cases value <;> rfl
theorem y_slice {value slice : Expr} {a b : Value} {lo hi : Option Int} (S : St w hw h₀ L h m led) (ha : IsPart a lo) (hb : IsPart b hi) (hz : l.length ≤ 16777216)
    (q : ∀ h' t', St w hw h₀ L h' m led → Q (.bytes ((l.drop (lo.elim 0 (clipAt l.length))).take (hi.elim l.length (clipAt l.length) - lo.elim 0 (clipAt l.length))).toArray t') h')
    (hs : ∀ a, subscripted slice false (.bytes l.toArray t) (.ref a) = operate [.ref a, .bytes l.toArray t] (getItem (.bytes l.toArray t) (.ref a)) := by intro _; with_unfolding_all rfl) :
    Wp (MM w) A (subscriptTail value slice (.bytes l.toArray t) (.ref h.objs.size)) Q E (h.push { cls := .type "slice", data := .fields #[a, b, .none] }) := Wp_of fun g d tk o =>
  tail_of_ItemOn ⟨"bytes", _, FB.slot_bytes_getitem.lookup, typeIs_bytes _ _ _, getItem_meets (typeIs_bytes _ _ _) (by decide) FB.slot_bytes_getitem FB.entry_bytes_getitem (FB.args_bytes_getitem_2 _ _) (KBc.meets_slice2 l.toArray t _ ha hb)
    ⟨Heap.IsSliceOf.new _ _ _ _, Nat.le_trans (KBc.size_picked_le l.toArray lo hi) (by rw [List.size_toArray, sizeLine_eq]; exact hz), fun t' k => ⟨⟨rfl, rfl, rfl⟩, by
      rw [KBc.picked_eq]
      exact q _ t' (S.grow fun b o e => Heap.get?_push_of_some _ e)⟩⟩⟩ (hs _) fun _ => letTemp_bytes
theorem y_cut {value slice : Expr} {a b : Int} {ta tb : Tok} {i j : Nat} (S : St w hw h₀ L h m led) (hz : l.length ≤ 16777216) (ha : a = i) (hb : b = j) (q : ∀ h' t', St w hw h₀ L h' m led → Q (.bytes (cut l i j).toArray t') h')
    (hs : ∀ a, subscripted slice false (.bytes l.toArray t) (.ref a) = operate [.ref a, .bytes l.toArray t] (getItem (.bytes l.toArray t) (.ref a)) := by intro _; with_unfolding_all rfl) :
    Wp (MM w) A (subscriptTail value slice (.bytes l.toArray t) (.ref h.objs.size)) Q E (h.push { cls := .type "slice", data := .fields #[.int a ta, .int b tb, .none] }) :=
  y_slice S (.int a ta) (.int b tb) hz (fun h' t' S' => by
    subst ha hb
    have := q h' t' S'
    rw [← cut_clip] at this
    show Q (.bytes ((l.drop (clipAt l.length (i : Int))).take (clipAt l.length (j : Int) - clipAt l.length (i : Int))).toArray t') h'
    rw [clipAt_nat, clipAt_nat]
    exact this) hs
theorem y_from {value slice : Expr} {a : Int} {ta : Tok} {i : Nat} (S : St w hw h₀ L h m led) (hz : l.length ≤ 16777216) (ha : a = i) (q : ∀ h' t', St w hw h₀ L h' m led → Q (.bytes (l.drop i).toArray t') h')
    (hs : ∀ a, subscripted slice false (.bytes l.toArray t) (.ref a) = operate [.ref a, .bytes l.toArray t] (getItem (.bytes l.toArray t) (.ref a)) := by intro _; with_unfolding_all rfl) :
    Wp (MM w) A (subscriptTail value slice (.bytes l.toArray t) (.ref h.objs.size)) Q E (h.push { cls := .type "slice", data := .fields #[.int a ta, .none, .none] }) :=
  y_slice S (.int a ta) .none hz (fun h' t' S' => by
    subst ha
    have := q h' t' S'
    show Q (.bytes ((l.drop (clipAt l.length (i : Int))).take (l.length - clipAt l.length (i : Int))).toArray t') h'
    rw [clipAt_nat, List.take_of_length_le (by simp)]
    by_cases hi : i ≤ l.length
    · rw [Nat.min_eq_left hi]; exact this
    · rw [Nat.min_eq_right (by lia), List.drop_of_length_le (Nat.le_refl _)]
      rw [List.drop_of_length_le (by lia)] at this
      exact this) hs
theorem y_to {value slice : Expr} {b : Int} {tb : Tok} {j : Nat} (S : St w hw h₀ L h m led) (hz : l.length ≤ 16777216) (hb : b = j) (q : ∀ h' t', St w hw h₀ L h' m led → Q (.bytes (l.take j).toArray t') h')
    (hs : ∀ a, subscripted slice false (.bytes l.toArray t) (.ref a) = operate [.ref a, .bytes l.toArray t] (getItem (.bytes l.toArray t) (.ref a)) := by intro _; with_unfolding_all rfl) :
    Wp (MM w) A (subscriptTail value slice (.bytes l.toArray t) (.ref h.objs.size)) Q E (h.push { cls := .type "slice", data := .fields #[.none, .int b tb, .none] }) :=
  y_slice S .none (.int b tb) hz (fun h' t' S' => by
    subst hb
    have := q h' t' S'
    show Q (.bytes ((l.drop 0).take (clipAt l.length (j : Int) - 0)).toArray t') h'
    rw [clipAt_nat, List.drop_zero, Nat.sub_zero]
    by_cases hj : j ≤ l.length
    · rw [Nat.min_eq_left hj]; exact this
    · rw [Nat.min_eq_right (by lia), List.take_of_length_le (Nat.le_refl _)]
      rw [List.take_of_length_le (by lia)] at this
      exact this) hs
theorem y_add (hz : l.length + k.length ≤ 16777216) (q : ∀ t', Q (.bytes (l ++ k).toArray t') h) : Wp (MM w) A (binaryOp .Add (.bytes l.toArray t) (.bytes k.toArray u)) Q E h := Wp_of fun g d tk o =>
  KBy.add_bytes (by simpa using hz) fun t' n => ⟨⟨rfl, rfl, rfl⟩, by have := q t'; rw [← List.append_toArray] at this; exact this⟩
/- find, of one octet -/
theorem slot_bytes_find : Slot "bytes" "find" "bytes.find" :=
  .of (owner := "bytes") (n := "find") (by rw [typeLookup_type, builtinLookup_eq_fast]; kernel_rfl) (by decide +kernel) (by decide +kernel) (by decide +kernel)
    (by first | exact .inl (by decide +kernel) | exact .inr (by decide +kernel)) (by rw [isSubtype_type]; kernel_rfl)
theorem type_bytes_find : typeOf (.builtin "bytes.find") = pure (.type "method_descriptor") := by show builtinType _ = _; rw [builtinType_eq_fast]; kernel_rfl
theorem entry_bytes_find : entryFor table "bytes.find" = some Builtin.«bytes.find» := entryFor_of_tree (by kernel_rfl)
theorem args_bytes_find_3 (a b c : Value) : argsOk "bytes.find" ⟨[a, b, c], []⟩ := by
  unfold argsOk; rw [signature?_of (id := "bytes.find") (n := ['d', 'n', 'i', 'f']) (o := ['s', 'e', 't', 'y', 'b']) (by kernel_rfl) FB.owner_bytes]; kernel_rfl
theorem args_bytes_find_2 (a b : Value) : argsOk "bytes.find" ⟨[a, b], []⟩ := by
  unfold argsOk; rw [signature?_of (id := "bytes.find") (n := ['d', 'n', 'i', 'f']) (o := ['s', 'e', 't', 'y', 'b']) (by kernel_rfl) FB.owner_bytes]; kernel_rfl
theorem slot_bytes_split : Slot "bytes" "split" "bytes.split" :=
  .of (owner := "bytes") (n := "split") (by rw [typeLookup_type, builtinLookup_eq_fast]; kernel_rfl) (by decide +kernel) (by decide +kernel) (by decide +kernel)
    (by first | exact .inl (by decide +kernel) | exact .inr (by decide +kernel)) (by rw [isSubtype_type]; kernel_rfl)
theorem type_bytes_split : typeOf (.builtin "bytes.split") = pure (.type "method_descriptor") := by show builtinType _ = _; rw [builtinType_eq_fast]; kernel_rfl
theorem entry_bytes_split : entryFor table "bytes.split" = some Builtin.«bytes.split» := entryFor_of_tree (by kernel_rfl)
theorem args_bytes_split_2 (a b : Value) : argsOk "bytes.split" ⟨[a, b], []⟩ := by
  unfold argsOk; rw [signature?_of (id := "bytes.split") (n := ['t', 'i', 'l', 'p', 's']) (o := ['s', 'e', 't', 'y', 'b']) (by kernel_rfl) FB.owner_bytes]; kernel_rfl
theorem slot_bytes_join : Slot "bytes" "join" "bytes.join" :=
  .of (owner := "bytes") (n := "join") (by rw [typeLookup_type, builtinLookup_eq_fast]; kernel_rfl) (by decide +kernel) (by decide +kernel) (by decide +kernel)
    (by first | exact .inl (by decide +kernel) | exact .inr (by decide +kernel)) (by rw [isSubtype_type]; kernel_rfl)
theorem type_bytes_join : typeOf (.builtin "bytes.join") = pure (.type "method_descriptor") := by show builtinType _ = _; rw [builtinType_eq_fast]; kernel_rfl
theorem entry_bytes_join : entryFor table "bytes.join" = some Builtin.«bytes.join» := entryFor_of_tree (by kernel_rfl)
theorem args_bytes_join_2 (a b : Value) : argsOk "bytes.join" ⟨[a, b], []⟩ := by
  unfold argsOk; rw [signature?_of (id := "bytes.join") (n := ['n', 'i', 'o', 'j']) (o := ['s', 'e', 't', 'y', 'b']) (by kernel_rfl) FB.owner_bytes]; kernel_rfl
theorem y_meth {name : Str} {id : String} {b : Array UInt8} {pl : Sem Bool} {Q : Value × List Value → Heap → Prop} (slot : Slot "bytes" name id) (ty : typeOf (.builtin id) = pure (.type "method_descriptor")) (q : Q (.builtin id, [.bytes b t]) h) :
    Wp (MM w) A (getMethod (.bytes b t) name pl) Q E h := Wp_of fun g d tk o =>
  getMethod_builtin (typeIs_bytes _ _ _) FB.plainAttrs_bytes slot ty (fun _ e => nomatch e) ⟨⟨rfl, rfl, rfl⟩, q⟩
/- the place of an octet from a place on -/
noncomputable def findFrom (l : List UInt8) (c : UInt8) (i : Nat) : Option Nat := (((List.range (l.length + 1 - (i + 1))).map (· + i)).find? fun j => l.toArray.extract j (j + 1) == #[c])
noncomputable def findInt (l : List UInt8) (c : UInt8) (i : Nat) : Int := (findFrom l c i).elim (-1) fun j => (j : Int)
theorem gives_find {c : UInt8} {i : Nat} {v : Tok} : Gives (Builtin.«bytes.find» ⟨[.bytes l.toArray t, .bytes #[c] u, .int i v], []⟩) (.int (findInt l c i)) := by
  refine .of_wp fun M A E s Q hq => ?_
  unfold Builtin.«bytes.find» Builtin.Bytes.searchM
  refine wpAny_bind ?_
  unfold Builtin.Bytes.searchArgs
  refine wpAny_bind (m := selfAndSome _ _ _ _ _) (wpAny_of_eq (a := (.bytes l.toArray t, [.bytes #[c] u, .int i v])) rfl ?_)
  show wpAny M A (Builtin.Bytes.bound? (some (.int i v)) >>= _) _ E s
  refine wpAny_bind ?_
  unfold Builtin.Bytes.bound?
  refine wpAny_bind (wpAny_specialOf (typeIs_int s _ v) F.slot_int_index.lookup ?_)
  refine wpAny_bind (m := asIndex _) (wpAny_of_eq (a := (i : Int)) rfl (wpAny_pure ?_))
  refine wpAny_bind (m := Builtin.Bytes.bound? none) (wpAny_of_eq (a := none) rfl ?_)
  refine wpAny_bind (wpAny_of_eq KBy.buffer_eq ?_)
  refine wpAny_bind (wpAny_pure ?_)
  refine wpAny_bind (wpAny_of_eq (a := l.toArray) rfl (wpAny_pure ?_))
  simp only [List.size_toArray, Option.getD_some, Option.getD_none, show ¬ ((i : Int) < 0) by lia, show ¬ ((l.length : Int) < 0) by lia, if_false, Int.min_self]
  have key : ((if (l.length : Int) - (i : Int) < ((#[c] : Array UInt8).size : Int) then none else some ((i : Int).toNat, (l.length : Int).toNat)).bind fun x => if false = true then Builtin.Bytes.rfind? l.toArray #[c] x.1 x.2 else Builtin.Bytes.find? l.toArray #[c] x.1 x.2) = findFrom l c i := by
    have h1 : (#[c] : Array UInt8).size = 1 := rfl
    rw [h1]
    by_cases hlt : (l.length : Int) - (i : Int) < ((1 : Nat) : Int)
    · rw [if_pos hlt]
      unfold findFrom
      rw [show l.length + 1 - (i + 1) = 0 by lia]
      rfl
    · rw [if_neg hlt]
      rfl
  show wpAny M A (match ((if (l.length : Int) - (i : Int) < ((#[c] : Array UInt8).size : Int) then none else some ((i : Int).toNat, (l.length : Int).toNat)).bind fun x => if false = true then Builtin.Bytes.rfind? l.toArray #[c] x.1 x.2 else Builtin.Bytes.find? l.toArray #[c] x.1 x.2) with
    | some i => retInt i
    | none => do
      rule _
      if false = true then _ else retInt (-1)) _ E s
  rw [key]
  unfold findInt at hq
  cases hf : findFrom l c i with
  | some j =>
    rw [hf] at hq
    exact wpAny_bind (wpAny_mkInt (wpAny_pure ⟨_, rfl, hq⟩))
  | none =>
    rw [hf] at hq
    refine wpAny_bind (wpAny_rule ?_)
    exact wpAny_bind (wpAny_mkInt (wpAny_pure ⟨_, rfl, hq⟩))
end

end
section
open PySem PySem.W PyProof.Rows PySem.Calls PySem.Spec
set_option Elab.async false
set_option linter.unusedVariables false
set_option maxRecDepth 100000

section
variable {α β : Type} {w : World} {A : Around} {E : Value → Heap → Prop} {h : Heap}
theorem Wp_eqb {t : Sem α} {a : α} {f : α → Sem β} {Q : β → Heap → Prop} (e : t = pure a) (x : Wp (MM w) A (f a) Q E h) : Wp (MM w) A (t >>= f) Q E h := Wp_bind (e ▸ Wp_pure x)
theorem Wp_ff {c : Bool} {a b : Sem α} {Q : α → Heap → Prop} (hc : c = false) (x : Wp (MM w) A b Q E h) : Wp (MM w) A (if c = true then a else b) Q E h := by subst hc; exact x
theorem Wp_tt {c : Bool} {a b : Sem α} {Q : α → Heap → Prop} (hc : c = true) (x : Wp (MM w) A a Q E h) : Wp (MM w) A (if c = true then a else b) Q E h := by subst hc; exact x
theorem Wp_typeOf {v : Value} {T : String} {Q : Value → Heap → Prop} (hT : ∀ g d tk o, Shared.TypeIs ⟨h, g, d, tk, o⟩ v T) (q : Q (.type T) h) : Wp (MM w) A (typeOf v) Q E h := Wp_of fun g d tk o => wpAny_typeOf (hT _ _ _ _) ⟨⟨rfl, rfl, rfl⟩, q⟩
theorem Wp_isInstance {v : Value} {T U : String} {b : Bool} {Q : Bool → Heap → Prop} (hT : ∀ g d tk o, Shared.TypeIs ⟨h, g, d, tk, o⟩ v T) (hs : isSubtype (.type T) (.type U) = pure b) (q : Q b h) : Wp (MM w) A (isInstance v (.type U)) Q E h := Wp_of fun g d tk o =>
  wpAny_isInstance (hT _ _ _ _) hs ⟨⟨rfl, rfl, rfl⟩, q⟩
theorem Wp_specialOf {v : Value} {T : String} {name : Str} {r : Option Value} {Q : Option Value → Heap → Prop} (hT : ∀ g d tk o, Shared.TypeIs ⟨h, g, d, tk, o⟩ v T) (hl : typeLookup (.type T) name = pure r) (q : Q r h) : Wp (MM w) A (specialOf v name) Q E h := Wp_of fun g d tk o =>
  wpAny_specialOf (hT _ _ _ _) hl ⟨⟨rfl, rfl, rfl⟩, q⟩
theorem typ_at {a : Addr} {o : Obj} {T : String} (ho : h.get? a = some o) (hc : o.cls = .type T) : ∀ g d tk os, Shared.TypeIs ⟨h, g, d, tk, os⟩ (.ref a) T := fun _ _ _ _ => ⟨o, ho, hc⟩
/- no call on the stack holds a bytearray -/
theorem Wp_stackAny {f : Code × Pos → Bool} {Q : Bool → Heap → Prop} (hg : A.guards = some []) (hf : ∀ c p, c.isGuard = false → isDec c = false → f (c, p) = false) (q : Q false h) :
    Wp (MM w) A (do return (← stack).any f) Q E h := by
  refine ⟨fun s hs Γ p hΓ hd hn => ?_⟩
  subst hs
  have gl : Γ.code.guards ++ guardsOf Γ.below = [] := hΓ.2.2.2.1 [] hg
  have key : ∀ l : List (Code × Pos), guardsOf l = [] → ND l → l.any f = false := fun l => by
    induction l with
    | nil => intro _ _; rfl
    | cons x l ih =>
      intro h1 h2
      obtain ⟨c, p⟩ := x
      rw [guardsOf_cons] at h1
      have hc : c.isGuard = false := by
        cases hc : c.isGuard with
        | false => rfl
        | true => rw [Code.guards, hc] at h1; simp at h1
      rw [List.any_cons, hf c p hc (h2 _ (.head _)), ih (List.append_eq_nil_iff.mp h1).2 fun x hx => h2 x (.tail _ hx)]; rfl
  have e := key ((Γ.code, p) :: Γ.below) (by rw [guardsOf_cons]; exact gl) (ND.cons hd hn)
  refine ⟨⟨rfl, rfl, rfl⟩, ?_⟩
  show Q (((Γ.code, p) :: Γ.below).any f) s.heap
  rw [e]; exact q
theorem Wp_exported {v : Value} {Q : Bool → Heap → Prop} (hg : A.guards = some []) (q : Q false h) : Wp (MM w) A (Builtin.Bytes.exported v) Q E h := by
  unfold Builtin.Bytes.exported
  refine Wp_stackAny hg (fun c p hc hd => ?_) q
  cases c with
  | builtin id args =>
    have g : ∀ x : String, guardIds.contains x = true → id ≠ x := fun x hx e => by subst e; exact Bool.noConfusion (hx.symm.trans hc)
    delta PySem.Builtin.Bytes.exported.match_1
    dsimp only
    refine (@dif_neg _ _ (g "bytearray.__contains__" (by decide +kernel)) _ _ _).trans ?_
    refine (@dif_neg _ _ (g "bytearray.__mod__" (by decide +kernel)) _ _ _).trans ?_
    refine (@dif_neg _ _ (g "bytearray.__rmod__" (by decide +kernel)) _ _ _).trans ?_
    refine (@dif_neg _ _ (g "_struct.pack_into.held" (by decide +kernel)) _ _ _).trans ?_
    refine (@dif_neg _ _ (g "bytearray.find.held" (by decide +kernel)) _ _ _).trans ?_
    obtain ⟨pos, kw⟩ := args
    cases pos with
    | nil => rfl
    | cons v vs =>
      have : (Builtin.Bytes.decodersThatHold.contains id) = false := hd
      show (_ && Builtin.Bytes.decodersThatHold.contains id) = false
      rw [this, Bool.and_false]
  | _ => rfl
noncomputable abbrev KFin (w : World) (A : Around) (R : Result → Heap → Prop) : PySem.Fin → Heap → Prop := fun fin h' => match fin with | .done f => R (.ok f) h' | .again c' => c'.quiet = true ∧ Wc (MM w) A c' R h'
noncomputable abbrev KErr (R : Result → Heap → Prop) : Value → Heap → Prop := fun e h' => R (.error e) h'
theorem Wc_builtin {id : String} {args : Args} {b : Builtin} {R : Result → Heap → Prop} (hp : plainId id = true) (hd : Builtin.Bytes.decodersThatHold.contains id = false) (hb : entryFor table id = some b)
    (x : Wp (MM w) A.in1 (b args) (KFin w A R) (KErr R) h) : Wc (MM w) A (.builtin id args) R h := by
  refine Wc_of_tree hd ?_
  rw [Around.under_plainId hp]
  show Wp _ _ (match entryFor table id with | some b => b args | none => unsupported ((withoutEnding? id "#data").getD id)) _ _ _
  rw [hb]; exact x
theorem Wc_builtin' {id : String} {args : Args} {b : Builtin} {R : Result → Heap → Prop} {A' : Around} (hu : A.under (.builtin id args) = A') (hd : Builtin.Bytes.decodersThatHold.contains id = false) (hb : entryFor table id = some b)
    (x : Wp (MM w) A' (b args) (KFin w A R) (KErr R) h) : Wc (MM w) A (.builtin id args) R h := by
  refine Wc_of_tree hd ?_
  rw [hu]
  show Wp _ _ (match entryFor table id with | some b => b args | none => unsupported ((withoutEnding? id "#data").getD id)) _ _ _
  rw [hb]; exact x
theorem Wc_call_builtin {id : String} {args : Args} {b : Builtin} {R : Result → Heap → Prop} (hp : plainId id = true) (hd : Builtin.Bytes.decodersThatHold.contains id = false) (hb : entryFor table id = some b)
    (hc : ∀ A' Q' E', Q' () h → Wp (MM w) A' (checkBuiltinCall id args) Q' E' h)
    (x : Wp (MM w) A.in1 (b args) (KFin w A R) (KErr R) h) : Wc (MM w) A (.call (.builtin id) args) R h := by
  refine Wc_of_tree rfl ?_
  show Wp _ A.in1 (do checkBuiltinCall id args; again (.builtin id args)) _ _ _
  exact Wp_bind (hc _ _ _ (Wp_pure ⟨plainId_quiet hp args, Wc_builtin hp hd hb x⟩))
theorem check_of_slot {T : String} {name : Str} {id : String} {self : Value} {rest : List Value} (slot : Slot T name id) (hT : ∀ g d tk o, Shared.TypeIs ⟨h, g, d, tk, o⟩ self T) (ha : argsOk id ⟨self :: rest, []⟩) :
    ∀ (A' : Around) (Q' : Unit → Heap → Prop) (E' : Value → Heap → Prop), Q' () h → Wp (MM w) A' (checkBuiltinCall id ⟨self :: rest, []⟩) Q' E' h := fun A' Q' E' q => Wp_of fun g d tk o =>
  slot.check _ _ _ _ _ _ _ _ (hT _ _ _ _) ha ⟨⟨rfl, rfl, rfl⟩, q⟩
end

noncomputable def baObj (l : List UInt8) : Obj := { cls := .type "bytearray", data := .bytearray l.toArray }

theorem ba_slot_append : Slot "bytearray" "append" "bytearray.append" :=
  .of (owner := "bytearray") (n := "append") (by rw [typeLookup_type, builtinLookup_eq_fast]; kernel_rfl) (by decide +kernel) (by decide +kernel) (by decide +kernel)
    (by first | exact .inl (by decide +kernel) | exact .inr (by decide +kernel)) (by rw [isSubtype_type]; kernel_rfl)
theorem ba_type_append : typeOf (.builtin "bytearray.append") = pure (.type "method_descriptor") := by show builtinType _ = _; rw [builtinType_eq_fast]; kernel_rfl
theorem ba_entry_append : entryFor table "bytearray.append" = some Builtin.«bytearray.append» := entryFor_of_tree (by kernel_rfl)
theorem ba_args_append (a b : Value) : argsOk "bytearray.append" ⟨[a, b], []⟩ := by unfold argsOk; kernel_rfl
theorem ba_attrs : PlainAttrs "bytearray" :=
  ⟨⟨"bytearray.__getattribute__", by rw [typeLookup_type, builtinLookup_eq_fast]; kernel_rfl, by decide +kernel⟩, by rw [typeLookup_type, builtinLookup_eq_fast]; kernel_rfl⟩
theorem ba_slot_len : Slot "bytearray" "__len__" "bytearray.__len__" :=
  .of (owner := "bytearray") (n := "__len__") (by rw [typeLookup_type, builtinLookup_eq_fast]; kernel_rfl) (by decide +kernel) (by decide +kernel) (by decide +kernel)
    (by first | exact .inl (by decide +kernel) | exact .inr (by decide +kernel)) (by rw [isSubtype_type]; kernel_rfl)
theorem ba_entry_len : entryFor table "bytearray.__len__" = some Builtin.«bytearray.__len__» := entryFor_of_tree (by kernel_rfl)
theorem ba_args_len (a : Value) : argsOk "bytearray.__len__" ⟨[a], []⟩ := by unfold argsOk; kernel_rfl

section
variable {w : World} {A : Around} {E : Value → Heap → Prop} {hw h₀ h : Heap} {L a : Addr} {m : List (Str × Value)} {led : Led} {Q : Value → Heap → Prop} {l : List UInt8} {n : Nat}

theorem ba_meth {pl : Sem Bool} {Q : Value × List Value → Heap → Prop} (ho : h.get? a = some (baObj l)) (q : Q (.builtin "bytearray.append", [.ref a]) h) : Wp (MM w) A (getMethod (.ref a) "append" pl) Q E h := Wp_of fun g d tk o =>
  getMethod_builtin ⟨_, ho, rfl⟩ ba_attrs ba_slot_append ba_type_append (fun b e => by cases e; exact ⟨_, ho, rfl⟩) ⟨⟨rfl, rfl, rfl⟩, q⟩
theorem ba_check_append {c : Int} {u : Tok} (ho : h.get? a = some (baObj l)) : ∀ (A' : Around) (Q' : Unit → Heap → Prop) (E' : Value → Heap → Prop), Q' () h → Wp (MM w) A' (checkBuiltinCall "bytearray.append" ⟨[.ref a, .int c u], []⟩) Q' E' h := fun A' Q' E' q =>
  Wp_of fun g d tk o => ba_slot_append.check _ _ _ _ (.ref a) [.int c u] [] _ ⟨_, ho, rfl⟩ (ba_args_append _ _) ⟨⟨rfl, rfl, rfl⟩, q⟩
theorem ba_append {c : UInt8} {u : Tok} (hg : A.guards = some []) (S : St w hw h₀ L h m led) (hm : (a, baObj l) ∈ led) (hz : l.length < 16777216)
    (q : ∀ h', (∀ led', Up a (baObj l) (baObj (l ++ [c])) led led' → St w hw h₀ L h' m led') → Q .none h') : Wp (MM w) A (call (.builtin "bytearray.append") [.ref a, .int c.toNat u] []) Q E h := by
  have ho := S.get hm
  refine Wp_call (Wc_call_builtin (id := "bytearray.append") ba_slot_append.plain (by decide +kernel) ba_entry_append ?_ ?_)
  · exact ba_check_append ho
  show Wp _ A.in1 (do
    let c ← Builtin.Bytes.byteValue (.int c.toNat u)
    Builtin.Bytes.checkResize (.ref a)
    Builtin.Bytes.write (.ref a) (·.push c)
    ret .none) _ _ _
  have hb := c.toNat_lt
  refine Wp_bind ?_
  unfold Builtin.Bytes.byteValue
  refine Wp_eqb (a := (c.toNat : Int)) rfl (Wp_ff (by simp; lia) (Wp_pure ?_))
  refine Wp_bind ?_
  unfold Builtin.Bytes.checkResize
  refine Wp_bind ?_
  unfold orM
  refine Wp_bind (Wp_exported hg ?_)
  show Wp _ _ (do return decide ((← Builtin.Bytes.exportsOf (.ref a)) > 0)) _ _ _
  refine Wp_bind ?_
  show Wp _ _ (do match (← load a).data with
    | .bytearray _ n => pure n
    | _ => pure 0) _ _ _
  refine Wp_bind (Wp_load ho (Wp_pure (Wp_pure (Wp_ff rfl (Wp_pure ?_)))))
  refine Wp_bind ?_
  show Wp _ _ (updateBytearray a (·.push ((c.toNat : Int).toNat.toUInt8))) _ _ _
  unfold updateBytearray
  refine Wp_bind (Wp_load ho ?_)
  have e : ((c.toNat : Int).toNat.toUInt8) = c := by simp
  rw [e]
  show Wp _ _ (update a (Obj.mapBytearray (·.push c)) >>= fun _ => lookBehind a) _ _ _
  have hn : (h.update a (Obj.mapBytearray (·.push c))).get? a = some (baObj (l ++ [c])) := by
    have := Heap.get?_update_self (Obj.mapBytearray (·.push c)) ho rfl
    rw [this]
    simp [Obj.mapBytearray, baObj]
  refine Wp_bind (Wp_of fun g d tk o => wpAny_update ho ⟨⟨rfl, rfl, rfl⟩, Wp_of fun g d tk o => wpAny_lookBehind hn ?_ ⟨⟨rfl, rfl, rfl⟩, Wp_pure ?_⟩⟩)
  · show (if ((l ++ [c]).toArray.size) > sizeLine then some "bytearray:memory" else none) = none
    rw [if_neg]
    rw [List.size_toArray, List.length_append, sizeLine_eq]
    simp; lia
  · exact q _ fun led' u => S.upd u (fun b x hne e => (Heap.get?_update_other _ _ (Ne.symm hne)).trans e) hn
theorem ba_meets_len : Meets (Builtin.«bytearray.__len__» ⟨[.ref a], []⟩) (fun _ R s => s.heap.get? a = some (baObj l) ∧ R (.ok (.ret (.int l.length s.toks))) { s with toks := s.toks + 1 }) := by
  refine .of_wp fun prog w A R s hS => ?_
  show wpAny _ _ (Builtin.Bytes.payload (.ref a) >>= fun b => retInt b.size) _ _ _
  refine wpAny_bind ?_
  unfold Builtin.Bytes.payload Builtin.Bytes.payload?
  refine wpAny_bind (wpAny_bind (wpAny_load hS.1 (wpAny_pure (wpAny_pure ?_))))
  exact wpAny_bind (wpAny_mkInt (wpAny_pure ⟨_, rfl, hS.2⟩))
theorem ba_len (ho : h.get? a = some (baObj l)) (hz : l.length ≤ 16777216) (q : ∀ t, Q (.int l.length t) h) : Wp (MM w) A (call (.builtin "len") [.ref a] []) Q E h := Wp_of fun g d tk o => by
  have hT : Shared.TypeIs ⟨h, g, d, tk, o⟩ (.ref a) "bytearray" := ⟨_, ho, rfl⟩
  exact call_len_meets hT ba_slot_len ba_entry_len (ba_args_len _) ba_meets_len (by lia) (by lia) (fun Q' q' => ⟨ho, q'⟩) ⟨⟨rfl, rfl, rfl⟩, q _⟩
theorem ba_lk_bytes : typeLookup (.type "bytearray") "__bytes__" = pure none := by rw [typeLookup_type, builtinLookup_eq_fast]; kernel_rfl
theorem ba_lk_index : typeLookup (.type "bytearray") "__index__" = pure none := by rw [typeLookup_type, builtinLookup_eq_fast]; kernel_rfl
theorem ba_lk_buffer : typeLookup (.type "bytearray") "__buffer__" = pure (some (.builtin "bytearray.__buffer__")) := by rw [typeLookup_type, builtinLookup_eq_fast]; kernel_rfl
theorem ba_lk_release : typeLookup (.type "bytearray") "__release_buffer__" = pure (some (.builtin "bytearray.__release_buffer__")) := by rw [typeLookup_type, builtinLookup_eq_fast]; kernel_rfl
theorem ba_self : isSubtype (.type "bytearray") (.type "bytearray") = pure true := by rw [isSubtype_type]; kernel_rfl
theorem ba_owns {name : String} {id : String} {M : Model} {A : Around} {E : Value → Shared → Prop} {s : Shared} {Q : Bool → Shared → Prop} (ho : s.heap.get? a = some (baObj l)) (hl : typeLookup (.type "bytearray") (Str.ofString name) = pure (some (.builtin id)))
    (he : (id.endsWith ("." ++ name)) = true) (hd : id.dropRight (name.length + 1) = "bytearray") (q : Q true s) : wpAny M A (Builtin.Bytes.slotIsOwn (.ref a) name) Q E s := by
  have hT : s.TypeIs (.ref a) "bytearray" := ⟨_, ho, rfl⟩
  unfold Builtin.Bytes.slotIsOwn
  refine wpAny_bind (wpAny_specialOf hT hl ?_)
  dsimp only
  rw [he, hd]
  exact wpAny_isInstance hT ba_self q
theorem ba_meets_bytes : Meets (Builtin.«bytes.__new__» ⟨[.type "bytes", .ref a], []⟩) (fun _ R s => s.heap.get? a = some (baObj l) ∧ l.length ≤ sizeLine ∧ ∀ t k, R (.ok (.ret (.bytes l.toArray t))) { s with toks := k }) := by
  refine .of_wp fun prog w A R s hS => ?_
  obtain ⟨ho, hz, hR⟩ := hS
  have hT : s.TypeIs (.ref a) "bytearray" := ⟨_, ho, rfl⟩
  unfold Builtin.«bytes.__new__»
  refine wpAny_bind (wpAny_of_eq (a := true) rfl ?_)
  refine bm_if_false rfl ?_
  refine wpAny_bind (wpAny_of_eq F.bm_sub ?_)
  refine bm_if_false rfl ?_
  refine wpAny_bind (wpAny_of_eq (F.bm_bind _) ?_)
  refine wpAny_bind (wpAny_of_eq (a := ()) rfl ?_)
  refine wpAny_bind (wpAny_of_eq (a := ()) rfl ?_)
  refine bm_if_false rfl ?_
  refine wpAny_bind (wpAny_specialOf hT ba_lk_bytes ?_)
  refine wpAny_bind (wpAny_bind ?_)
  show wpAny _ _ (load a >>= _) _ _ _
  refine wpAny_bind (wpAny_load ho ?_)
  refine wpAny_pure (wpAny_pure ?_)
  refine bm_if_false rfl ?_
  refine wpAny_bind (wpAny_specialOf hT ba_lk_index ?_)
  refine bm_if_true rfl ?_
  first
    | show wpAny _ _ (Builtin.Bytes.buffer? "bytes.__new__" (.ref a) true >>= _) _ _ _
    | (refine wpAny_bind ?_; show wpAny _ _ (Builtin.Bytes.buffer? "bytes.__new__" (.ref a) true >>= _) _ _ _)
  refine wpAny_bind ?_
  unfold Builtin.Bytes.buffer?
  refine wpAny_bind (wpAny_specialOf hT ba_lk_buffer ?_)
  dsimp only
  refine wpAny_bind (ba_owns ho (by exact ba_lk_buffer) (by decide +kernel) (by decide +kernel) (bm_if_false rfl ?_))
  refine wpAny_bind (wpAny_specialOf hT ba_lk_buffer ?_)
  unfold Builtin.Bytes.ownRelease
  refine wpAny_bind (wpAny_bind (ba_owns ho (by exact ba_lk_release) (by decide +kernel) (by decide +kernel) (wpAny_pure (bm_if_false rfl ?_))))
  unfold Builtin.Bytes.payload Builtin.Bytes.payload?
  refine wpAny_bind (wpAny_bind (wpAny_bind (wpAny_load ho (wpAny_pure (wpAny_pure (wpAny_pure ?_))))))
  refine wpAny_bind (wpAny_rule (wpAny_bind (wpAny_mkBytes ?_ (by rw [List.size_toArray]; exact hz))))
  show wpAny _ _ (if (Value.type "bytes" == Value.type "bytes") = true then _ else _) _ _ _
  refine bm_if_true (by decide) ?_
  exact wpAny_pure ⟨_, rfl, hR _ _⟩
theorem ba_bytes (ho : h.get? a = some (baObj l)) (hz : l.length ≤ 16777216) (q : ∀ t, Q (.bytes l.toArray t) h) : Wp (MM w) A (call (.type "bytes") [.ref a] []) Q E h := Wp_of fun g d tk o =>
  callType_new F.bm_called (by decide) (F.bm_typeCall _) (F.bm_newCall _) (fun obj => F.args_object_init_2 obj _) F.bm_entry ba_meets_bytes ⟨ho, by rw [sizeLine_eq]; exact hz, fun t k => ⟨typeIs_bytes _ _ _, ⟨rfl, rfl, rfl⟩, q _⟩⟩

/- bytearray() -/
theorem ba_mro : mroOf (.type "bytearray") = pure [.type "bytearray", .type "object"] := by rw [mroOf_type]; kernel_rfl
theorem ba_lk_new : typeLookup (.type "bytearray") "__new__" = pure (some (.builtin "bytearray.__new__")) := by rw [typeLookup_type, builtinLookup_eq_fast]; kernel_rfl
theorem ba_made : Bind.madeBy (.type "bytearray") = pure (some "bytearray.__new__") := madeBy_type ba_mro ba_lk_new (by decide +kernel)
theorem ba_slot_init : Slot "bytearray" "__init__" "bytearray.__init__" :=
  .of (owner := "bytearray") (n := "__init__") (by rw [typeLookup_type, builtinLookup_eq_fast]; kernel_rfl) (by decide +kernel) (by decide +kernel) (by decide +kernel)
    (by first | exact .inl (by decide +kernel) | exact .inr (by decide +kernel)) (by rw [isSubtype_type]; kernel_rfl)
theorem ba_args_init (a : Value) : argsOk "bytearray.__init__" ⟨[a], []⟩ := by unfold argsOk; kernel_rfl
theorem ba_entry_init : entryFor table "bytearray.__init__" = some Builtin.«bytearray.__init__» := entryFor_of_tree (by kernel_rfl)
theorem ba_entry_new : entryFor table "bytearray.__new__" = some Builtin.«list.__new__» := entryFor_alias (id' := "list.__new__") (by kernel_rfl) rfl (by decide +kernel) (by kernel_rfl)
theorem ba_typeCall : checkTypeCall "bytearray" ⟨[], []⟩ = pure () := by kernel_rfl
theorem ba_newCall : checkBuiltinCall "bytearray.__new__" ⟨[.type "bytearray"], []⟩ = pure () := by kernel_rfl
theorem ba_bind0 : Builtin.Bytes.bindOptional "bytearray.__init__" "bytearray" ["source", "encoding", "errors"] [] [] = pure [none, none, none] := by kernel_rfl
theorem ba_canCreate : ((Manifest.find? "bytearray").bind (·.mro.findSome? fun t => (Manifest.find? t).bind fun b => if b.noNew then some true else if b.attrs.any (·.1 == "__new__") then some false else none)).getD false = false := by decide +kernel

theorem ba_code_new {E : Value → Heap → Prop} (q : Q (.ref h.objs.size) (h.push (baObj []))) :
    Wc (MM w) A (.call (.builtin "bytearray.__new__") ⟨[.type "bytearray"], []⟩) (fun r h' => match r with | .ok (.ret v) => Q v h' | .ok _ => False | .error e => E e h') h := by
  refine Wc_of_tree rfl ?_
  show Wp _ A.in1 (do checkBuiltinCall "bytearray.__new__" ⟨[.type "bytearray"], []⟩; again (.builtin "bytearray.__new__" ⟨[.type "bytearray"], []⟩)) _ _ _
  refine Wp_eqb ba_newCall (Wp_pure ⟨plainId_quiet (by decide +kernel) _, ?_⟩)
  refine ⟨fun s hs => ?_⟩
  subst hs
  refine codeB_of (codeAny_builtin_stack ba_entry_new rfl fun p st => ?_)
  rw [Around.under_plainId (by decide +kernel) _]
  have hsub := ba_self
  have hown : ("bytearray.__new__".splitOn ".__new__").headD "" = "bytearray" := by rw [PySem.W.split_bytearray]; rfl
  obtain ⟨hp, g, d, tk, os⟩ := s
  simp only [hown]
  wp_walk
  exact ⟨⟨rfl, rfl, rfl⟩, q⟩
theorem ba_init {E : Value → Heap → Prop} (hg : A.guards = some []) (ho : h.get? a = some (baObj [])) (q : ∀ h', (∀ b x, b ≠ a → h.get? b = some x → h'.get? b = some x) → h'.get? a = some (baObj []) → Q .none h') :
    Wp (MM w) A (Builtin.«bytearray.__init__» ⟨[.ref a], []⟩) (fun fin h' => ∃ v, fin = .done (.ret v) ∧ Q v h') E h := by
  unfold Builtin.«bytearray.__init__»
  refine Wp_bind ?_
  unfold Builtin.Bytes.ownRelease
  refine Wp_bind (Wp_of fun g d tk o => ba_owns ho (by exact ba_lk_release) (by decide +kernel) (by decide +kernel) ⟨⟨rfl, rfl, rfl⟩, Wp_pure (Wp_ff rfl ?_)⟩)
  refine Wp_eqb ba_bind0 ?_
  refine Wp_eqb (a := ()) rfl ?_
  refine Wp_eqb (a := ()) rfl ?_
  refine Wp_bind ?_
  unfold orM
  refine Wp_bind (Wp_exported hg ?_)
  show Wp _ _ (do return decide ((← Builtin.Bytes.exportsOf (.ref a)) > 0)) _ _ _
  refine Wp_bind ?_
  show Wp _ _ (do match (← load a).data with
    | .bytearray _ n => pure n
    | _ => pure 0) _ _ _
  refine Wp_bind (Wp_load ho (Wp_pure (Wp_pure (Wp_ff rfl ?_))))
  refine Wp_bind ?_
  show Wp _ _ (updateBytearray a (fun _ => #[])) _ _ _
  unfold updateBytearray
  refine Wp_bind (Wp_load ho ?_)
  show Wp _ _ (update a (Obj.mapBytearray (fun _ => #[])) >>= fun _ => lookBehind a) _ _ _
  have hn : (h.update a (Obj.mapBytearray (fun _ => #[]))).get? a = some (baObj []) := Heap.get?_update_self (Obj.mapBytearray (fun _ => #[])) ho rfl
  refine Wp_bind (Wp_of fun g d tk o => wpAny_update ho ⟨⟨rfl, rfl, rfl⟩, Wp_of fun g d tk o => wpAny_lookBehind hn ?_ ⟨⟨rfl, rfl, rfl⟩, ?_⟩⟩)
  · rfl
  · refine Wp_eqb (a := ()) rfl ?_
    exact Wp_pure ⟨_, rfl, q _ (fun b x hne e => (Heap.get?_update_other _ _ (Ne.symm hne)).trans e) hn⟩
theorem ba_new {E : Value → Heap → Prop} (hg : A.guards = some []) (S : St w hw h₀ L h m led) (q : ∀ b h', St w hw h₀ L h' m ((b, baObj []) :: led) → Q (.ref b) h') : Wp (MM w) A (call (.type "bytearray") [] []) Q E h := by
  refine Wp_call (Wc_of_tree rfl ?_)
  show Wp _ A.in1 (again (.builtin "type.__call__" ⟨[.type "bytearray"], []⟩)) _ _ _
  refine Wp_pure ⟨Code.quiet_builtin _ (by decide +kernel), Wc_builtin' (Around.under_plain (weight_type_call_type "bytearray" [] []) (units_type_call_type "bytearray" [] [])) (by decide +kernel) F.entry_type_call ?_⟩
  unfold Builtin.«type.__call__»
  dsimp only
  refine Wp_ff (by decide +kernel) ?_
  rw [ba_canCreate]
  refine Wp_ff rfl ?_
  rw [ba_typeCall]
  refine Wp_eqb (a := ()) rfl (Wp_eqb ba_mro (Wp_ff rfl (Wp_eqb ba_made ?_)))
  refine Wp_eqb (a := Value.builtin "bytearray.__new__") rfl (Wp_bind (Wp_holding (Wp_call (ba_code_new ?_))))
  have hn : (h.push (baObj [])).get? h.objs.size = some (baObj []) := Heap.get?_push_size _ rfl
  refine Wp_bind (Wp_isInstance (typ_at hn rfl) ba_self (Wp_ff rfl (Wp_bind (Wp_holding ?_))))
  unfold callSpecial?
  refine Wp_bind (Wp_specialOf (typ_at hn rfl) ba_slot_init.lookup ?_)
  refine Wp_holding (Wp_eqb (ba_slot_init.bind _) (Wp_bind (Wp_call (Wc_call_builtin (id := "bytearray.__init__") ba_slot_init.plain (by decide +kernel) ba_entry_init ?_ ?_))))
  · exact fun A' Q' E' q => Wp_of fun g d tk o => ba_slot_init.check _ _ _ _ (.ref h.objs.size) [] [] _ ⟨_, hn, rfl⟩ (ba_args_init _) ⟨⟨rfl, rfl, rfl⟩, q⟩
  · refine Wp_mono (ba_init (Q := fun v h' => v = .none ∧ Q (.ref h.objs.size) h') (E := NoE) hg hn fun h' k1 k2 => ⟨rfl, q _ _ (St.upd (S.push (baObj []) rfl) .head k1 k2)⟩) (fun fin h' x => ?_) fun _ _ e => e.elim
    obtain ⟨v, rfl, rfl, x⟩ := x
    exact Wp_pure (Wp_ff rfl (Wp_pure x))
end

end
section
open PySem PySem.W PyProof.Rows PySem.Calls PySem.Spec PySem.SeqAt
set_option Elab.async false
set_option linter.unusedVariables false
set_option maxRecDepth 100000

/- what a value is, as far down as this law compares -/
inductive Dv where
  | none
  | bool (b : Bool)
  | int (i : Int)
  | bytes (l : List UInt8)
  | tup (ds : List Dv)
  | lst (ds : List Dv)

mutual
noncomputable def Dv.eqv : Dv → Dv → Bool
  | .none, .none => true
  | .bool a, .bool b => a == b
  | .bool a, .int b => (if a then 1 else 0) == b
  | .int a, .bool b => a == (if b then 1 else 0)
  | .int a, .int b => a == b
  | .bytes a, .bytes b => a == b
  | .tup a, .tup b => eqvL a b
  | .lst a, .lst b => eqvL a b
  | _, _ => false
noncomputable def Dv.eqvL : List Dv → List Dv → Bool
  | [], [] => true
  | a :: r, b :: t => Dv.eqv a b && Dv.eqvL r t
  | _, _ => false
end
mutual
noncomputable def Dv.flat : Dv → Nat → Bool
  | .tup ds, n + 1 => Dv.flatL ds n
  | .lst ds, n + 1 => Dv.flatL ds n
  | .tup _, 0 => false
  | .lst _, 0 => false
  | _, _ => true
noncomputable def Dv.flatL : List Dv → Nat → Bool
  | [], _ => true
  | d :: r, n => Dv.flat d n && Dv.flatL r n
end

inductive Rd (h : Heap) : Value → Dv → Prop where
  | none : Rd h .none .none
  | bool (b) : Rd h (.bool b) (.bool b)
  | int (i t) : Rd h (.int i t) (.int i)
  | bytes (l : List UInt8) (t) : Rd h (.bytes l.toArray t) (.bytes l)
  | tup {a : Addr} {o : Obj} {vs : List Value} {ds : List Dv} (ho : h.get? a = some o) (hv : OTup o vs) (hn : vs.length = ds.length) (hr : ∀ (j : Nat) (v : Value) (d : Dv), vs[j]? = some v → ds[j]? = some d → Rd h v d) : Rd h (.ref a) (.tup ds)
  | lst {a : Addr} {o : Obj} {vs : List Value} {ds : List Dv} (ho : h.get? a = some o) (hv : OLst o vs) (hn : vs.length = ds.length) (hr : ∀ (j : Nat) (v : Value) (d : Dv), vs[j]? = some v → ds[j]? = some d → Rd h v d) : Rd h (.ref a) (.lst ds)

section
variable {A : Around} {s : Shared}
theorem cl0 {a n : Nat} (h : a + n + 1 < cLine) : a < cLine := by lia
theorem clS {a n : Nat} (h : a + (n + 1) + 1 < cLine) : a + 1 + n + 1 < cLine := by lia
theorem eqAt_of_rc {v u : Value} {b : Bool} (hne : (v == u) = false) (hf : ∀ y t, v ≠ .float y t) (hx : RcAt A s v u b) : EqAt A s v u b := fun prog w E Q h => by
  unfold eqBool
  refine wpAny_holding ?_
  rw [if_neg (by rw [hne]; exact Bool.false_ne_true)]
  cases v with
  | float y t => exact absurd rfl (hf y t)
  | _ => exact wpAny_bind (hx prog w E _ (wpAny_truthy_bool h))

theorem no_bytes_eq {l : List UInt8} {t : Tok} : Gives (Builtin.«NoneType.__eq__» ⟨[.none, .bytes l.toArray t], []⟩) (.val .notImplemented) := .of_eq rfl
theorem no_bytes_ne {l : List UInt8} {t : Tok} : Gives (Builtin.«NoneType.__ne__» ⟨[.none, .bytes l.toArray t], []⟩) (.val .notImplemented) := .of_eq rfl
theorem int_bytes_eq {l : List UInt8} {t : Tok} {i : Int} {u : Tok} : Gives (Builtin.«int.__eq__» ⟨[.int i u, .bytes l.toArray t], []⟩) (.val .notImplemented) := .of_wp fun M A E s Q h => by obtain ⟨hp, g, d, tk, os⟩ := s; wp_walk; exact ⟨_, rfl, h⟩
theorem int_bytes_ne {l : List UInt8} {t : Tok} {i : Int} {u : Tok} : Gives (Builtin.«int.__ne__» ⟨[.int i u, .bytes l.toArray t], []⟩) (.val .notImplemented) := .of_wp fun M A E s Q h => by obtain ⟨hp, g, d, tk, os⟩ := s; wp_walk; exact ⟨_, rfl, h⟩
theorem bool_bytes_eq {l : List UInt8} {t : Tok} {i : Bool} : Gives (Builtin.«int.__eq__» ⟨[.bool i, .bytes l.toArray t], []⟩) (.val .notImplemented) := .of_wp fun M A E s Q h => by obtain ⟨hp, g, d, tk, os⟩ := s; wp_walk; exact ⟨_, rfl, h⟩
theorem bool_bytes_ne {l : List UInt8} {t : Tok} {i : Bool} : Gives (Builtin.«int.__ne__» ⟨[.bool i, .bytes l.toArray t], []⟩) (.val .notImplemented) := .of_wp fun M A E s Q h => by obtain ⟨hp, g, d, tk, os⟩ := s; wp_walk; exact ⟨_, rfl, h⟩
theorem sub_no_by : isSubtype (.type "NoneType") (.type "bytes") = pure false := by rw [isSubtype_type]; kernel_rfl
theorem sub_int_by : isSubtype (.type "int") (.type "bytes") = pure false := by rw [isSubtype_type]; kernel_rfl
theorem sub_bool_by : isSubtype (.type "bool") (.type "bytes") = pure false := by rw [isSubtype_type]; kernel_rfl
theorem sub_by_no : isSubtype (.type "bytes") (.type "NoneType") = pure false := by rw [isSubtype_type]; kernel_rfl
theorem sub_by_int : isSubtype (.type "bytes") (.type "int") = pure false := by rw [isSubtype_type]; kernel_rfl
theorem sub_by_bool : isSubtype (.type "bytes") (.type "bool") = pure false := by rw [isSubtype_type]; kernel_rfl
theorem by_eq_no {l : List UInt8} {t : Tok} {v : Value} (hi : isInstance v (.type "bytes") = pure false) : Gives (Builtin.«bytes.__eq__» ⟨[.bytes l.toArray t, v], []⟩) (.val .notImplemented) := by
  refine .of_wp fun M A E s Q hq => ?_
  show wpAny M A (isInstance v (.type "bytes") >>= fun r => _) _ E s
  exact wpAny_bind (wpAny_of_eq hi (wpAny_bind (wpAny_rule (wpAny_pure ⟨_, rfl, hq⟩))))
theorem by_ne_no {l : List UInt8} {t : Tok} {v : Value} (hi : isInstance v (.type "bytes") = pure false) : Gives (Builtin.«bytes.__ne__» ⟨[.bytes l.toArray t, v], []⟩) (.val .notImplemented) := by
  refine .of_wp fun M A E s Q hq => ?_
  show wpAny M A (isInstance v (.type "bytes") >>= fun r => _) _ E s
  exact wpAny_bind (wpAny_of_eq hi (wpAny_bind (wpAny_rule (wpAny_pure ⟨_, rfl, hq⟩))))
theorem inst_no : isInstance .none (.type "bytes") = pure false := sub_no_by
theorem inst_int {i : Int} {t : Tok} : isInstance (.int i t) (.type "bytes") = pure false := sub_int_by
theorem inst_bool {i : Bool} : isInstance (.bool i) (.type "bytes") = pure false := sub_bool_by

theorem rc_none_bytes {l : List UInt8} {t : Tok} : RcAt A s .none (.bytes l.toArray t) false := fun prog w E Q h =>
  rc_eq_decline_or (k := false) rfl (typeIs_bytes s _ t) (by decide) sub_by_no F.slot_NoneType_eq FB.slot_bytes_eq
    (fun _ hq => call_gives F.slot_NoneType_eq rfl F.entry_NoneType_eq (F.args_NoneType_eq_2 _ _) no_bytes_eq hq)
    (fun _ hq => call_gives FB.slot_bytes_eq (typeIs_bytes s _ t) FB.entry_bytes_eq (FB.args_bytes_eq_2 _ _) (by_eq_no inst_no) hq)
    (fun _ hq => wpAny_of_eq (rfl : isSame .none (.bytes l.toArray t) = pure false) hq) (.inl rfl) h
theorem rc_bytes_none {l : List UInt8} {t : Tok} : RcAt A s (.bytes l.toArray t) .none false := fun prog w E Q h =>
  rc_eq_decline_or (k := false) (typeIs_bytes s _ t) rfl (by decide) sub_no_by FB.slot_bytes_eq F.slot_NoneType_eq_refl
    (fun _ hq => call_gives FB.slot_bytes_eq (typeIs_bytes s _ t) FB.entry_bytes_eq (FB.args_bytes_eq_2 _ _) (by_eq_no inst_no) hq)
    (fun _ hq => call_gives F.slot_NoneType_eq_refl rfl F.entry_NoneType_eq (F.args_NoneType_eq_2 _ _) no_bytes_eq hq)
    (fun _ hq => wpAny_of_eq (rfl : isSame (.bytes l.toArray t) .none = pure false) hq) (.inl rfl) h
theorem rc_int_bytes {l : List UInt8} {t : Tok} {i : Int} {u : Tok} : RcAt A s (.int i u) (.bytes l.toArray t) false := fun prog w E Q h =>
  rc_eq_decline_or (k := false) (typeIs_int s i u) (typeIs_bytes s _ t) (by decide) sub_by_int F.slot_int_eq FB.slot_bytes_eq
    (fun _ hq => call_gives F.slot_int_eq (typeIs_int s i u) F.entry_int_eq (F.args_int_eq_2 _ _) int_bytes_eq hq)
    (fun _ hq => call_gives FB.slot_bytes_eq (typeIs_bytes s _ t) FB.entry_bytes_eq (FB.args_bytes_eq_2 _ _) (by_eq_no inst_int) hq)
    (fun _ hq => wpAny_of_eq (rfl : isSame (.int i u) (.bytes l.toArray t) = pure false) hq) (.inl rfl) h
theorem rc_bytes_int {l : List UInt8} {t : Tok} {i : Int} {u : Tok} : RcAt A s (.bytes l.toArray t) (.int i u) false := fun prog w E Q h =>
  rc_eq_decline_or (k := false) (typeIs_bytes s _ t) (typeIs_int s i u) (by decide) sub_int_by FB.slot_bytes_eq F.slot_int_eq_refl
    (fun _ hq => call_gives FB.slot_bytes_eq (typeIs_bytes s _ t) FB.entry_bytes_eq (FB.args_bytes_eq_2 _ _) (by_eq_no inst_int) hq)
    (fun _ hq => call_gives F.slot_int_eq_refl (typeIs_int s i u) F.entry_int_eq (F.args_int_eq_2 _ _) int_bytes_eq hq)
    (fun _ hq => wpAny_of_eq (rfl : isSame (.bytes l.toArray t) (.int i u) = pure false) hq) (.inl rfl) h
theorem rc_bool_bytes {l : List UInt8} {t : Tok} {i : Bool} : RcAt A s (.bool i) (.bytes l.toArray t) false := fun prog w E Q h =>
  rc_eq_decline_or (k := false) rfl (typeIs_bytes s _ t) (by decide) sub_by_bool F.slot_bool_eq FB.slot_bytes_eq
    (fun _ hq => call_gives F.slot_bool_eq rfl F.entry_int_eq (F.args_int_eq_2 _ _) bool_bytes_eq hq)
    (fun _ hq => call_gives FB.slot_bytes_eq (typeIs_bytes s _ t) FB.entry_bytes_eq (FB.args_bytes_eq_2 _ _) (by_eq_no inst_bool) hq)
    (fun _ hq => wpAny_of_eq (rfl : isSame (.bool i) (.bytes l.toArray t) = pure false) hq) (.inl rfl) h
theorem rc_bytes_bool {l : List UInt8} {t : Tok} {i : Bool} : RcAt A s (.bytes l.toArray t) (.bool i) false := fun prog w E Q h =>
  rc_eq_decline_or (k := false) (typeIs_bytes s _ t) rfl (by decide) sub_bool_by FB.slot_bytes_eq F.slot_bool_eq_refl
    (fun _ hq => call_gives FB.slot_bytes_eq (typeIs_bytes s _ t) FB.entry_bytes_eq (FB.args_bytes_eq_2 _ _) (by_eq_no inst_bool) hq)
    (fun _ hq => call_gives F.slot_bool_eq_refl rfl F.entry_int_eq (F.args_int_eq_2 _ _) bool_bytes_eq hq)
    (fun _ hq => wpAny_of_eq (rfl : isSame (.bytes l.toArray t) (.bool i) = pure false) hq) (.inl rfl) h
theorem rn_none_bytes {l : List UInt8} {t : Tok} : RcNeAt A s .none (.bytes l.toArray t) true := fun prog w E Q h =>
  rc_ne_decline_or (k := false) rfl (typeIs_bytes s _ t) (by decide) sub_by_no F.slot_NoneType_ne FB.slot_bytes_ne
    (fun _ hq => call_gives F.slot_NoneType_ne rfl F.entry_NoneType_ne (F.args_NoneType_ne_2 _ _) no_bytes_ne hq)
    (fun _ hq => call_gives FB.slot_bytes_ne (typeIs_bytes s _ t) FB.entry_bytes_ne (FB.args_bytes_ne_2 _ _) (by_ne_no inst_no) hq)
    (fun _ hq => wpAny_of_eq (rfl : isSame .none (.bytes l.toArray t) = pure false) hq) (.inl rfl) h
theorem rn_bytes_none {l : List UInt8} {t : Tok} : RcNeAt A s (.bytes l.toArray t) .none true := fun prog w E Q h =>
  rc_ne_decline_or (k := false) (typeIs_bytes s _ t) rfl (by decide) sub_no_by FB.slot_bytes_ne F.slot_NoneType_ne_refl
    (fun _ hq => call_gives FB.slot_bytes_ne (typeIs_bytes s _ t) FB.entry_bytes_ne (FB.args_bytes_ne_2 _ _) (by_ne_no inst_no) hq)
    (fun _ hq => call_gives F.slot_NoneType_ne_refl rfl F.entry_NoneType_ne (F.args_NoneType_ne_2 _ _) no_bytes_ne hq)
    (fun _ hq => wpAny_of_eq (rfl : isSame (.bytes l.toArray t) .none = pure false) hq) (.inl rfl) h
theorem rn_int_bytes {l : List UInt8} {t : Tok} {i : Int} {u : Tok} : RcNeAt A s (.int i u) (.bytes l.toArray t) true := fun prog w E Q h =>
  rc_ne_decline_or (k := false) (typeIs_int s i u) (typeIs_bytes s _ t) (by decide) sub_by_int F.slot_int_ne FB.slot_bytes_ne
    (fun _ hq => call_gives F.slot_int_ne (typeIs_int s i u) F.entry_int_ne (F.args_int_ne_2 _ _) int_bytes_ne hq)
    (fun _ hq => call_gives FB.slot_bytes_ne (typeIs_bytes s _ t) FB.entry_bytes_ne (FB.args_bytes_ne_2 _ _) (by_ne_no inst_int) hq)
    (fun _ hq => wpAny_of_eq (rfl : isSame (.int i u) (.bytes l.toArray t) = pure false) hq) (.inl rfl) h
theorem rn_bytes_int {l : List UInt8} {t : Tok} {i : Int} {u : Tok} : RcNeAt A s (.bytes l.toArray t) (.int i u) true := fun prog w E Q h =>
  rc_ne_decline_or (k := false) (typeIs_bytes s _ t) (typeIs_int s i u) (by decide) sub_int_by FB.slot_bytes_ne F.slot_int_ne_refl
    (fun _ hq => call_gives FB.slot_bytes_ne (typeIs_bytes s _ t) FB.entry_bytes_ne (FB.args_bytes_ne_2 _ _) (by_ne_no inst_int) hq)
    (fun _ hq => call_gives F.slot_int_ne_refl (typeIs_int s i u) F.entry_int_ne (F.args_int_ne_2 _ _) int_bytes_ne hq)
    (fun _ hq => wpAny_of_eq (rfl : isSame (.bytes l.toArray t) (.int i u) = pure false) hq) (.inl rfl) h
theorem rn_bool_bytes {l : List UInt8} {t : Tok} {i : Bool} : RcNeAt A s (.bool i) (.bytes l.toArray t) true := fun prog w E Q h =>
  rc_ne_decline_or (k := false) rfl (typeIs_bytes s _ t) (by decide) sub_by_bool F.slot_bool_ne FB.slot_bytes_ne
    (fun _ hq => call_gives F.slot_bool_ne rfl F.entry_int_ne (F.args_int_ne_2 _ _) bool_bytes_ne hq)
    (fun _ hq => call_gives FB.slot_bytes_ne (typeIs_bytes s _ t) FB.entry_bytes_ne (FB.args_bytes_ne_2 _ _) (by_ne_no inst_bool) hq)
    (fun _ hq => wpAny_of_eq (rfl : isSame (.bool i) (.bytes l.toArray t) = pure false) hq) (.inl rfl) h
theorem rn_bytes_bool {l : List UInt8} {t : Tok} {i : Bool} : RcNeAt A s (.bytes l.toArray t) (.bool i) true := fun prog w E Q h =>
  rc_ne_decline_or (k := false) (typeIs_bytes s _ t) rfl (by decide) sub_bool_by FB.slot_bytes_ne F.slot_bool_ne_refl
    (fun _ hq => call_gives FB.slot_bytes_ne (typeIs_bytes s _ t) FB.entry_bytes_ne (FB.args_bytes_ne_2 _ _) (by_ne_no inst_bool) hq)
    (fun _ hq => call_gives F.slot_bool_ne_refl rfl F.entry_int_ne (F.args_int_ne_2 _ _) bool_bytes_ne hq)
    (fun _ hq => wpAny_of_eq (rfl : isSame (.bytes l.toArray t) (.bool i) = pure false) hq) (.inl rfl) h
theorem eqAt_bytes {l k : List UInt8} {t u : Tok} : EqAt A s (.bytes l.toArray t) (.bytes k.toArray u) (l == k) := fun prog w E Q h => by
  unfold eqBool
  refine wpAny_holding (wpAny_ite_split (fun hab => ?_) fun _ => ?_)
  · have e := eq_of_beq hab
    injection e with e1 e2
    have : l = k := by simpa using e1
    subst this
    exact wpAny_bind (wpAny_rule (wpAny_pure (by simpa using h)))
  · exact wpAny_bind (compareOp_gives (op := .Eq) (typeIs_bytes s _ t) (typeIs_bytes s _ u) FB.slot_bytes_eq FB.entry_bytes_eq (FB.args_bytes_eq_2 _ _) (gives_bytes_eq l.toArray k.toArray t u) (fun e => nomatch e) (wpAny_truthy_bool h))

mutual
noncomputable def Dv.cmpOk : Dv → Dv → Bool
  | .bytes _, .tup _ => false
  | .bytes _, .lst _ => false
  | .tup _, .bytes _ => false
  | .lst _, .bytes _ => false
  | .tup a, .tup b => Dv.cmpOkL a b
  | .lst a, .lst b => Dv.cmpOkL a b
  | _, _ => true
noncomputable def Dv.cmpOkL : List Dv → List Dv → Bool
  | a :: r, b :: t => Dv.cmpOk a b && Dv.cmpOkL r t
  | _, _ => true
end
theorem flatL_at : ∀ {ds : List Dv} {n : Nat}, Dv.flatL ds n = true → ∀ (j : Nat) (d : Dv), ds[j]? = some d → Dv.flat d n = true
  | [], _, _, j, d, hj => by simp at hj
  | a :: r, n, h, j, d, hj => by
    have h : (Dv.flat a n && Dv.flatL r n) = true := h
    obtain ⟨h1, h2⟩ := Bool.and_eq_true_iff.mp h
    cases j with
    | zero => cases hj; exact h1
    | succ j => exact flatL_at h2 j d hj
theorem cmpOkL_at : ∀ {ds es : List Dv}, Dv.cmpOkL ds es = true → ∀ (j : Nat) (d e : Dv), ds[j]? = some d → es[j]? = some e → Dv.cmpOk d e = true
  | [], _, _, j, d, e, hj, _ => by simp at hj
  | a :: r, [], _, j, d, e, _, hj => by simp at hj
  | a :: r, b :: t, h, j, d, e, hj, hk => by
    have h : (Dv.cmpOk a b && Dv.cmpOkL r t) = true := h
    obtain ⟨h1, h2⟩ := Bool.and_eq_true_iff.mp h
    cases j with
    | zero => cases hj; cases hk; exact h1
    | succ j => exact cmpOkL_at h2 j d e hj hk
theorem eqvL_all : ∀ {ds es : List Dv} {f : Nat → Bool}, (∀ (j : Nat) (d e : Dv), ds[j]? = some d → es[j]? = some e → f j = Dv.eqv d e) → ((List.range (min ds.length es.length)).all f && ds.length == es.length) = Dv.eqvL ds es
  | [], [], _, _ => rfl
  | [], _ :: _, _, _ => rfl
  | _ :: _, [], _, _ => Bool.and_false _
  | a :: r, b :: t, f, h => by
    have ih := eqvL_all (ds := r) (es := t) (f := fun j => f (j + 1)) fun j d e hj hk => h (j + 1) d e hj hk
    have h0 := h 0 a b rfl rfl
    show _ = (Dv.eqv a b && Dv.eqvL r t)
    rw [← ih, ← h0, List.length_cons, List.length_cons, Nat.succ_min_succ, List.range_succ_eq_map, List.all_cons, List.all_map]
    have e1 : ((r.length + 1 : Nat) == t.length + 1) = (r.length == t.length) := by simp
    rw [e1, Bool.and_assoc]
    rfl
theorem OTup.inj {o : Obj} {vs us : List Value} (a : OTup o vs) (b : OTup o us) : vs = us := by
  obtain ⟨n, rfl⟩ := a; obtain ⟨k, e⟩ := b
  injection e with _ _ e _; injection e with e _; simpa using e
theorem OLst.inj {o : Obj} {vs us : List Value} (a : OLst o vs) (b : OLst o us) : vs = us := by
  obtain ⟨n, rfl⟩ := a; obtain ⟨k, e⟩ := b
  injection e with _ _ e _; injection e with e _; simpa using e
theorem OTup.not_lst {o : Obj} {vs us : List Value} (a : OTup o vs) (b : OLst o us) : False := by
  obtain ⟨n, rfl⟩ := a; obtain ⟨k, e⟩ := b
  injection e with e; injection e with e; exact absurd e (by decide)
theorem eqvL_of {ds es : List Dv} (hl : ds.length = es.length) (h : ∀ (j : Nat) (d e : Dv), ds[j]? = some d → es[j]? = some e → Dv.eqv d e = true) : Dv.eqvL ds es = true := by
  rw [← eqvL_all (f := fun _ => true) fun j d e hj hk => (h j d e hj hk).symm]
  simp [hl]
theorem Rd.det {h : Heap} {v : Value} {d : Dv} (ra : Rd h v d) : ∀ {e : Dv}, Rd h v e → d.eqv e = true := by
  induction ra with
  | none => intro e rb; cases rb; rfl
  | bool a => intro e rb; cases rb; exact beq_self_eq_true a
  | int a t => intro e rb; cases rb; exact beq_self_eq_true a
  | bytes a t =>
    intro e rb
    generalize hx : Value.bytes a.toArray t = x at rb
    cases rb with
    | bytes l u => injection hx with h1 _; have : a = l := by simpa using h1
                   subst this; exact beq_self_eq_true a
    | _ => cases hx
  | @tup a0 o0 vs0 ds0 ho hv hn hr ih =>
    intro e rb
    cases rb with
    | tup ho' hv' hn' hr' =>
      rw [ho] at ho'; cases ho'
      cases hv.inj hv'
      refine eqvL_of (hn.symm.trans hn') fun j d e hj hk => ?_
      have hv := List.getElem?_eq_getElem (l := vs0) (i := j) (by rw [hn]; exact (List.getElem?_eq_some_iff.mp hj).1)
      exact ih j _ d hv hj (hr' j _ e hv hk)
    | lst ho' hv' hn' hr' => rw [ho] at ho'; cases ho'; exact (hv.not_lst hv').elim
  | @lst a0 o0 vs0 ds0 ho hv hn hr ih =>
    intro e rb
    cases rb with
    | lst ho' hv' hn' hr' =>
      rw [ho] at ho'; cases ho'
      cases hv.inj hv'
      refine eqvL_of (hn.symm.trans hn') fun j d e hj hk => ?_
      have hv := List.getElem?_eq_getElem (l := vs0) (i := j) (by rw [hn]; exact (List.getElem?_eq_some_iff.mp hj).1)
      exact ih j _ d hv hj (hr' j _ e hv hk)
    | tup ho' hv' hn' hr' => rw [ho] at ho'; cases ho'; exact (hv'.not_lst hv).elim
theorem items_at {vs : List Value} {j : Nat} (h1 : j < vs.toArray.size) : vs[j]? = some vs.toArray[j] := by
  have : j < vs.length := by simpa using h1
  rw [List.getElem?_eq_getElem this]; simp
theorem seq_all {h : Heap} {vs us : List Value} {ds es : List Dv} {A : Around} {s : Shared} (hn : vs.length = ds.length) (hn' : us.length = es.length)
    (he : ∀ (j : Nat) (v u : Value) (d e : Dv), vs[j]? = some v → us[j]? = some u → ds[j]? = some d → es[j]? = some e → EqAt A.in1 s v u (d.eqv e)) :
    ∃ f : Nat → Bool, (∀ j (h1 : j < vs.toArray.size) (h2 : j < us.toArray.size), EqAt A.in1 s vs.toArray[j] us.toArray[j] (f j)) ∧ ((List.range (min vs.toArray.size us.toArray.size)).all f && vs.toArray.size == us.toArray.size) = Dv.eqvL ds es := by
  refine ⟨fun j => match ds[j]?, es[j]? with | some d, some e => d.eqv e | _, _ => true, fun j h1 h2 => ?_, ?_⟩
  · have l1 : j < ds.length := by rw [← hn]; simpa using h1
    have l2 : j < es.length := by rw [← hn']; simpa using h2
    have e1 := List.getElem?_eq_getElem l1
    have e2 := List.getElem?_eq_getElem l2
    dsimp only
    rw [e1, e2]
    exact he j _ _ _ _ (items_at h1) (items_at h2) e1 e2
  · rw [List.size_toArray, List.size_toArray, hn, hn']
    exact eqvL_all fun j d e hj hk => by rw [hj, hk]
theorem Rd.eqAt {h : Heap} {v : Value} {d : Dv} (ra : Rd h v d) : ∀ {u : Value} {e : Dv} {A : Around} {s : Shared} {n : Nat}, s.heap = h → Rd h u e → d.cmpOk e = true → d.flat n = true → A.units + n + 1 < cLine → EqAt A s v u (d.eqv e) := by
  induction ra with
  | none =>
    intro u e A s n hs rb ok fl hu
    subst hs
    cases rb with
    | none => exact EqAt.same .none
    | bool b => exact EqAt.none_bool b
    | int i t => exact EqAt.none_int i t
    | bytes l t => exact eqAt_of_rc rfl (fun _ _ e => nomatch e) rc_none_bytes
    | tup ho hv hn hr => exact EqAt.none_tuple (hv.at ho) (cl0 hu)
    | lst ho hv hn hr => exact EqAt.none_list (hv.at ho) (cl0 hu)
  | bool a =>
    intro u e A s n hs rb ok fl hu
    subst hs
    cases rb with
    | none => exact EqAt.bool_none a
    | bool b => exact EqAt.bool_bool a b
    | int i t => exact EqAt.bool_int a i t
    | bytes l t => exact eqAt_of_rc rfl (fun _ _ e => nomatch e) rc_bool_bytes
    | tup ho hv hn hr => exact EqAt.bool_tuple a (hv.at ho) (cl0 hu)
    | lst ho hv hn hr => exact EqAt.bool_list a (hv.at ho) (cl0 hu)
  | int a ta =>
    intro u e A s n hs rb ok fl hu
    subst hs
    cases rb with
    | none => exact EqAt.int_none a ta
    | bool b => exact EqAt.int_bool a ta b
    | int i t => exact EqAt.int_int a ta i t
    | bytes l t => exact eqAt_of_rc rfl (fun _ _ e => nomatch e) rc_int_bytes
    | tup ho hv hn hr => exact EqAt.int_tuple a ta (hv.at ho) (cl0 hu)
    | lst ho hv hn hr => exact EqAt.int_list a ta (hv.at ho) (cl0 hu)
  | bytes a ta =>
    intro u e A s n hs rb ok fl hu
    subst hs
    cases rb with
    | none => exact eqAt_of_rc rfl (fun _ _ e => nomatch e) rc_bytes_none
    | bool b => exact eqAt_of_rc rfl (fun _ _ e => nomatch e) rc_bytes_bool
    | int i t => exact eqAt_of_rc rfl (fun _ _ e => nomatch e) rc_bytes_int
    | bytes l t => exact eqAt_bytes
    | tup ho hv hn hr => cases ok
    | lst ho hv hn hr => cases ok
  | @tup a o vs ds ho hv hn hr ih =>
    intro u e A s n hs rb ok fl hu
    subst hs
    cases rb with
    | none => exact EqAt.tuple_none (hv.at ho) (cl0 hu)
    | bool b => exact EqAt.tuple_bool b (hv.at ho) (cl0 hu)
    | int i t => exact EqAt.tuple_int i t (hv.at ho) (cl0 hu)
    | bytes l t => cases ok
    | @tup b o' us es ho' hv' hn' hr' =>
      cases n with
      | zero => cases fl
      | succ n =>
        by_cases hab : a = b
        · subst hab
          rw [Rd.det (.tup ho hv hn hr) (.tup ho' hv' hn' hr')]
          exact EqAt.same _
        · obtain ⟨f, hf, ef⟩ := seq_all (h := s.heap) (A := A) (s := s) hn hn' fun j v u d e h1 h2 h3 h4 =>
            ih j v d h1 h3 (n := n) rfl (hr' j u e h2 h4) (cmpOkL_at ok j d e h3 h4) (flatL_at fl j d h3) (clS hu)
          show EqAt A s (.ref a) (.ref b) (Dv.eqvL ds es)
          rw [← ef]
          exact EqAt.of_refs hab (RcAt.tuples (hv.at ho) (hv'.at ho') (cl0 hu) hf)
    | lst ho' hv' hn' hr' => exact EqAt.tuple_list (hv.at ho) (hv'.at ho') (cl0 hu)
  | @lst a o vs ds ho hv hn hr ih =>
    intro u e A s n hs rb ok fl hu
    subst hs
    cases rb with
    | none => exact EqAt.list_none (hv.at ho) (cl0 hu)
    | bool b => exact EqAt.list_bool b (hv.at ho) (cl0 hu)
    | int i t => exact EqAt.list_int i t (hv.at ho) (cl0 hu)
    | bytes l t => cases ok
    | tup ho' hv' hn' hr' => exact EqAt.list_tuple (hv.at ho) (hv'.at ho') (cl0 hu)
    | @lst b o' us es ho' hv' hn' hr' =>
      cases n with
      | zero => cases fl
      | succ n =>
        by_cases hab : a = b
        · subst hab
          rw [Rd.det (.lst ho hv hn hr) (.lst ho' hv' hn' hr')]
          exact EqAt.same _
        · obtain ⟨f, hf, ef⟩ := seq_all (h := s.heap) (A := A) (s := s) hn hn' fun j v u d e h1 h2 h3 h4 =>
            ih j v d h1 h3 (n := n) rfl (hr' j u e h2 h4) (cmpOkL_at ok j d e h3 h4) (flatL_at fl j d h3) (clS hu)
          show EqAt A s (.ref a) (.ref b) (Dv.eqvL ds es)
          rw [← ef]
          by_cases hl : vs.toArray.size = us.toArray.size
          · have : (vs.toArray.size == us.toArray.size) = true := by simp [hl]
            rw [this, Bool.and_true, ← hl, Nat.min_self]
            exact EqAt.of_refs hab (RcAt.lists (hv.at ho) (hv'.at ho') hl (cl0 hu) hf)
          · have : (vs.toArray.size == us.toArray.size) = false := by simpa using hl
            rw [this, Bool.and_false]
            exact EqAt.of_refs hab (RcAt.lists_lengths (hv.at ho) (hv'.at ho') (by simpa using hl) (cl0 hu))
/- equality and inequality as a comparison -/
theorem Rd.rcEq {h : Heap} {v : Value} {d : Dv} (ra : Rd h v d) {u : Value} {e : Dv} {A : Around} {s : Shared} {n : Nat} (hs : s.heap = h) (rb : Rd h u e) (ok : d.cmpOk e = true) (fl : d.flat n = true) (hu : A.units + n + 1 < cLine) : RcAt A s v u (d.eqv e) := by
  subst hs
  cases ra with
  | none =>
    cases rb with
    | none => exact RcAt.none_none
    | bool b => exact RcAt.none_bool b
    | int i t => exact RcAt.none_int i t
    | bytes l t => exact rc_none_bytes
    | tup ho hv hn hr => exact RcAt.none_tuple (hv.at ho) (cl0 hu)
    | lst ho hv hn hr => exact RcAt.none_list (hv.at ho) (cl0 hu)
  | bool a =>
    cases rb with
    | none => exact RcAt.bool_none a
    | bool b => exact RcAt.bool_bool a b
    | int i t => exact RcAt.bool_int a i t
    | bytes l t => exact rc_bool_bytes
    | tup ho hv hn hr => exact RcAt.bool_tuple a (hv.at ho) (cl0 hu)
    | lst ho hv hn hr => exact RcAt.bool_list a (hv.at ho) (cl0 hu)
  | int a ta =>
    cases rb with
    | none => exact RcAt.int_none a ta
    | bool b => exact RcAt.int_bool a ta b
    | int i t => exact RcAt.int_int a ta i t
    | bytes l t => exact rc_int_bytes
    | tup ho hv hn hr => exact RcAt.int_tuple a ta (hv.at ho) (cl0 hu)
    | lst ho hv hn hr => exact RcAt.int_list a ta (hv.at ho) (cl0 hu)
  | bytes a ta =>
    cases rb with
    | none => exact rc_bytes_none
    | bool b => exact rc_bytes_bool
    | int i t => exact rc_bytes_int
    | bytes l t => exact fun prog w E Q h => compareOp_gives (op := .Eq) (typeIs_bytes s _ ta) (typeIs_bytes s _ t) FB.slot_bytes_eq FB.entry_bytes_eq (FB.args_bytes_eq_2 _ _) (gives_bytes_eq a.toArray l.toArray ta t) (fun e => nomatch e) h
    | tup ho hv hn hr => cases ok
    | lst ho hv hn hr => cases ok
  | @tup a o vs ds ho hv hn hr =>
    cases rb with
    | none => exact RcAt.tuple_none (hv.at ho) (cl0 hu)
    | bool b => exact RcAt.tuple_bool b (hv.at ho) (cl0 hu)
    | int i t => exact RcAt.tuple_int i t (hv.at ho) (cl0 hu)
    | bytes l t => cases ok
    | @tup b o' us es ho' hv' hn' hr' =>
      cases n with
      | zero => cases fl
      | succ n =>
        obtain ⟨f, hf, ef⟩ := seq_all (h := s.heap) (A := A) (s := s) hn hn' fun j v u d e h1 h2 h3 h4 =>
          (hr j v d h1 h3).eqAt (n := n) rfl (hr' j u e h2 h4) (cmpOkL_at ok j d e h3 h4) (flatL_at fl j d h3) (clS hu)
        show RcAt A s (.ref a) (.ref b) (Dv.eqvL ds es)
        rw [← ef]
        exact RcAt.tuples (hv.at ho) (hv'.at ho') (cl0 hu) hf
    | lst ho' hv' hn' hr' => exact RcAt.tuple_list (hv.at ho) (hv'.at ho') (cl0 hu)
  | @lst a o vs ds ho hv hn hr =>
    cases rb with
    | none => exact RcAt.list_none (hv.at ho) (cl0 hu)
    | bool b => exact RcAt.list_bool b (hv.at ho) (cl0 hu)
    | int i t => exact RcAt.list_int i t (hv.at ho) (cl0 hu)
    | bytes l t => cases ok
    | tup ho' hv' hn' hr' => exact RcAt.list_tuple (hv.at ho) (hv'.at ho') (cl0 hu)
    | @lst b o' us es ho' hv' hn' hr' =>
      cases n with
      | zero => cases fl
      | succ n =>
        obtain ⟨f, hf, ef⟩ := seq_all (h := s.heap) (A := A) (s := s) hn hn' fun j v u d e h1 h2 h3 h4 =>
          (hr j v d h1 h3).eqAt (n := n) rfl (hr' j u e h2 h4) (cmpOkL_at ok j d e h3 h4) (flatL_at fl j d h3) (clS hu)
        show RcAt A s (.ref a) (.ref b) (Dv.eqvL ds es)
        rw [← ef]
        by_cases hl : vs.toArray.size = us.toArray.size
        · have : (vs.toArray.size == us.toArray.size) = true := by simp [hl]
          rw [this, Bool.and_true, ← hl, Nat.min_self]
          exact RcAt.lists (hv.at ho) (hv'.at ho') hl (cl0 hu) hf
        · have : (vs.toArray.size == us.toArray.size) = false := by simpa using hl
          rw [this, Bool.and_false]
          exact RcAt.lists_lengths (hv.at ho) (hv'.at ho') (by simpa using hl) (cl0 hu)
theorem Rd.rcNe {h : Heap} {v : Value} {d : Dv} (ra : Rd h v d) {u : Value} {e : Dv} {A : Around} {s : Shared} {n : Nat} (hs : s.heap = h) (rb : Rd h u e) (ok : d.cmpOk e = true) (fl : d.flat n = true) (hu : A.units + n + 1 < cLine) : RcNeAt A s v u (!(d.eqv e)) := by
  subst hs
  cases ra with
  | none =>
    cases rb with
    | none => exact RcNeAt.none_none
    | bool b => exact RcNeAt.none_bool b
    | int i t => exact RcNeAt.none_int i t
    | bytes l t => exact rn_none_bytes
    | tup ho hv hn hr => exact RcNeAt.none_tuple (hv.at ho) (cl0 hu)
    | lst ho hv hn hr => exact RcNeAt.none_list (hv.at ho) (cl0 hu)
  | bool a =>
    cases rb with
    | none => exact RcNeAt.bool_none a
    | bool b => exact RcNeAt.bool_bool a b
    | int i t => exact RcNeAt.bool_int a i t
    | bytes l t => exact rn_bool_bytes
    | tup ho hv hn hr => exact RcNeAt.bool_tuple a (hv.at ho) (cl0 hu)
    | lst ho hv hn hr => exact RcNeAt.bool_list a (hv.at ho) (cl0 hu)
  | int a ta =>
    cases rb with
    | none => exact RcNeAt.int_none a ta
    | bool b => exact RcNeAt.int_bool a ta b
    | int i t => exact RcNeAt.int_int a ta i t
    | bytes l t => exact rn_int_bytes
    | tup ho hv hn hr => exact RcNeAt.int_tuple a ta (hv.at ho) (cl0 hu)
    | lst ho hv hn hr => exact RcNeAt.int_list a ta (hv.at ho) (cl0 hu)
  | bytes a ta =>
    cases rb with
    | none => exact rn_bytes_none
    | bool b => exact rn_bytes_bool
    | int i t => exact rn_bytes_int
    | bytes l t => exact fun prog w E Q h => compareOp_gives (op := .NotEq) (typeIs_bytes s _ ta) (typeIs_bytes s _ t) FB.slot_bytes_ne FB.entry_bytes_ne (FB.args_bytes_ne_2 _ _) (gives_bytes_ne a.toArray l.toArray ta t) (fun e => nomatch e) h
    | tup ho hv hn hr => cases ok
    | lst ho hv hn hr => cases ok
  | @tup a o vs ds ho hv hn hr =>
    cases rb with
    | none => exact RcNeAt.tuple_none (hv.at ho) (cl0 hu)
    | bool b => exact RcNeAt.tuple_bool b (hv.at ho) (cl0 hu)
    | int i t => exact RcNeAt.tuple_int i t (hv.at ho) (cl0 hu)
    | bytes l t => cases ok
    | @tup b o' us es ho' hv' hn' hr' =>
      cases n with
      | zero => cases fl
      | succ n =>
        obtain ⟨f, hf, ef⟩ := seq_all (h := s.heap) (A := A) (s := s) hn hn' fun j v u d e h1 h2 h3 h4 =>
          (hr j v d h1 h3).eqAt (n := n) rfl (hr' j u e h2 h4) (cmpOkL_at ok j d e h3 h4) (flatL_at fl j d h3) (clS hu)
        show RcNeAt A s (.ref a) (.ref b) (!(Dv.eqvL ds es))
        rw [← ef]
        exact RcNeAt.tuples (hv.at ho) (hv'.at ho') (cl0 hu) hf
    | lst ho' hv' hn' hr' => exact RcNeAt.tuple_list (hv.at ho) (hv'.at ho') (cl0 hu)
  | @lst a o vs ds ho hv hn hr =>
    cases rb with
    | none => exact RcNeAt.list_none (hv.at ho) (cl0 hu)
    | bool b => exact RcNeAt.list_bool b (hv.at ho) (cl0 hu)
    | int i t => exact RcNeAt.list_int i t (hv.at ho) (cl0 hu)
    | bytes l t => cases ok
    | tup ho' hv' hn' hr' => exact RcNeAt.list_tuple (hv.at ho) (hv'.at ho') (cl0 hu)
    | @lst b o' us es ho' hv' hn' hr' =>
      cases n with
      | zero => cases fl
      | succ n =>
        obtain ⟨f, hf, ef⟩ := seq_all (h := s.heap) (A := A) (s := s) hn hn' fun j v u d e h1 h2 h3 h4 =>
          (hr j v d h1 h3).eqAt (n := n) rfl (hr' j u e h2 h4) (cmpOkL_at ok j d e h3 h4) (flatL_at fl j d h3) (clS hu)
        show RcNeAt A s (.ref a) (.ref b) (!(Dv.eqvL ds es))
        rw [← ef]
        by_cases hl : vs.toArray.size = us.toArray.size
        · have : (vs.toArray.size == us.toArray.size) = true := by simp [hl]
          rw [this, Bool.and_true, ← hl, Nat.min_self]
          exact RcNeAt.lists (hv.at ho) (hv'.at ho') hl (cl0 hu) hf
        · have : (vs.toArray.size == us.toArray.size) = false := by simpa using hl
          rw [this, Bool.and_false]
          exact RcNeAt.lists_lengths (hv.at ho) (hv'.at ho') (by simpa using hl) (cl0 hu)
end

end
section
open PySem PySem.W PyProof.Rows PySem.Calls PySem.Spec PySem.SeqAt LCg
set_option Elab.async false
set_option linter.unusedVariables false
set_option maxRecDepth 100000

noncomputable abbrev Loc := List (Str × Value)
theorem put_opt {x : Str} {v : Value} : ∀ {b ex : Loc}, (b.all fun p => decide (p.1 ≠ x)) = true → (ex = [] ∨ ∃ u, ex = [(x, u)]) → put x v (b ++ ex) = b ++ [(x, v)]
  | [], ex, _, h => by
    rcases h with rfl | ⟨u, rfl⟩
    · rfl
    · show (if x = x then _ else _) = _
      rw [if_pos rfl]; rfl
  | (y, u) :: b, ex, hb, h => by
    rw [List.all_cons, Bool.and_eq_true] at hb
    have hy : ¬ x = y := fun e => (of_decide_eq_true hb.1) e.symm
    show (if x = y then _ else (y, u) :: put x v (b ++ ex)) = _
    rw [if_neg hy, put_opt hb.2 h]; rfl
section
variable {w : World} {A : Around} {E : Value → Heap → Prop} {hw h₀ h : Heap} {L a : Addr} {m : List (Str × Value)} {led : Led} {env : Env} {rest : List Stmt}

theorem d_eq {Q : Value → Heap → Prop} {v u : Value} {d e : Dv} {n : Nat} (ra : Rd h v d) (rb : Rd h u e) (ok : d.cmpOk e = true) (fl : d.flat n = true) (hu : A.units + n + 1 < cLine) (q : Q (.bool (d.eqv e)) h) : Wp (MM w) A (compareOp .Eq v u) Q E h :=
  Wp_of fun g dd tk o => ra.rcEq (s := ⟨h, g, dd, tk, o⟩) rfl rb ok fl hu pw w _ _ ⟨⟨rfl, rfl, rfl⟩, q⟩
theorem d_ne {Q : Value → Heap → Prop} {v u : Value} {d e : Dv} {n : Nat} (ra : Rd h v d) (rb : Rd h u e) (ok : d.cmpOk e = true) (fl : d.flat n = true) (hu : A.units + n + 1 < cLine) (q : Q (.bool (!(d.eqv e))) h) : Wp (MM w) A (compareOp .NotEq v u) Q E h :=
  Wp_of fun g dd tk o => ra.rcNe (s := ⟨h, g, dd, tk, o⟩) rfl rb ok fl hu pw w _ _ ⟨⟨rfl, rfl, rfl⟩, q⟩
theorem c_is {Q : Value → Heap → Prop} {v : Value} (q : Q (.bool (v == .none)) h) : Wp (MM w) A (compareOp .Is v .none) Q E h := Wp_of fun g d tk o => is_none_gen ⟨⟨rfl, rfl, rfl⟩, q⟩
theorem c_isnot {Q : Value → Heap → Prop} {v : Value} (q : Q (.bool (!(v == .none))) h) : Wp (MM w) A (compareOp .IsNot v .none) Q E h := Wp_of fun g d tk o => isnot_none_gen ⟨⟨rfl, rfl, rfl⟩, q⟩
theorem c_is_nn {Q : Value → Heap → Prop} (q : Q (.bool true) h) : Wp (MM w) A (compareOp .Is .none .none) Q E h := c_is q
theorem c_is_ref {Q : Value → Heap → Prop} (q : Q (.bool false) h) : Wp (MM w) A (compareOp .Is (.ref a) .none) Q E h := c_is q
theorem c_is_int {Q : Value → Heap → Prop} {i : Int} {t : Tok} (q : Q (.bool false) h) : Wp (MM w) A (compareOp .Is (.int i t) .none) Q E h := c_is q
theorem c_isnot_nn {Q : Value → Heap → Prop} (q : Q (.bool false) h) : Wp (MM w) A (compareOp .IsNot .none .none) Q E h := c_isnot q
theorem c_isnot_ref {Q : Value → Heap → Prop} (q : Q (.bool true) h) : Wp (MM w) A (compareOp .IsNot (.ref a) .none) Q E h := c_isnot q
theorem c_isnot_int {Q : Value → Heap → Prop} {i : Int} {t : Tok} (q : Q (.bool true) h) : Wp (MM w) A (compareOp .IsNot (.int i t) .none) Q E h := c_isnot q
/- an octet string in a written tuple of octet strings -/
theorem c_inTup {Q : Value → Heap → Prop} {x : List UInt8} {t : Tok} {o : Obj} {vs : List Value} {ls : List (List UInt8)} (ho : h.get? a = some o) (hv : OTup o vs) (hl : vs.length = ls.length)
    (he : ∀ (j : Nat) (v : Value) (k : List UInt8), vs[j]? = some v → ls[j]? = some k → ∃ u, v = .bytes k.toArray u) (q : Q (.bool (ls.any (· == x))) h) : Wp (MM w) A (compareOp .In (.bytes x.toArray t) (.ref a)) Q E h := Wp_of fun g d tk os => by
  let f : Value → Bool := fun v => match v with | .bytes b _ => b.toList == x | _ => false
  have key : vs.toArray.any f = ls.any (· == x) := by
    rw [List.any_toArray]
    clear q ho hv
    induction vs generalizing ls with
    | nil => cases ls <;> simp_all
    | cons v vs ih =>
      cases ls with
      | nil => simp at hl
      | cons k ls =>
        obtain ⟨u, rfl⟩ := he 0 _ _ rfl rfl
        rw [List.any_cons, List.any_cons, ih (ls := ls) (by simpa using hl) fun j v k h1 h2 => he (j + 1) v k h1 h2]
  refine in_tupleAt f (hv.at ho) (fun y hy => ?_) (by rw [key]; exact ⟨⟨rfl, rfl, rfl⟩, q⟩)
  refine gh fun CC kk => ?_
  obtain ⟨j, hj, rfl⟩ := Array.mem_iff_getElem.mp hy
  refine kk ?_
  clear kk CC
  have hj' : j < ls.length := by rw [← hl]; simpa using hj
  obtain ⟨u, hu⟩ := he j _ _ (items_at hj) (List.getElem?_eq_getElem hj')
  rw [hu]
  have := eqAt_bytes (A := A.in1) (s := ⟨h, g, d, tk, os⟩) (l := ls[j]) (k := x) (t := u) (u := t)
  simpa [f] using this

theorem y_at {value slice : Expr} {l : List UInt8} {t ti : Tok} {i : Nat} {x : UInt8} {k : Int} {Q : Value → Heap → Prop} (hx : l[i]? = some x) (hz : l.length ≤ 16777216) (hk : k = i) (q : ∀ t', Q (.int x.toNat t') h)
    (hs : subscripted slice false (.bytes l.toArray t) (.int i ti) = operate [.bytes l.toArray t, .int i ti] (getItem (.bytes l.toArray t) (.int i ti)) := by with_unfolding_all rfl) :
    Wp (MM w) A (subscriptTail value slice (.bytes l.toArray t) (.int k ti)) Q E h := by
  subst hk
  exact y_item (by rw [List.size_toArray]; lia) (by rw [List.getElem?_toArray]; exact hx) q hs

/- an if whose two ways meet behind it -/
noncomputable def Cut (J : Heap → Prop) (Q : Flow → Heap → Prop) : Flow → Heap → Prop
  | .next, h => J h
  | f, h => Q f h
theorem Cut_next {J : Heap → Prop} {Q : Flow → Heap → Prop} {h : Heap} (x : J h) : Cut J Q .next h := x
theorem Cut_ret {J : Heap → Prop} {Q : Flow → Heap → Prop} {h : Heap} {v : Value} (x : Q (.ret v) h) : Cut J Q (.ret v) h := x
theorem Turn_next {Q : Flow → Heap → Prop} {J : Heap → Prop} {h : Heap} (x : J h) : Turn w A rest env Q E J .next h := x
theorem Turn_ret {Q : Flow → Heap → Prop} {J : Heap → Prop} {h : Heap} {v : Value} (x : Q (.ret v) h) : Turn w A rest env Q E J (.ret v) h := x
theorem st_If_cut {test : Expr} {body orelse : List Stmt} {pos : Pos} {Q : Flow → Heap → Prop} (J : Heap → Prop)
    (x : Wp (MM w) A (isTrue test env (eval test env)) (KIf w A E env body orelse (Cut J Q)) E h)
    (k : ∀ h', J h' → Wp (MM w) A (execs rest env) Q E h') : Wp (MM w) A (execs (.If test body orelse pos :: rest) env) Q E h := by
  have go : ∀ f h'', Cut J Q f h'' → Seq w A rest env Q E f h'' := fun f h'' q => by
    cases f with
    | next => exact k h'' q
    | _ => exact q
  exact st_If (Wp_post x fun b h' q => ⟨fun e => Wp_post (q.1 e) go, fun e => Wp_post (q.2 e) go⟩)
theorem if_tt {X Y : Prop} (x : X) : (true = true → X) ∧ (true = false → Y) := ⟨fun _ => x, fun e => (nomatch e)⟩
theorem if_ff {X Y : Prop} (y : Y) : (false = true → X) ∧ (false = false → Y) := ⟨fun e => (nomatch e), fun _ => y⟩

/- unpacking -/
theorem u_tuple {elts : List Expr} {k : Nat} {p : Pos} {Q : Unit → Heap → Prop} {o : Obj} {vs : List Value} (hh : A.handled = none) (ho : h.get? a = some o) (hv : OTup o vs)
    (q : ∀ h', h.StaysIn h' → Wp (MM w) A (assignInOrder ((assignEach elts env).map (·.2)) vs) Q E h')
    (hn : (assignEach elts env).length = vs.length := by with_unfolding_all rfl) (hs : (assignEach elts env).findIdx? (·.1) = none := by with_unfolding_all rfl) :
    Wp (MM w) A (assign (.Tuple elts k p) env (.ref a)) Q E h := by
  rw [arm_assign_Tuple]
  refine Wp_bind (Wp_standAt ?_)
  unfold unpack
  rw [hn, hs]
  refine Wp_bind (Wp_holding (Wp_of fun g d tk os => ?_))
  have ht : Heap.IsTuple h a vs.toArray := hv.at ho
  have := unpackItems_tuple (prog := pw) (w := w) (A := A) (E := fun e s' => (s'.gens = g ∧ s'.drawn = d ∧ s'.os = os) ∧ E e s'.heap)
    (s := ⟨h, g, d, tk, os⟩) (t := a) (items := vs.toArray) (Q := fun xs s' => (s'.gens = g ∧ s'.drawn = d ∧ s'.os = os) ∧ Wp (MM w) A (assignInOrder ((assignEach elts env).map (·.2)) xs) Q E s'.heap) hh ht
    (fun h' he => ⟨⟨rfl, rfl, rfl⟩, q h' fun b o e => he b o (Nat.ne_of_lt (Heap.lt_size e)) e⟩)
  rw [List.size_toArray] at this
  exact this
theorem a_cons {t : Expr} {ts : List Expr} {x : Value} {xs : List Value} {Q : Unit → Heap → Prop} (q : Wp (MM w) A (assign t env x) (KAs w A E env ts xs Q) E h)
    (hs : assignEach (t :: ts) env = (false, assign t env) :: assignEach ts env := by with_unfolding_all rfl) : Wp (MM w) A (assignInOrder ((assignEach (t :: ts) env).map (·.2)) (x :: xs)) Q E h := by
  rw [hs]
  exact Wp_bind (Wp_holding q)
theorem a_nil {xs : List Value} {Q : Unit → Heap → Prop} (q : Q () h) : Wp (MM w) A (assignInOrder ((assignEach [] env).map (·.2)) xs) Q E h := Wp_pure q
theorem as_attr {o : Expr} {attr : Str} {p : Pos} {v : Value} {Q : Unit → Heap → Prop} (q : Wp (MM w) A (eval o env) (KSet w A E attr v Q) E h) : Wp (MM w) A (assign (.Attribute o attr p) env v) Q E h := by
  rw [arm_assign_Attribute]
  exact Wp_bind (Wp_holding (Wp_post q fun ov h₁ q₁ => Wp_bind (Wp_standAt (Wp_bind (Wp_holding (Wp_post q₁ fun _ h₂ q₂ => Wp_release q₂))))))
theorem st_AssignTup {elts : List Expr} {k : Nat} {p : Pos} {value : Expr} {pos : Pos} {Q : Flow → Heap → Prop}
    (x : Wp (MM w) A (eval value env) (KTupA w A E env rest (.Tuple elts k p) Q) E h)
    (hs : swapsWithSole [.Tuple elts k p] value pos.line env = pure false := by with_unfolding_all rfl) (hw : swappedStores [.Tuple elts k p] value env = pure none := by with_unfolding_all rfl) :
    Wp (MM w) A (execs (.Assign [.Tuple elts k p] value pos :: rest) env) Q E h := st_Assign_ x hs hw
/- the same where the compiler swaps the stores of two or three names -/
theorem st_AssignSwap {ts : List Expr} {value : Expr} {pos : Pos} {names : List Str} {Q : Flow → Heap → Prop} (hh : A.handled = none)
    (x : Wp (MM w) A (eval value env) (fun v h' => ∃ a o vs, v = .ref a ∧ h'.get? a = some o ∧ OTup o vs ∧ vs.length = names.length ∧
      ∀ h₁, h'.StaysIn h₁ → Wp (MM w) A (assignInOrder (names.reverse.map fun n => bindName env n) vs.reverse) (fun _ h'' => Wp (MM w) A (execs rest env) Q E h'') E h₁) E h)
    (hw : swappedStores ts value env = pure (some names) := by with_unfolding_all rfl) (hs : swapsWithSole ts value pos.line env = pure false := by with_unfolding_all rfl) :
    Wp (MM w) A (execs (.Assign ts value pos :: rest) env) Q E h := execs_cons (by
  rw [arm_exec_Assign, hs]
  refine Wp_bind (Wp_standAt (Wp_bind (Wp_pure ?_)))
  rw [if_neg Bool.false_ne_true]
  refine Wp_bind (Wp_post x fun v h' q => ?_)
  rw [hw]
  refine Wp_bind (Wp_pure ?_)
  refine gh fun CC kk => ?_
  obtain ⟨a, o, vs, rfl, ho, hv, hl, q⟩ := q
  refine kk ?_
  clear kk CC
  show Wp _ _ (do
    rule "assign.swapped-stores"
    let items ← unpackItems (.ref a) names.length none
    assignInOrder (names.reverse.map fun n => bindName env n) items.reverse
    pure Flow.next) _ _ _
  refine Wp_bind (Wp_rule (Wp_bind (Wp_of fun g d tk os => ?_)))
  have ht : Heap.IsTuple h' a vs.toArray := hv.at ho
  have := unpackItems_tuple (prog := pw) (w := w) (A := A) (E := fun e s' => (s'.gens = g ∧ s'.drawn = d ∧ s'.os = os) ∧ E e s'.heap)
    (s := ⟨h', g, d, tk, os⟩) (t := a) (items := vs.toArray) (Q := fun xs s' => (s'.gens = g ∧ s'.drawn = d ∧ s'.os = os) ∧ Wp (MM w) A (do assignInOrder (names.reverse.map fun n => bindName env n) xs.reverse; pure Flow.next) (Seq w A rest env Q E) E s'.heap) hh ht
    (fun h₁ he => ⟨⟨rfl, rfl, rfl⟩, Wp_bind (Wp_post (q h₁ fun b o e => he b o (Nat.ne_of_lt (Heap.lt_size e)) e) fun _ h₂ q₂ => Wp_pure q₂)⟩)
  rw [List.size_toArray, hl] at this
  exact this)
theorem b_cons {n : Str} {ns : List Str} {x : Value} {xs : List Value} {Q : Unit → Heap → Prop} (q : Wp (MM w) A (storeName env n x) (fun _ h' => Wp (MM w) A (assignInOrder (ns.map fun n => bindName env n) xs) Q E h') E h) :
    Wp (MM w) A (assignInOrder ((n :: ns).map fun n => bindName env n) (x :: xs)) Q E h := Wp_bind (Wp_holding (Wp_bindName q))
theorem b_nil {xs : List Value} {Q : Unit → Heap → Prop} (q : Q () h) : Wp (MM w) A (assignInOrder (([] : List Str).map fun n => bindName env n) xs) Q E h := Wp_pure q
theorem go_list {elts : List Expr} {k : Nat} {p : Pos} {I l : Addr} {i : Nat} {v : Value} {Q : Unit → Heap → Prop} (hi : h.IsListIter I l i) (q : Q () h) : Wp (MM w) A (letOwnedTupleGo (.Tuple elts k p) (.ref I) v) Q E h := by
  cases v with
  | ref T => exact Wp_of fun g d tk os => wpAny_letOwnedTupleGo_listiter hi ⟨⟨rfl, rfl, rfl⟩, q⟩
  | _ => exact Wp_pure q

/- loops over what an iterator walks -/
section
variable {I : Addr} {fp : List Addr} {n : Nat} {P : Nat → Value → Prop} {T : Nat → Heap → Prop} {src l : Led} {o : Obj}
theorem walk_next {R : Option Value → Heap → Prop} {i : Nat} (W : Walks pw w A I fp [I] n P T) (hI : ∀ i h, T i h → ∃ o, h.get? I = some o) (S : St w hw h₀ L h m ((I, o) :: (src ++ l))) (hT : T i h) (hi : i ≤ n)
    (some_ : ∀ v o' h', i < n → P i v → T (i + 1) h' → St w hw h₀ L h' m ((I, o') :: (src ++ l)) → R (some v) h') (none_ : ∀ h', i = n → St w hw h₀ L h' m (src ++ l) → R none h') :
    Wp (MM w) A (pyNext (.ref I)) R E h := Wp_of fun g d tk os => by
  have hIn : I ∉ adr (src ++ l) := (List.nodup_cons.mp S.nd).1
  have stays : ∀ h', (∀ b x, b ∉ [I] → h.get? b = some x → h'.get? b = some x) → St w hw h₀ L h' m (src ++ l) := fun h' k => St.call (l := [(I, o)]) (l' := []) S
    ⟨fun b x hb e => k b x (by simpa [adr] using hb) e, (fun p hp => nomatch hp), .nil⟩
  rcases Nat.lt_or_ge i n with hlt | hge
  · refine W.item i ⟨h, g, d, tk, os⟩ _ _ hlt hT fun v h' tk' hP hT' hk => ⟨⟨rfl, rfl, rfl⟩, ?_⟩
    obtain ⟨o', ho'⟩ := hI _ _ hT'
    refine some_ v o' h' hlt hP hT' (St.call (l := [(I, o)]) (l' := [(I, o')]) S ⟨fun b x hb e => hk b x (by simpa [adr] using hb) e, fun p hp => ?_, by simp [adr]⟩)
    obtain rfl := List.mem_singleton.mp hp
    exact ⟨ho', .inl (by simp [adr])⟩
  · obtain rfl : i = n := Nat.le_antisymm hi hge
    exact W.done ⟨h, g, d, tk, os⟩ _ _ hT fun h' tk' hk => ⟨⟨rfl, rfl, rfl⟩, none_ h' rfl (stays h' hk)⟩
theorem walk_frame {i : Nat} {h h' : Heap} {m m' : List (Str × Value)} {l l' : Led} (W : Walks pw w A I fp [I] n P T) (hfp : ∀ b ∈ fp, b = I ∨ b ∈ adr src ∨ ∃ x, h₀.get? b = some x) (S : St w hw h₀ L h m ((I, o) :: (src ++ l))) (S' : St w hw h₀ L h' m' ((I, o) :: (src ++ l'))) (hT : T i h) : T i h' :=
  W.frame i h h' hT fun b hb x e => by
    rcases hfp b hb with rfl | hb | ⟨y, hy⟩
    · have := (S.N (b, o) (.head _)).1
      rw [e] at this; cases this
      exact (S'.N (b, o) (.head _)).1
    · refine gh fun CC kk => ?_
      obtain ⟨p, hp, rfl⟩ := List.mem_map.mp hb
      refine kk ?_
      clear kk CC
      have := (S.N p (.tail _ (List.mem_append_left _ hp))).1
      rw [e] at this; cases this
      exact (S'.N p (.tail _ (List.mem_append_left _ hp))).1
    · have := S.F.keep _ _ hy
      rw [e] at this; cases this
      exact S'.F.keep _ _ hy
theorem for_w {target : Expr} {body : List Stmt} {Q : Flow → Heap → Prop} (K : Nat → List (Str × Value) → Led → Prop)
    (W : Walks pw w A I fp [I] n P T) (hI : ∀ i h, T i h → ∃ o, h.get? I = some o) (hfp : ∀ b ∈ fp, b = I ∨ b ∈ adr src ∨ ∃ x, h₀.get? b = some x)
    (S : St w hw h₀ L h m ((I, o) :: (src ++ l))) (hT : T 0 h) (hK : K 0 m l)
    (turn : ∀ i v m l o h, i < n → P i v → K i m l → T (i + 1) h → St w hw h₀ L h m ((I, o) :: (src ++ l)) → ∀ J : Heap → Prop, (∀ h' m' l', St w hw h₀ L h' m' ((I, o) :: (src ++ l')) → K (i + 1) m' l' → J h') →
      Wp (MM w) A (letOwnedTupleGo target (.ref I) v) (KGo w A E env target v body rest Q J) NoE h)
    (done : ∀ m l h, K n m l → St w hw h₀ L h m (src ++ l) → Seq w A rest env Q E .next h) : Loop w A env target (.ref I) body [] rest Q E h := by
  refine loop_for (fun (i : Nat) h => i ≤ n ∧ ∃ m l o, St w hw h₀ L h m ((I, o) :: (src ++ l)) ∧ T i h ∧ K i m l) (fun i => n - i) 0 ⟨Nat.zero_le _, m, l, o, S, hT, hK⟩ ?_
  rintro i h qq1
  refine gh fun CC kk => ?_
  obtain ⟨hi, m, l, o, S, hT, hK⟩ := qq1
  refine kk ?_
  clear kk CC
  refine walk_next W hI S hT hi (fun v o' h' hlt hP hT' S' => ?_) (fun h' hi S' => ?_)
  · refine Wp_post (turn i v m l o' h' hlt hP hK hT' S' (fun h' => ∃ m' l', St w hw h₀ L h' m' ((I, o') :: (src ++ l')) ∧ K (i + 1) m' l') fun _ m' l' a b => ⟨m', l', a, b⟩) fun _ h₁ q₁ => Wp_post q₁ fun _ h₂ q₂ => Wp_post q₂ fun f h₃ q₃ => ?_
    have next : (∃ m' l', St w hw h₀ L h₃ m' ((I, o') :: (src ++ l')) ∧ K (i + 1) m' l') → ∃ x', n - x' < n - i ∧ x' ≤ n ∧ ∃ m l o, St w hw h₀ L h₃ m ((I, o) :: (src ++ l)) ∧ T x' h₃ ∧ K x' m l := by
      rintro qq1
      refine gh fun CC kk => ?_
      obtain ⟨m', l', S₃, hK'⟩ := qq1
      refine kk ?_
      clear kk CC
      exact ⟨i + 1, by lia, hlt, m', l', o', S₃, walk_frame W hfp S' S₃ hT', hK'⟩
    cases f with
    | next => exact next q₃
    | cont => exact next q₃
    | brk => exact q₃
    | ret v => exact q₃
  · subst hi; exact done m l h' hK S'
end
end

end
section
open PySem PySem.W PyProof.Rows PySem.Calls PySem.Spec PySem.SeqAt LCg
set_option Elab.async false
set_option linter.unusedVariables false
set_option maxRecDepth 100000

theorem lkp (x y : Str) (v : Value) (m : Loc) : lk (put x v m) y = if y = x then some v else lk m y := (congrFun (lk_put x v m) y).symm
theorem lkp_self {x : Str} {v : Value} {m : Loc} : lk (put x v m) x = some v := by rw [lkp, if_pos rfl]
theorem lkp_ne {x y : Str} {v : Value} {m : Loc} (h : y ≠ x) : lk (put x v m) y = lk m y := by rw [lkp, if_neg h]

section
variable {w : World} {A : Around} {E : Value → Heap → Prop} {hw h₀ h : Heap} {L a C : Addr} {m mc : Loc} {led : Led} {env : Env} {rest : List Stmt} {scope : Scope} {cl : List (Str × Addr)} {oC : Obj}

theorem c_local {x : Str} {pos : Pos} {v : Value} {Q : Value → Heap → Prop} (S : St w hw h₀ L h m led) (hm : (C, oC) ∈ led) (hC : NsObj oC (lk mc)) (hv : lk mc x = some v) (q : Q v h)
    (hk : scope.kind = .function := by with_unfolding_all rfl) (hl : (compEnvC scope cl C env).kindOf x = some .local := by with_unfolding_all rfl) (hd : (x == ("__debug__" : Str)) = false := by decide) :
    Wp (MM w) A (eval (.Name x pos) (compEnvC scope cl C env)) Q E h := Wp_of fun g d tk o =>
  wpAny_Name (wpAny_loadName_local hk hl (hC.ns (S.get hm)) hv ⟨⟨rfl, rfl, rfl⟩, q⟩) hd
theorem c_global {x : Str} {pos : Pos} {v : Value} {Q : Value → Heap → Prop} (S : St w hw h₀ L h m led) (hg : nsIn (KF w.params) mainGlobals x = some (some v)) (q : Q v h)
    (hgl : env.globals = 3 := by with_unfolding_all rfl) (hk : scope.kind = .function := by with_unfolding_all rfl) (hl : (compEnvC scope cl C env).kindOf x = some .globalImplicit := by with_unfolding_all rfl) (hd : (x == ("__debug__" : Str)) = false := by decide) :
    Wp (MM w) A (eval (.Name x pos) (compEnvC scope cl C env)) Q E h := Wp_of fun g d tk o => by
  obtain ⟨_, mg, mb, T⟩ := S.wd.top
  exact Name_function_global hk hl (loadGlobal_global (env := compEnvC scope cl C env) (by show Heap.Ns _ env.globals mg; rw [hgl]; exact T.g) (mg_of S.wd.K T.g hg) ⟨⟨rfl, rfl, rfl⟩, q⟩) hd
theorem c_builtin {x : Str} {pos : Pos} {v : Value} {Q : Value → Heap → Prop} (S : St w hw h₀ L h m led) (hg : nsIn (KF w.params) mainGlobals x = some none) (hb : bootBuiltins x = some v) (q : Q v h) (hn : x ≠ "__name__" := by decide)
    (hgl : env.globals = 3 := by with_unfolding_all rfl) (hbl : env.builtins = 0 := by with_unfolding_all rfl) (hk : scope.kind = .function := by with_unfolding_all rfl) (hl : (compEnvC scope cl C env).kindOf x = some .globalImplicit := by with_unfolding_all rfl) (hd : (x == ("__debug__" : Str)) = false := by decide) :
    Wp (MM w) A (eval (.Name x pos) (compEnvC scope cl C env)) Q E h := Wp_of fun g d tk o => by
  obtain ⟨_, mg, mb, T⟩ := S.wd.top
  exact Name_function_global hk hl (loadGlobal_builtin (env := compEnvC scope cl C env) (by show Heap.Ns _ env.globals mg; rw [hgl]; exact T.g) (mg_none_of S.wd.K T.g hg) (by show Heap.Ns _ env.builtins mb; rw [hbl]; exact T.b) ((T.builtins x hn).trans hb) ⟨⟨rfl, rfl, rfl⟩, q⟩) hd
theorem c_store {x : Str} {v : Value} {Q : Unit → Heap → Prop} (S : St w hw h₀ L h m led) (hm : (C, oC) ∈ led) (hC : NsObj oC (lk mc))
    (q : ∀ oC' h', NsObj oC' (lk (put x v mc)) → (∀ led', Up C oC oC' led led' → St w hw h₀ L h' m led') → Q () h')
    (hk : scope.kind = .function := by with_unfolding_all rfl) (hl : (compEnvC scope cl C env).kindOf x = some .local := by with_unfolding_all rfl) : Wp (MM w) A (storeName (compEnvC scope cl C env) x v) Q E h := Wp_of fun g d tk o =>
  wpAny_storeName_local hl (hC.ns (S.get hm)) (fun h' hn hs => by
    obtain ⟨oC', ho', hC'⟩ := ns_obj (lk_put x v mc ▸ hn)
    exact ⟨⟨rfl, rfl, rfl⟩, q oC' h' hC' fun led' u => S.upd u hs.extBut ho'⟩)
    (by show (scope.kind == .class || (scope.kind == .module && _)) = false; rw [hk]; rfl)

/- the tests of a comprehension: none, or one -/
noncomputable def TestsW (w : World) (A : Around) (env : Env) : List Expr → (Bool → Heap → Prop) → Heap → Prop
  | [], R, h => R true h
  | c :: _, R, h => Wp (MM w) A (isTrue c env (eval c env)) R NoE h

noncomputable def CompBody (w : World) (A : Around) (hw h₀ : Heap) (L : Addr) (m : Loc) (env : Env) (elt target : Expr) (ifs : List Expr) (scope : Scope) (cl : List (Str × Addr)) (I : Addr) (src : Led) (K : Nat → List Value → Led → Prop) (i : Nat) (v : Value) (ys : List Value) (o : Obj) (C D : Addr) (oD : Obj) (h : Heap) : Prop :=
  Wp (MM w) A (letOwnedTupleGo target (.ref I) v) (fun _ h₁ => Wp (MM w) A (assign target (compEnvC scope cl C env) v) (fun _ h₂ => TestsW w A (compEnvC scope cl C env) ifs (fun ok h₃ =>
      (ok = true → Wp (MM w) A (eval elt (compEnvC scope cl C env)) (fun y h₄ => ∃ oC' mc' l', NsObj oC' (lk mc') ∧ St w hw h₀ L h₄ m ((I, o) :: (src ++ (C, oC') :: (D, oD) :: l')) ∧ K (i + 1) (ys ++ [y]) l') NoE h₃) ∧
      (ok = false → ∃ oC' mc' l', NsObj oC' (lk mc') ∧ St w hw h₀ L h₃ m ((I, o) :: (src ++ (C, oC') :: (D, oD) :: l')) ∧ K (i + 1) ys l')) h₂) NoE h₁) NoE h
noncomputable def CompTurn (w : World) (A : Around) (hw h₀ : Heap) (L : Addr) (m : Loc) (env : Env) (elt target : Expr) (ifs : List Expr) (scope : Scope) (cl : List (Str × Addr)) (n : Nat) (P : Nat → Value → Prop) (T : Nat → Heap → Prop) (I : Addr) (src : Led) (K : Nat → List Value → Led → Prop) : Prop :=
  ∀ i v ys l o C oC D oD mc h, i < n → P i v → K i ys l → T (i + 1) h → OLst oD ys → NsObj oC (lk mc) → St w hw h₀ L h m ((I, o) :: (src ++ (C, oC) :: (D, oD) :: l)) →
    CompBody w A hw h₀ L m env elt target ifs scope cl I src K i v ys o C D oD h

noncomputable def CompOnU (w : World) (A : Around) (hw h₀ : Heap) (L : Addr) (m : Loc) (env : Env) (elt target : Expr) (ifs : List Expr) (scope : Scope) (cl : List (Str × Addr)) (U : Addr → Value → Heap → Prop) (it : Value) (h : Heap) : Prop :=
  ∃ I fp n P T src l o K, it = .ref I ∧ Walks pw w A I fp [I] n P T ∧ (∀ i h, T i h → ∃ o, h.get? I = some o) ∧ (∀ b ∈ fp, b = I ∨ b ∈ adr src ∨ ∃ x, h₀.get? b = some x) ∧ n ≤ 16777216 ∧
    St w hw h₀ L h m ((I, o) :: (src ++ l)) ∧ T 0 h ∧ K 0 [] l ∧ CompTurn w A hw h₀ L m env elt target ifs scope cl n P T I src K ∧
    (∀ C oC mc D oD ys l h', NsObj oC (lk mc) → OLst oD ys → ys.length ≤ n → K n ys l → St w hw h₀ L h' m ((C, oC) :: (D, oD) :: (src ++ l)) → U C (.ref D) h')
/- a comprehension's list that is handed on, its frame let go -/
noncomputable def UseNo (Q : Value → Heap → Prop) (C : Addr) (v : Value) (h : Heap) : Prop := ∃ oC mc, NsObj oC (lk mc) ∧ h.get? C = some oC ∧ ∀ h₃, Heap.SameBut C h h₃ → Q v h₃
noncomputable def UseFin (w : World) (A : Around) (u : Value → Sem Unit) (Q : Value → Heap → Prop) (E : Value → Heap → Prop) (C : Addr) (v : Value) (h : Heap) : Prop :=
  Wp (MM w) A (u v) (fun _ h₂ => ∃ oC mc, NsObj oC (lk mc) ∧ h₂.get? C = some oC ∧ ∀ h₃, Heap.SameBut C h₂ h₃ → Q .none h₃) E h
noncomputable def UseOr (w : World) (A : Around) (Q : Value → Heap → Prop) (E : Value → Heap → Prop) (u : Option (Value → Sem Unit)) : Addr → Value → Heap → Prop := match u with
  | none => UseNo Q
  | some u => UseFin w A u Q E
noncomputable def CompOn (w : World) (A : Around) (hw h₀ : Heap) (L : Addr) (m : Loc) (env : Env) (elt target : Expr) (ifs : List Expr) (scope : Scope) (cl : List (Str × Addr)) (Q : Value → Heap → Prop) (it : Value) (h : Heap) : Prop :=
  CompOnU w A hw h₀ L m env elt target ifs scope cl (UseNo Q) it h
theorem no_done {Q : Value → Heap → Prop} {n : Nat} {K : List Value → Led → Prop} {src : Led} (done : ∀ D oD ys l h', OLst oD ys → ys.length ≤ n → K ys l → St w hw h₀ L h' m ((D, oD) :: (src ++ l)) → Q (.ref D) h') :
    ∀ C oC mc D oD ys l h', NsObj oC (lk mc) → OLst oD ys → ys.length ≤ n → K ys l → St w hw h₀ L h' m ((C, oC) :: (D, oD) :: (src ++ l)) → UseNo Q C (.ref D) h' :=
  fun C oC mc D oD ys l _ hC hD hys hK S => ⟨oC, mc, hC, S.get (.head _), fun h₇ hs' => done D oD ys l h₇ hD hys hK (St.call (l := [(C, oC)]) (l' := []) S ⟨fun b o hb e => hs'.extBut b o (fun x => hb (List.mem_singleton.mpr x)) e, (fun p hp => nomatch hp), .nil⟩)⟩

theorem comp_loop {elt target iter : Expr} {ifs : List Expr} {pos : Pos} {I : Addr} {fp : List Addr} {n : Nat} {P : Nat → Value → Prop} {T : Nat → Heap → Prop} {src l : Led} {K : Nat → List Value → Led → Prop} {o oD : Obj} {D : Addr} {R : Result → Heap → Prop}
    (hif : ifs = [] ∨ ∃ c, ifs = [c]) (W : Walks pw w A I fp [I] n P T) (hI : ∀ i h, T i h → ∃ o, h.get? I = some o) (hfp : ∀ b ∈ fp, b = I ∨ b ∈ adr src ∨ ∃ x, h₀.get? b = some x) (hn : n ≤ 16777216)
    (turn : CompTurn w A hw h₀ L m env elt target ifs scope cl n P T I src K)
    (done : ∀ oD ys oC l h', OLst oD ys → ys.length ≤ n → K n ys l → St w hw h₀ L h' m (src ++ (C, oC) :: (D, oD) :: l) → (∃ mc, NsObj oC (lk mc)) → R (.ok .next) h')
    (hD : OLst oD []) (hC : NsObj oC (lk mc)) (S : St w hw h₀ L h m ((I, o) :: (src ++ (C, oC) :: (D, oD) :: l))) (hT : T 0 h) (hK : K 0 [] l) :
    Wc (MM w) A (.compLoop (.ListComp elt [⟨target, iter, ifs, 0⟩] scope pos) 0 (.ref I) (.ref D) (compEnvC scope cl C env)) R h := by
  refine Wc_loop rfl rfl (fun (i : Nat) h => i ≤ n ∧ ∃ ys l o oC oD mc, OLst oD ys ∧ ys.length ≤ i ∧ NsObj oC (lk mc) ∧ St w hw h₀ L h m ((I, o) :: (src ++ (C, oC) :: (D, oD) :: l)) ∧ T i h ∧ K i ys l) (fun i => n - i) ?_ 0
    ⟨Nat.zero_le _, [], l, o, oC, oD, mc, hD, Nat.le_refl _, hC, S, hT, hK⟩
  intro i h qq
  refine gh fun CC kk => ?_
  obtain ⟨hi, ys, l, o, oC, oD, mc, hD, hys, hC, S, hT, hK⟩ := qq
  refine kk ?_
  clear kk CC
  show Wp _ A ((compTurn (.ListComp elt [⟨target, iter, ifs, 0⟩] scope pos) 0 (.ref I) (.ref D) (compEnvC scope cl C env)).onRaise (fun x => do noteFrame x (compEnvC scope cl C env); theTreesLotGoes x)) _ _ _
  refine Wp_onRaise (Wp_noRaise ?_)
  rw [compTurn_list]
  refine Wp_bind (Wp_standAt (Wp_bind (walk_next W hI S hT hi (fun v o' h' hlt hP hT' S' => ?_) (fun h' hi S' => ?_))))
  · refine Wp_bind (Wp_post (turn i v ys l o' C oC D oD mc h' hlt hP hK hT' hD hC S') fun _ h₁ q₁ => Wp_bind (Wp_post q₁ fun _ h₂ q₂ => ?_))
    have next : ∀ h₄ oC' mc' l' oD' ys', OLst oD' ys' → ys'.length ≤ i + 1 → NsObj oC' (lk mc') → St w hw h₀ L h₄ m ((I, o') :: (src ++ (C, oC') :: (D, oD') :: l')) → K (i + 1) ys' l' →
        ∃ x', n - x' < n - i ∧ x' ≤ n ∧ ∃ ys l o oC oD mc, OLst oD ys ∧ ys.length ≤ x' ∧ NsObj oC (lk mc) ∧ St w hw h₀ L h₄ m ((I, o) :: (src ++ (C, oC) :: (D, oD) :: l)) ∧ T x' h₄ ∧ K x' ys l := fun h₄ oC' mc' l' oD' ys' hD' hys' hC' S₄ hK' =>
      ⟨i + 1, Nat.sub_succ_lt_self n i hlt, hlt, ys', l', o', oC', oD', mc', hD', hys', hC', S₄, walk_frame W hfp S' S₄ hT', hK'⟩
    have after : ∀ (ok : Bool) (h₃ : Heap), ((ok = true → Wp (MM w) A (eval elt (compEnvC scope cl C env)) (fun y h₄ => ∃ oC' mc' l', NsObj oC' (lk mc') ∧ St w hw h₀ L h₄ m ((I, o') :: (src ++ (C, oC') :: (D, oD) :: l')) ∧ K (i + 1) (ys ++ [y]) l') NoE h₃) ∧
        (ok = false → ∃ oC' mc' l', NsObj oC' (lk mc') ∧ St w hw h₀ L h₃ m ((I, o') :: (src ++ (C, oC') :: (D, oD) :: l')) ∧ K (i + 1) ys l')) →
        Wp (MM w) A (do
          if ok then (do let _ ← call (.builtin "list.append") [.ref D, ← eval elt (compEnvC scope cl C env)])
          again (.compLoop (.ListComp elt [⟨target, iter, ifs, 0⟩] scope pos) 0 (.ref I) (.ref D) (compEnvC scope cl C env))) (fun fin h' => match fin with
            | .done f => R (.ok f) h'
            | .again c' => (c' = .compLoop (.ListComp elt [⟨target, iter, ifs, 0⟩] scope pos) 0 (.ref I) (.ref D) (compEnvC scope cl C env) ∧ ∃ x', n - x' < n - i ∧ x' ≤ n ∧ ∃ ys l o oC oD mc, OLst oD ys ∧ ys.length ≤ x' ∧ NsObj oC (lk mc) ∧ St w hw h₀ L h' m ((I, o) :: (src ++ (C, oC) :: (D, oD) :: l)) ∧ T x' h' ∧ K x' ys l) ∨ (c'.quiet = true ∧ Wc (MM w) A c' R h')) NoE h₃ := fun ok h₃ q => by
      cases ok with
      | false =>
        obtain ⟨oC', mc', l', hC', S₄, hK'⟩ := q.2 rfl
        exact Wp_pure (.inl ⟨rfl, next h₃ oC' mc' l' oD ys hD (by lia) hC' S₄ hK'⟩)
      | true =>
        refine Wp_bind (Wp_bind (Wp_post (q.1 rfl) fun y h₄ q₄ => ?_))
        obtain ⟨oC', mc', l', hC', S₄, hK'⟩ := q₄
        refine Wp_bind (s_append S₄ hD (.tail _ (List.mem_append_right _ (.tail _ (.head _)))) (by lia) fun oD' h₅ hD' u₅ => Wp_pure (Wp_pure (.inl ⟨rfl, ?_⟩)))
        have up : ∀ {s : Led}, Up D oD oD' (s ++ (C, oC') :: (D, oD) :: l') (s ++ (C, oC') :: (D, oD') :: l') := fun {s} => by
          induction s with
          | nil => exact .tail .head
          | cons p s ih => exact .tail ih
        exact next h₅ oC' mc' l' oD' (ys ++ [y]) hD' (by simp; lia) hC' (u₅ _ (.tail up)) hK'
    rcases hif with rfl | ⟨c, rfl⟩
    · exact Wp_bind (Wp_pure (after true h₂ q₂))
    · refine Wp_bind ?_
      rw [List.forIn_cons, if_pos rfl]
      unfold TestsW at q₂
      exact Wp_bind (Wp_bind (Wp_post q₂ fun ok h₃ q₃ => Wp_pure (Wp_pure (after ok h₃ q₃))))
  · subst hi; exact Wp_pure (done oD ys oC l h' hD hys hK S' ⟨mc, hC⟩)
theorem Wp_standIf {α : Type} {c : Prop} [Decidable c] {pos : Pos} {k : PUnit → Sem α} {Q : α → Heap → Prop} (x : Wp (MM w) A (k ()) Q E h) : Wp (MM w) A (if c then (standAt pos >>= k) else k ()) Q E h := by
  split
  · exact Wp_bind (Wp_standAt x)
  · exact x
/- what follows the turns: the list is handed back, or stored and then the frame's names are let go -/
noncomputable def CompFin (w : World) (A : Around) (hw h₀ : Heap) (L : Addr) (m : Loc) (Q : Value → Heap → Prop) (E : Value → Heap → Prop) (use : Option (Value → Sem Unit)) (v : Value) (h' : Heap) : Prop :=
  match use with
  | none => Q v h'
  | some u => ∀ C oC led mc, NsObj oC (lk mc) → h'.get? C = none → ∀ h₁, St w hw h₀ L h₁ m ((C, oC) :: led) → h'.StaysIn h₁ → Wp (MM w) A (u v) (fun _ h₂ => h₂.get? C = some oC ∧ ∀ h₃, Heap.SameBut C h₂ h₃ → Q .none h₃) E h₁
theorem comp_use {elt target iter : Expr} {ifs : List Expr} {pos : Pos} {fpos : Pos} {u : Option (Value → Sem Unit)} {Q : Value → Heap → Prop} (hif : ifs = [] ∨ ∃ c, ifs = [c])
    (hclos : closureFor scope env = pure cl) (hcell : ∀ y ∈ scope.names, y.2 ≠ .cell) (hkind : scope.kind = .function) (hnames : ∀ y ∈ scope.names, y.2 = .local → scope.names.lookup y.1 = some .local)
    (hs : ∀ x, foldedSetIterable iter env x = pure x)
    (x : Wp (MM w) A (eval iter env) (fun xv h₁ => Wp (MM w) A (pyIter xv) (fun it h₂ => CompOnU w A hw h₀ L m env elt target ifs scope cl (UseOr w A Q E u) it h₂) E h₁) E h) :
    Wp (MM w) A (comprehension (.ListComp elt [⟨target, iter, ifs, 0⟩] scope pos) scope env fpos (newList []) false (eval iter env) u) Q E h := by
  unfold comprehension
  rw [hclos]
  refine Wp_bind (Wp_post x fun xv h₁ q₁ => Wp_bind (Wp_standAt (Wp_bind ?_)))
  show Wp _ _ (foldedSetIterable iter env xv) _ _ _
  rw [hs]
  refine Wp_pure (Wp_bind (Wp_holding (Wp_post q₁ fun it h₂ q₂ => Wp_standIf ?_)))
  refine gh fun CC kk => ?_
  obtain ⟨I, fp, n, P, T, src, l, o, K, e, W, hI, hfp, hn, S, hT, hK, turn, done⟩ := q₂
  refine kk ?_
  clear kk CC
  subst e
  refine Wp_bind (s_list (vs := []) S (Nat.zero_le _) fun D oD h₃ hD S₃ => Wp_bind (Wp_pure (Wp_bind ?_)))
  refine Wp_of fun g d tk os => wpAny_newFunctionEnv hcell (by intro y hy; simp at hy) (fun h₄ hns hsb => ⟨⟨rfl, rfl, rfl⟩, ?_⟩) hkind
  obtain ⟨oC, hoC, hC⟩ := ns_obj (m := lk []) hns
  have keep : ∀ b o, h₃.get? b = some o → h₄.get? b = some o := fun b o e => hsb.extBut b o (Nat.ne_of_lt (Heap.lt_size e)) (Heap.get?_push_of_some _ e)
  have hCn : h₃.get? h₃.objs.size = none := Heap.get?_none_of_le (Nat.le_refl _)
  have S₄ : St w hw h₀ L h₄ m ((h₃.objs.size, oC) :: (D, oD) :: (I, o) :: (src ++ l)) := S₃.call0 (l' := [(h₃.objs.size, oC)]) ⟨Same.of keep, fun p hp => by
    obtain rfl := List.mem_singleton.mp hp
    exact ⟨hoC, .inr hCn⟩, by simp [adr]⟩
  generalize h₃.objs.size = C at hoC S₄ hCn hns hsb
  have p1 : (src ++ (C, oC) :: (D, oD) :: l).Perm ((C, oC) :: (D, oD) :: (src ++ l)) := List.perm_middle.trans (List.Perm.cons _ List.perm_middle)
  have S₅ : St w hw h₀ L h₄ m ((I, o) :: (src ++ (C, oC) :: (D, oD) :: l)) := S₄.perm ((((List.Perm.swap (I, o) (D, oD) (src ++ l)).cons (C, oC)).trans (List.Perm.swap (I, o) (C, oC) ((D, oD) :: (src ++ l)))).trans (p1.cons (I, o)).symm)
  have hT' : T 0 h₄ := walk_frame W hfp S S₅ hT
  dsimp only
  refine Wp_holding (Wp_bind (Wp_attempt (Wp_holding (Wp_run (Wc_mono (R := fun r h' => r = .ok .next ∧ UseOr w A Q E u C (.ref D) h') ?_ fun r h₅ q => ?_)))))
  · have loop := comp_loop (A := A) (env := env) (cl := cl) (scope := scope) (iter := iter) (pos := pos) (mc := []) (R := fun r h' => r = .ok .next ∧ UseOr w A Q E u C (.ref D) h') hif W hI hfp hn turn (fun oD' ys oC' l' h₆ hD' hys hK' S₆ hmc => ⟨rfl, ?_⟩) hD hC S₅ hT' hK
    · refine Wc_of_tree rfl ?_
      show Wp _ A ((compStart (.ListComp elt [⟨target, iter, ifs, 0⟩] scope pos) 0 (.ref I) (.ref D) (compEnvC scope cl C env)).onRaise (fun x => do noteFrame x (compEnvC scope cl C env); standAt theWindowsPlace)) _ _ _
      refine Wp_onRaise (Wp_noRaise ?_)
      unfold compStart
      show Wp _ _ (ask >>= _) _ _ _
      refine Wp_bind (Wp_of fun g d tk o => wpAny_askSetting ⟨⟨rfl, rfl, rfl⟩, ?_⟩)
      dsimp only
      split
      · exact Wp_pure ⟨rfl, loop⟩
      · refine Wp_bind (Wp_rule ?_)
        show Wp _ _ (standAt iter.pos >>= _) _ _ _
        exact Wp_bind (Wp_standAt (Wp_bind (Wp_of fun g d tk o => W.self 0 _ _ _ hT' ⟨⟨rfl, rfl, rfl⟩, Wp_pure ⟨rfl, loop⟩⟩)))
    · obtain ⟨mc, hC'⟩ := hmc
      have p2 : (src ++ (C, oC') :: (D, oD') :: l').Perm ((C, oC') :: (D, oD') :: (src ++ l')) := List.perm_middle.trans (List.Perm.cons _ List.perm_middle)
      have S₇ := S₆.perm p2
      exact done C oC' mc D oD' ys l' h₆ hC' hD' hys hK' S₇
  · obtain ⟨rfl, hq⟩ := q
    have hv : ∀ x ∈ (scope.names.filter fun x => (x.2 == .local || x.2 == .cell) && x.1 != (".0" : Str)).reverse, x.2 = .local →
        Env.kindOf { (newEnv scope C env.globals cl env.qual none Value.none (some env) builtinsNs) with scope := relabel scope env } x.1 = some .local := fun x hx hl => lookup_relabel_local (hnames x (List.mem_filter.mp (List.mem_reverse.mp hx)).1 hl)
    cases u with
    | none =>
      obtain ⟨oC', mc, hC', hoC', hq⟩ := hq
      exact Wp_bind (Wp_holding (Wp_of fun g d tk o => wpAny_comp_letGo (cenv := { (newEnv scope C env.globals cl env.qual none Value.none (some env) builtinsNs) with scope := relabel scope env }) hkind _ ⟨h₅, g, d, tk, o⟩ (lk mc) hv (hC'.ns hoC') fun h₆ m' _ hs' => ⟨⟨rfl, rfl, rfl⟩, Wp_pure (hq h₆ hs')⟩))
    | some u =>
      have hv' : ∀ x ∈ (scope.names.filter fun x => (x.2 == .local || x.2 == .cell) && x.1 != (".0" : Str)).reverse.drop 1 ++ (scope.names.filter fun x => (x.2 == .local || x.2 == .cell) && x.1 != (".0" : Str)).reverse.take 1,
          x.2 = .local → Env.kindOf { (newEnv scope C env.globals cl env.qual none Value.none (some env) builtinsNs) with scope := relabel scope env } x.1 = some .local := fun x hx hl => by
        rcases List.mem_append.mp hx with h1 | h1
        · exact hv x (List.mem_of_mem_drop h1) hl
        · exact hv x (List.mem_of_mem_take h1) hl
      refine Wp_bind (Wp_rule (Wp_bind (Wp_holding (Wp_post (show UseFin w A u Q E C (.ref D) h₅ from hq) fun _ h₆ q₆ => ?_))))
      obtain ⟨oC', mc, hC', hoC', hq'⟩ := q₆
      refine Wp_bind (Wp_of fun g d tk o => wpAny_comp_letGo (cenv := { (newEnv scope C env.globals cl env.qual none Value.none (some env) builtinsNs) with scope := relabel scope env }) hkind _ ⟨h₆, g, d, tk, o⟩ (lk mc) hv' (hC'.ns hoC') fun h₇ m' _ hs' => ⟨⟨rfl, rfl, rfl⟩, Wp_pure (hq' h₇ hs')⟩)
/- a list comprehension over what an iterator walks -/
theorem comp_core {elt target iter : Expr} {ifs : List Expr} {pos : Pos} {fpos : Pos} {Q : Value → Heap → Prop} (hif : ifs = [] ∨ ∃ c, ifs = [c])
    (hclos : closureFor scope env = pure cl) (hcell : ∀ y ∈ scope.names, y.2 ≠ .cell) (hkind : scope.kind = .function) (hnames : ∀ y ∈ scope.names, y.2 = .local → scope.names.lookup y.1 = some .local)
    (hs : ∀ x, foldedSetIterable iter env x = pure x)
    (x : Wp (MM w) A (eval iter env) (fun xv h₁ => Wp (MM w) A (pyIter xv) (fun it h₂ => CompOn w A hw h₀ L m env elt target ifs scope cl Q it h₂) E h₁) E h) :
    Wp (MM w) A (comprehension (.ListComp elt [⟨target, iter, ifs, 0⟩] scope pos) scope env fpos (newList []) false (eval iter env)) Q E h :=
  comp_use (hw := hw) (h₀ := h₀) (L := L) (m := m) (u := none) hif hclos hcell hkind hnames hs x
theorem e_ListComp {elt target iter : Expr} {ifs : List Expr} {pos : Pos} {Q : Value → Heap → Prop}
    (x : Wp (MM w) A (eval iter env) (fun xv h₁ => Wp (MM w) A (pyIter xv) (fun it h₂ => CompOn w A hw h₀ L m env elt target ifs scope cl Q it h₂) E h₁) E h)
    (hif : ifs = [] ∨ ∃ c, ifs = [c] := by first | exact .inl rfl | exact .inr ⟨_, rfl⟩) (hclos : closureFor scope env = pure cl := by with_unfolding_all rfl) (hcell : ∀ y ∈ scope.names, y.2 ≠ .cell := by decide +kernel) (hkind : scope.kind = .function := by with_unfolding_all rfl)
    (hnames : ∀ y ∈ scope.names, y.2 = .local → scope.names.lookup y.1 = some .local := by decide +kernel) (hs : ∀ x, foldedSetIterable iter env x = pure x := by intro _; with_unfolding_all rfl) :
    Wp (MM w) A (eval (.ListComp elt [⟨target, iter, ifs, 0⟩] scope pos) env) Q E h := by
  rw [arm_eval_ListComp]
  exact comp_core hif hclos hcell hkind hnames hs x

/- the iterators of this law -/
theorem iter_list {oa : Obj} {items : List Value} {Q : Value → Heap → Prop} (S : St w hw h₀ L h m led) (hv : OLst oa items) (hm : (a, oa) ∈ led) (q : ∀ I o h', h'.IsListIter I a 0 → St w hw h₀ L h' m ((I, o) :: led) → Q (.ref I) h') : Wp (MM w) A (pyIter (.ref a)) Q E h := Wp_of fun g d tk os =>
  wpAny_pyIter_list (hv.at (S.get hm)) ⟨⟨rfl, rfl, rfl⟩, q _ _ _ ⟨_, Heap.get?_push_size _ rfl, rfl, rfl⟩ (S.push { cls := .type "list_iterator", data := .fields #[.ref a, .int 0 0] })⟩
theorem list_there {I : Addr} {items : Array Value} : ∀ i (h : Heap), (h.IsListIter I a i ∧ h.IsList a items) → ∃ o, h.get? I = some o := fun i h x => let ⟨o, e, _⟩ := x.1; ⟨o, e⟩
theorem for_l {target : Expr} {body : List Stmt} {Q : Flow → Heap → Prop} {src l : Led} {oa : Obj} {items : List Value} (hh : A.handled = none) (K : Nat → Loc → Led → Prop) (S : St w hw h₀ L h m (src ++ l)) (hv : OLst oa items) (hm : (a, oa) ∈ src) (hK : K 0 m l)
    (turn : ∀ i v m l I o h, items[i]? = some v → K i m l → h.IsListIter I a (i + 1) → St w hw h₀ L h m ((I, o) :: (src ++ l)) → ∀ J : Heap → Prop, (∀ h' m' l', St w hw h₀ L h' m' ((I, o) :: (src ++ l')) → K (i + 1) m' l' → J h') →
      Wp (MM w) A (letOwnedTupleGo target (.ref I) v) (KGo w A E env target v body rest Q J) NoE h)
    (done : ∀ m l h, K items.length m l → St w hw h₀ L h m (src ++ l) → Seq w A rest env Q E .next h) : Wp (MM w) A (pyIter (.ref a)) (KFor2 w A E env target body [] rest Q) E h := by
  refine iter_list S hv (List.mem_append_left _ hm) fun I o h' hI S' => ?_
  have hne : a ≠ I := fun e => (List.nodup_cons.mp S'.nd).1 (List.mem_map.mpr ⟨(a, oa), List.mem_append_left _ hm, e⟩)
  have ha := S'.get (.tail _ (List.mem_append_left _ hm))
  refine for_w (n := items.toArray.size) K (Walks.list hh I a hne items.toArray) list_there (fun b hb => ?_) S' ⟨hI, hv.at ha⟩ hK (fun i v m l o h hi hP hK hT S => ?_) (fun m l h hK S => done m l h (by simpa using hK) S)
  · simp at hb
    rcases hb with rfl | rfl
    · exact .inl rfl
    · exact .inr (.inl (List.mem_map_of_mem (f := (·.1)) hm))
  · exact turn i v m l I o h (by simpa using hP) hK hT.1 S
theorem compOn_l {elt target : Expr} {ifs : List Expr} {Q : Value → Heap → Prop} {src l : Led} {oa : Obj} {items : List Value} (hh : A.handled = none) (K : Nat → List Value → Led → Prop) (S : St w hw h₀ L h m (src ++ l)) (hv : OLst oa items) (hm : (a, oa) ∈ src) (hz : items.length ≤ 16777216) (hK : K 0 [] l)
    (turn : ∀ i v ys l I o C oC D oD mc h, items[i]? = some v → K i ys l → h.IsListIter I a (i + 1) → OLst oD ys → NsObj oC (lk mc) → St w hw h₀ L h m ((I, o) :: (src ++ (C, oC) :: (D, oD) :: l)) → CompBody w A hw h₀ L m env elt target ifs scope cl I src K i v ys o C D oD h)
    (done : ∀ D oD ys l h', OLst oD ys → ys.length ≤ items.length → K items.length ys l → St w hw h₀ L h' m ((D, oD) :: (src ++ l)) → Q (.ref D) h') : Wp (MM w) A (pyIter (.ref a)) (fun it h₂ => CompOn w A hw h₀ L m env elt target ifs scope cl Q it h₂) E h := by
  refine iter_list S hv (List.mem_append_left _ hm) fun I o h' hI S' => ?_
  have hne : a ≠ I := fun e => (List.nodup_cons.mp S'.nd).1 (List.mem_map.mpr ⟨(a, oa), List.mem_append_left _ hm, e⟩)
  have ha := S'.get (.tail _ (List.mem_append_left _ hm))
  refine ⟨I, _, items.toArray.size, _, _, src, l, o, K, rfl, Walks.list hh I a hne items.toArray, list_there, (fun b hb => ?_), by rw [List.size_toArray]; exact hz, S', ⟨hI, hv.at ha⟩, hK, (fun i v ys l o C oC D oD mc h hi hP hK hT hD hC S => ?_), no_done fun D oD ys l h' hD hys hK S => done D oD ys l h' hD (by simpa using hys) (by simpa using hK) S⟩
  · simp at hb
    rcases hb with rfl | rfl
    · exact .inl rfl
    · exact .inr (.inl (List.mem_map_of_mem (f := (·.1)) hm))
  · exact turn i v ys l I o C oC D oD mc h (by simpa using hP) hK hT.1 hD hC S
/- range(n) -/
theorem iter_range {r : Addr} {n : Nat} {t u v : Tok} {Q : Value → Heap → Prop} (S : St w hw h₀ L h m led) (hr : h.get? r = some { cls := .type "range", data := .fields #[.int 0 t, .int n u, .int 1 v] }) (hn : n < 1000000)
    (q : ∀ I o h', IsRangeIter h' I 0 n 1 → St w hw h₀ L h' m ((I, o) :: led) → Q (.ref I) h') : Wp (MM w) A (pyIter (.ref r)) Q E h := Wp_of fun g d tk os => by
  have hrs : Builtin.Range.rangeSize 0 n 1 = n := by rw [rangeSize_one]; split <;> lia
  have hr' : IsRange h r 0 n 1 t u v := hr
  refine wpAny_pyIter_range hr' (small_one (by lia) (by lia) (by lia) (by lia)) ?_
  rw [hrs]
  exact ⟨⟨rfl, rfl, rfl⟩, q _ _ _ (Heap.get?_push_size _ rfl) (S.push { cls := .type "range_iterator", data := .fields #[rawInt 0, rawInt n, rawInt 1] })⟩
theorem call_range {n : Int} {t : Tok} {Q : Value → Heap → Prop} (S : St w hw h₀ L h m led) (q : ∀ r t' v h', h'.get? r = some { cls := .type "range", data := .fields #[.int 0 t', .int n t, .int 1 v] } → St w hw h₀ L h' m led → Q (.ref r) h') : Wp (MM w) A (call (.type "range") [.int n t] []) Q E h := Wp_of fun g d tk os =>
  call_range_1 ⟨⟨rfl, rfl, rfl⟩, q _ _ _ _ (Heap.get?_push_size _ rfl) (S.grow fun b o e => Heap.get?_push_of_some _ e)⟩
theorem range_there {I : Addr} {n : Nat} : ∀ i (h : Heap), IsRangeIter h I (0 + (i : Nat) * 1) ((n : Int) - (i : Nat)) 1 → ∃ o, h.get? I = some o := fun i h x => ⟨_, x⟩
theorem for_r {target : Expr} {body : List Stmt} {Q : Flow → Heap → Prop} {l : Led} {r : Addr} {n : Nat} {t u v : Tok} (hh : A.handled = none) (K : Nat → Loc → Led → Prop) (S : St w hw h₀ L h m l)
    (hr : h.get? r = some { cls := .type "range", data := .fields #[.int 0 t, .int n u, .int 1 v] }) (hn : n < 1000000) (hK : K 0 m l)
    (turn : ∀ i tk m l I o h, i < n → K i m l → St w hw h₀ L h m ((I, o) :: l) → ∀ J : Heap → Prop, (∀ h' m' l', St w hw h₀ L h' m' ((I, o) :: l') → K (i + 1) m' l' → J h') →
      Wp (MM w) A (letOwnedTupleGo target (.ref I) (.int i tk)) (KGo w A E env target (.int i tk) body rest Q J) NoE h)
    (done : ∀ m l h, K n m l → St w hw h₀ L h m l → Seq w A rest env Q E .next h) : Wp (MM w) A (pyIter (.ref r)) (KFor2 w A E env target body [] rest Q) E h := by
  refine iter_range S hr hn fun I o h' hI S' => ?_
  refine for_w (src := []) K (Walks.range hh I 0 1 n) range_there (fun b hb => .inl (by simpa using hb)) S' (by simpa using hI) hK (fun i v m l o h hi hP hK hT S => ?_) done
  obtain ⟨tk, rfl⟩ := hP
  have e : (0 + (i : Int) * 1) = (i : Int) := by lia
  rw [e]
  exact turn i tk m l I o h hi hK S
theorem compOn_r {elt target : Expr} {ifs : List Expr} {Q : Value → Heap → Prop} {l : Led} {r : Addr} {n : Nat} {t u v : Tok} (hh : A.handled = none) (K : Nat → List Value → Led → Prop) (S : St w hw h₀ L h m l)
    (hr : h.get? r = some { cls := .type "range", data := .fields #[.int 0 t, .int n u, .int 1 v] }) (hn : n < 1000000) (hK : K 0 [] l)
    (turn : ∀ i tk ys l I o C oC D oD mc h, i < n → K i ys l → OLst oD ys → NsObj oC (lk mc) → St w hw h₀ L h m ((I, o) :: (C, oC) :: (D, oD) :: l) → CompBody w A hw h₀ L m env elt target ifs scope cl I [] K i (.int i tk) ys o C D oD h)
    (done : ∀ D oD ys l h', OLst oD ys → ys.length ≤ n → K n ys l → St w hw h₀ L h' m ((D, oD) :: l) → Q (.ref D) h') : Wp (MM w) A (pyIter (.ref r)) (fun it h₂ => CompOn w A hw h₀ L m env elt target ifs scope cl Q it h₂) E h := by
  refine iter_range S hr hn fun I o h' hI S' => ?_
  refine ⟨I, _, n, _, _, [], l, o, K, rfl, Walks.range hh I 0 1 n, range_there, (fun b hb => .inl (by simpa using hb)), by lia, S', by simpa using hI, hK, (fun i v ys l o C oC D oD mc h hi hP hK hT hD hC S => ?_), no_done done⟩
  obtain ⟨tk, rfl⟩ := hP
  have e : (0 + (i : Int) * 1) = (i : Int) := by lia
  rw [e]
  exact turn i tk ys l I o C oC D oD mc h hi hK hD hC S
/- an octet string -/
theorem iter_bytes {b : List UInt8} {t : Tok} {Q : Value → Heap → Prop} (S : St w hw h₀ L h m led) (q : ∀ I o h', KBw.IsBytesIter h' I b.toArray t 0 → St w hw h₀ L h' m ((I, o) :: led) → Q (.ref I) h') : Wp (MM w) A (pyIter (.bytes b.toArray t)) Q E h := Wp_of fun g d tk os =>
  KBw.pyIter_bytes ⟨⟨rfl, rfl, rfl⟩, q _ _ _ ⟨_, Heap.get?_push_size _ rfl, rfl, rfl⟩ (S.push { cls := .type "bytes_iterator", data := .fields #[.bytes b.toArray t, .int 0 0] })⟩
theorem bytes_there {I : Addr} {b : Array UInt8} {t : Tok} : ∀ i (h : Heap), KBw.IsBytesIter h I b t i → ∃ o, h.get? I = some o := fun i h x => let ⟨o, e, _⟩ := x; ⟨o, e⟩
theorem for_b {target : Expr} {body : List Stmt} {Q : Flow → Heap → Prop} {l : Led} {b : List UInt8} {t : Tok} (hh : A.handled = none) (K : Nat → Loc → Led → Prop) (S : St w hw h₀ L h m l) (hK : K 0 m l)
    (turn : ∀ i c tk m l I o h, b[i]? = some c → K i m l → St w hw h₀ L h m ((I, o) :: l) → ∀ J : Heap → Prop, (∀ h' m' l', St w hw h₀ L h' m' ((I, o) :: l') → K (i + 1) m' l' → J h') →
      Wp (MM w) A (letOwnedTupleGo target (.ref I) (.int c.toNat tk)) (KGo w A E env target (.int c.toNat tk) body rest Q J) NoE h)
    (done : ∀ m l h, K b.length m l → St w hw h₀ L h m l → Seq w A rest env Q E .next h) : Wp (MM w) A (pyIter (.bytes b.toArray t)) (KFor2 w A E env target body [] rest Q) E h := by
  refine iter_bytes S fun I o h' hI S' => ?_
  refine for_w (src := []) (n := b.toArray.size) K (KBw.walks hh I b.toArray t) bytes_there (fun b hb => .inl (by simpa using hb)) S' hI hK (fun i v m l o h hi hP hK hT S => ?_) (fun m l h hK S => done m l h (by simpa using hK) S)
  obtain ⟨c, tk, hc, rfl⟩ := hP
  exact turn i c tk m l I o h (by simpa using hc) hK S
theorem compOn_b {elt target : Expr} {ifs : List Expr} {Q : Value → Heap → Prop} {l : Led} {b : List UInt8} {t : Tok} (hh : A.handled = none) (K : Nat → List Value → Led → Prop) (S : St w hw h₀ L h m l) (hz : b.length ≤ 16777216) (hK : K 0 [] l)
    (turn : ∀ i c tk ys l I o C oC D oD mc h, b[i]? = some c → K i ys l → OLst oD ys → NsObj oC (lk mc) → St w hw h₀ L h m ((I, o) :: (C, oC) :: (D, oD) :: l) → CompBody w A hw h₀ L m env elt target ifs scope cl I [] K i (.int c.toNat tk) ys o C D oD h)
    (done : ∀ D oD ys l h', OLst oD ys → ys.length ≤ b.length → K b.length ys l → St w hw h₀ L h' m ((D, oD) :: l) → Q (.ref D) h') : Wp (MM w) A (pyIter (.bytes b.toArray t)) (fun it h₂ => CompOn w A hw h₀ L m env elt target ifs scope cl Q it h₂) E h := by
  refine iter_bytes S fun I o h' hI S' => ?_
  refine ⟨I, _, b.toArray.size, _, _, [], l, o, K, rfl, KBw.walks hh I b.toArray t, bytes_there, (fun b hb => .inl (by simpa using hb)), by rw [List.size_toArray]; exact hz, S', hI, hK, (fun i v ys l o C oC D oD mc h hi hP hK hT hD hC S => ?_), no_done fun D oD ys l h' hD hys hK S => done D oD ys l h' hD (by simpa using hys) (by simpa using hK) S⟩
  obtain ⟨c, tk, hc, rfl⟩ := hP
  exact turn i c tk ys l I o C oC D oD mc h (by simpa using hc) hK hD hC S
end

end
section
open PySem PySem.W PyProof.Rows PySem.Calls PySem.Spec PySem.SeqAt LCg
set_option Elab.async false
set_option linter.unusedVariables false
set_option maxRecDepth 100000

/- a dict whose keys are names: what it maps, and that it is no longer than the list -/
noncomputable def IObj (o : Obj) (m : Loc) : Prop := ∃ es n, o.data = .dict es n ∧ StrKeys es ∧ (∀ name, nsFind es name = lk m name) ∧ es.size ≤ m.length
theorem IObj.noRef {es : Array DictEntry} (hk : StrKeys es) : es.any (·.refKey) = false := by
  rw [Array.any_eq_false']; intro e he; obtain ⟨n, t, h⟩ := hk e he; simp [DictEntry.refKey, h]
theorem IObj.look {o : Obj} {m : Loc} (x : IObj o m) (name : Str) : lookIn name o = some (lk m name) := by
  refine gh fun CC kk => ?_
  obtain ⟨es, n, hd, hk, hm, _⟩ := x
  refine kk ?_
  clear kk CC
  unfold lookIn
  rw [hd, ← hm name]
  unfold nsFind findBy
  have h1 : es.toList.find? (·.key.isStr name) = es.find? (·.key.isStr name) := by simp
  have h2 : es.toList.any (·.refKey) = false := by rw [Array.any_toList]; exact IObj.noRef hk
  dsimp only
  rw [h1, h2]
  cases es.find? (·.key.isStr name) <;> rfl
theorem put_len {x : Str} {v : Value} : ∀ {m : Loc}, m.length ≤ (put x v m).length
  | [] => by simp [put]
  | (y, u) :: m => by
    unfold put
    split
    · simp
    · have := @put_len x v m
      simp; lia
theorem put_len_new {x : Str} {v : Value} : ∀ {m : Loc}, lk m x = none → (put x v m).length = m.length + 1
  | [], _ => by simp [put]
  | (y, u) :: m, h => by
    unfold lk at h
    rw [List.lookup_cons] at h
    split at h
    · cases h
    · rename_i hb
      have hne : ¬ x = y := by simpa using hb
      unfold put
      rw [if_neg hne]
      have := @put_len_new x v m h
      simp; lia
theorem IObj.new : IObj emptyDict [] := ⟨#[], 0, rfl, fun _ he => by simp at he, fun _ => rfl, Nat.le_refl _⟩
theorem IObj.slots {o : Obj} {m : Loc} (x : IObj o m) (sl : Array (Option Value)) : IObj { o with slots := sl } m := x
/- one name laid, in any heap where the object stands -/
theorem IObj.put {o : Obj} {m : Loc} {name : Str} {hash : Int} {t : Tok} {v : Value} (x : IObj o m) : IObj (o.putName name hash (.str name t) v) (Mine.put name v m) ∧ (o.putName name hash (.str name t) v).isFreed = false := by
  refine gh fun CC kk => ?_
  obtain ⟨es, n, hd, hk, hm, hz⟩ := x
  obtain ⟨c, d, dt, sl⟩ := o
  refine kk ?_
  clear kk CC
  dsimp only at hd
  subst hd
  rw [Obj.putName_eq]
  unfold Obj.putNameByArray
  dsimp only
  cases hi : es.findIdx? (·.key.isStr name) with
  | some i =>
    refine ⟨⟨_, n, rfl, hk.modify _ _, fun y => ?_, by have := @put_len name v m; simp; lia⟩, rfl⟩
    rw [lkp, ← hm]
    exact findBy_modify (fun n v => v.isStr n) Value.isStr_inj es name y v i hi
  | none =>
    refine ⟨⟨_, n + 1, rfl, hk.push _ _ _ _, fun y => ?_, ?_⟩, rfl⟩
    · rw [lkp, ← hm]
      exact findBy_push (fun n v => v.isStr n) es name y _ _ v (fun y => by
        show (name == y) = decide (y = name)
        by_cases h : y = name
        · subst h; simp
        · have : ¬ name = y := fun e => h e.symm
          simp [h, this]) hi
    · have hn : lk m name = none := by
        rw [← hm]
        unfold nsFind findBy
        have : es.find? (fun e => e.key.isStr name) = none := by
          rw [Array.find?_eq_none]; intro e he
          simpa using (Array.findIdx?_eq_none_iff.mp hi) e he
        rw [this]; rfl
      rw [put_len_new hn]
      simp; lia

/- what a class of ours says of a name that lies in its instances alone -/
structure Clean (P : Params) (C : Addr) (name : Str) : Prop where
  get : plainGet (KF P) C name = true
  has : hasDictIn (KF P) C = true
  no : findIn (KF P) (.ref C) name = some none
  taker : takerIn (KF P) C name = some none
  over : plainOver (KF P) C = true
  sets : findIn (KF P) (.ref C) "__setattr__" = some (some (.builtin "object.__setattr__"))
theorem clean141 (P : Params) : plainGet (KF P) 141 "at" = true ∧ hasDictIn (KF P) 141 = true ∧ plainOver (KF P) 141 = true ∧ findIn (KF P) (.ref 141) "__setattr__" = some (some (.builtin "object.__setattr__")) := by
  refine ⟨?_, ?_, ?_, ?_⟩ <;> kernel_rfl
theorem clean212 (P : Params) : plainGet (KF P) 212 "at" = true ∧ hasDictIn (KF P) 212 = true ∧ plainOver (KF P) 212 = true ∧ findIn (KF P) (.ref 212) "__setattr__" = some (some (.builtin "object.__setattr__")) := by
  refine ⟨?_, ?_, ?_, ?_⟩ <;> kernel_rfl
theorem clean_of {P : Params} {C : Addr} {name : Str} (x : plainGet (KF P) C "at" = true ∧ hasDictIn (KF P) C = true ∧ plainOver (KF P) C = true ∧ findIn (KF P) (.ref C) "__setattr__" = some (some (.builtin "object.__setattr__")))
    (no : findIn (KF P) (.ref C) name = some none) : Clean P C name := ⟨x.1, x.2.1, no, by unfold takerIn; rw [no]; rfl, x.2.2.1, x.2.2.2⟩
theorem cl_octets (P : Params) : Clean P 141 "octets" := clean_of (clean141 P) (by kernel_rfl)
theorem cl_at (P : Params) : Clean P 141 "at" := clean_of (clean141 P) (by kernel_rfl)
theorem cl_rows (P : Params) : Clean P 141 "rows" := clean_of (clean141 P) (by kernel_rfl)
theorem cl_text (P : Params) : Clean P 141 "text" := clean_of (clean141 P) (by kernel_rfl)
theorem cl_opened (P : Params) : Clean P 141 "opened" := clean_of (clean141 P) (by kernel_rfl)
theorem cl_names (P : Params) : Clean P 212 "names" := clean_of (clean212 P) (by kernel_rfl)
theorem cl_booleans (P : Params) : Clean P 212 "booleans" := clean_of (clean212 P) (by kernel_rfl)
theorem cl_numbers (P : Params) : Clean P 212 "numbers" := clean_of (clean212 P) (by kernel_rfl)
theorem cl_strings (P : Params) : Clean P 212 "strings" := clean_of (clean212 P) (by kernel_rfl)
theorem cl_more (P : Params) : Clean P 212 "more" := clean_of (clean212 P) (by kernel_rfl)
theorem cl_uses (P : Params) : Clean P 212 "uses" := clean_of (clean212 P) (by kernel_rfl)

section
variable {w : World} {A : Around} {E : Value → Heap → Prop} {hw h₀ h : Heap} {L x dx C : Addr} {m mo : Loc} {led : Led} {od : Obj} {name : Str}

theorem inst_at (hx : h.get? x = some (instObj C dx)) (hd : h.get? dx = some od) : InstAt h x (instObj C dx) C (some od) := ⟨hx, rfl, rfl, hd⟩
theorem o_get {v : Value} {expr : Bool} {Q : Value → Heap → Prop} (D : Wo w hw h) (cl : Clean w.params C name) (hx : h.get? x = some (instObj C dx)) (hd : h.get? dx = some od) (ho : IObj od mo) (hv : lk mo name = some v) (hh : handedIn v = true) (q : Q v h) :
    Wp (MM w) A (getAttr (.ref x) name expr) Q E h := Wp_of fun g d tk os =>
  get_value D.K (inst_at hx hd) (plainGet_of cl.get).1 (findObj_own cl.has cl.no rfl (by rw [ho.look, hv])) hh ⟨⟨rfl, rfl, rfl⟩, q⟩
theorem o_meth {f : Addr} {pl : Sem Bool} {Q : Value × List Value → Heap → Prop} (D : Wo w hw h) (cl : plainGet (KF w.params) C name = true) (hx : h.get? x = some (instObj C dx)) (hd : h.get? dx = some od) (ho : IObj od mo) (hv : lk mo name = none)
    (hf : findIn (KF w.params) (.ref C) name = some (some (.ref f))) (ht : typeIn (KF w.params) (.ref f) = some (.type "function")) (q : Q (.ref f, [.ref x]) h) : Wp (MM w) A (getMethod (.ref x) name pl) Q E h := Wp_of fun g d tk os =>
  method_fn D.K (inst_at hx hd) (plainGet_of cl).1 (plainGet_of cl).2 hf ht (by unfold shadowIn; first | (rw [ho.look, hv]; rfl) | (simp only [ho.look, hv]; rfl)) ⟨⟨rfl, rfl, rfl⟩, q⟩
theorem o_set {v : Value} {Q : Unit → Heap → Prop} (S : St w hw h₀ L h m led) (cl : Clean w.params C name) (hx : (x, instObj C dx) ∈ led) (hd : (dx, od) ∈ led) (ho : IObj od mo) (hz : mo.length ≤ 1000)
    (q : ∀ od' h', IObj od' (put name v mo) → (∀ led', Up dx od od' led led' → St w hw h₀ L h' m led') → Q () h') : Wp (MM w) A (setAttr (.ref x) name v) Q E h := Wp_of fun g d tk os => by
  have D := S.wd
  have I := inst_at (S.get hx) (S.get hd)
  have hdd := S.get hd
  have hxx := S.get hx
  refine set_plain D.K I cl.sets ?_
  dsimp only
  refine osa_open D.K I cl.over cl.taker fun b => ?_
  refine gh fun CC kk => ?_
  obtain ⟨cd, hc, hd'⟩ := any_some cl.has
  refine kk ?_
  clear kk CC
  refine wpAny_bind (wpAny_pure (wpAny_bind (wpAny_bind (wpAny_loadPart hxx (wpAny_bind ((looks_clsIn D.K hc).here ?_))))))
  rw [hd']
  refine wpAny_pure (a := some dx) (wpAny_bind (wpAny_pure (wpAny_bind ?_)))
  unfold nsSet
  refine wpAny_bind (wpAny_bind (wpAny_askSetting (wpAny_pure (wpAny_bind (wpAny_mkText (wpAny_bind (wpAny_loadPart hdd ?_)))))))
  refine gh fun CC kk => ?_
  obtain ⟨es, n, q1, q2, q3, q4⟩ := id ho
  refine kk ?_
  clear kk CC
  rw [q1]
  dsimp only
  have c : (!es.any (·.key.isStr name) && es.any (·.refKey)) = false := by rw [IObj.noRef q2, Bool.and_false]
  rw [aRefKeyMayBeTheName_eq, aRefKeyMayBeTheNameByArray, c]
  refine wpAny_updatePart hdd ?_
  obtain ⟨p1, p2⟩ := ho.put (name := name) (hash := PyData.keyHash w.params name) (t := tk + 1) (v := v)
  have hn := Heap.get?_update_self (Obj.putName name (PyData.keyHash w.params name) (.str name (tk + 1)) v) hdd p2
  refine gh fun CC kk => ?_
  obtain ⟨es', n', e1, e2, e3, e4⟩ := id p1
  refine kk ?_
  clear kk CC
  have hlen : es'.size ≤ 1001 := by
    have : (put name v mo).length ≤ mo.length + 1 := by
      cases hl : lk mo name with
      | none => rw [put_len_new hl]; exact Nat.le_refl _
      | some u =>
        have : ∀ m : Loc, (put name v m).length ≤ m.length + 1 := fun m => by
          induction m with
          | nil => simp [put]
          | cons p m ih =>
            obtain ⟨y, u⟩ := p
            unfold put
            split
            · simp
            · simp; lia
        exact this mo
    lia
  refine wpAny_bind (wpAny_lookBehind hn (by rw [e1]; exact pastItsLine_dict (by rw [sizeLine_eq]; lia)) ?_)
  refine wpAny_pure ?_
  refine ⟨⟨rfl, rfl, rfl⟩, q _ _ p1 fun led' u => S.upd u (fun b o hne e => (Heap.get?_update_other _ _ (Ne.symm hne)).trans e) hn⟩
end

end
section
open PySem PySem.W PyProof.Rows PySem.Calls PySem.Spec PySem.SeqAt LCg
set_option Elab.async false
set_option linter.unusedVariables false
set_option maxRecDepth 100000

section
variable {w : World} {A : Around} {E : Value → Heap → Prop} {h : Heap} {C : Addr}
theorem Wp_looks {α : Type} {t : Sem α} {r : α} {Q : α → Heap → Prop} (x : Looks (MM w) h t r) (q : Q r h) : Wp (MM w) A t Q E h := Wp_of fun g d tk o => x _ _ _ _ (fun _ _ e => e) ⟨⟨rfl, rfl, rfl⟩, q⟩

noncomputable abbrev mkA (A : Around) (C : Addr) (rest : List Value) : Around := A.under (.builtin "type.__call__" ⟨.ref C :: rest, []⟩)
theorem mkA_units {rest : List Value} : (mkA A C rest).units ≤ A.units + 8 := by
  show A.units + (Code.builtin "type.__call__" ⟨.ref C :: rest, []⟩).cUnits ≤ _
  have e : (Code.builtin "type.__call__" ⟨.ref C :: rest, []⟩).cUnits = 1 := by first | rfl | decide
  lia
theorem mkA_guards {rest : List Value} (hg : A.guards = some []) : (mkA A C rest).guards = some [] := by
  unfold mkA Around.under
  dsimp only
  rw [hg]; rfl
theorem Rm.make {n : Nat} {rest : List Value} (r : Rm A (n + 1)) : Rm (mkA A C rest) n := by
  refine ⟨r.hd, ?_, ?_, mkA_guards r.gd⟩
  · have := r.dp
    show A.depth + 1 + n < _
    lia
  · have := r.un
    have := mkA_units (A := A) (C := C) (rest := rest)
    lia

/- an object is made: its maker, then its own __init__ -/
theorem o_make {rest : List Value} {fI : Addr} {newId : String} {oc : Value} {odc : Option Addr} {cd : ClassData} {sl : Array (Option Value)} {Q : Value → Heap → Prop} (D : Wo w hw h)
    (hC : h.get? C = some ⟨oc, odc, .cls cd, sl⟩) (hcl : clsIn (KF w.params) C = some cd) (e4 : cd.mro.isEmpty = false) (hmro : cd.mro.contains (.ref C) = true)
    (made : Looks (MM w) h (Bind.madeBy (.ref C)) (some newId)) (hcall : specialIn (KF w.params) (.ref C) "__call__" = some (some (.builtin "type.__call__"))) (htyp : instIn (KF w.params) (.ref C) (.type "type") = some true)
    (hi : findIn (KF w.params) (.ref C) "__init__" = some (some (.ref fI))) (hf : typeIn (KF w.params) (.ref fI) = some (.type "function"))
    (hnew : Wp (MM w) (mkA A C rest) (call (.builtin newId) (.ref C :: rest) []) (fun v h₁ => ∃ x, v = .ref x ∧ h.StaysIn h₁ ∧ Looks (MM w) h₁ (typeOf (.ref x)) (.ref C) ∧
      Wp (MM w) (mkA A C rest) (call (.ref fI) (.ref x :: rest) []) (fun r h₂ => r = .none ∧ Q (.ref x) h₂) E h₁) E h) : Wp (MM w) A (call (.ref C) rest []) Q E h := by
  have self : Looks (MM w) h (isSubtype (.ref C) (.ref C)) true := looks_mroIn D.K (by unfold mroIn; rw [hcl, Option.bind_some, if_neg (by rw [e4]; decide), hmro])
  have hcall' : Looks (MM w) h (specialOf (.ref C) "__call__") (some (.builtin "type.__call__")) := looks_specialIn D.K hcall
  have typ : Looks (MM w) h (isInstance (.ref C) (.type "type")) true := looks_instIn D.K htyp
  have hinit : Looks (MM w) h (typeLookup (.ref C) "__init__") (some (.ref fI)) := looks_findIn D.K hi
  refine Wp_call (Wc_of_tree rfl (Wp_of fun g d tk o => ?_))
  show wpAny _ _ (callAny (.ref C) _) _ _ _
  refine nd_load hC ?_
  show wpAny _ _ (callAny.viaDunder (.ref C) _) _ _ _
  unfold callAny.viaDunder
  refine wpAny_bind (hcall'.at ?_)
  dsimp only
  rw [tc_bind]
  refine wpAny_bind (wpAny_pure (wpAny_bind (wpAny_pure ?_)))
  refine wpAny_pure (a := Fin.again (.call (.builtin "type.__call__") ⟨.ref C :: rest, []⟩)) (And.intro ⟨rfl, rfl, rfl⟩ (And.intro rfl ?_))
  refine Wc_of_tree rfl ?_
  show Wp _ A.in1 (do checkBuiltinCall "type.__call__" ⟨.ref C :: rest, []⟩; again (.builtin "type.__call__" ⟨.ref C :: rest, []⟩)) _ _ _
  refine Wp_bind (Wp_of fun g d tk o => ?_)
  with_reducible refine check_slot tc_kind tc_split typ (tc_args _ _ _) ?_
  refine ⟨⟨rfl, rfl, rfl⟩, ?_⟩
  refine Wp_pure ⟨Code.quiet_builtin _ (by decide +kernel), ?_⟩
  refine Wc_builtin' rfl (by decide +kernel) entry_typeCall ?_
  have hm : Looks (MM w) h (mroOf (.ref C)) cd.mro := ((Looks.ld (part := none) hC).andThen .now).andThen .now
  show Wp _ _ (do
    if (← mroOf (.ref C)).isEmpty then rule "type.call.half-made"; raiseError "TypeError" s!"cannot create '{← typeName (.ref C)}' instances"
    let new ← match ← Bind.madeBy (.ref C) with
      | some id => pure (.builtin id)
      | none => getAttr (.ref C) "__new__"
    let obj ← holding [new] (call new (.ref C :: rest) [])
    if !(← isInstance obj (.ref C)) then rule "type.call.new-gave-other-type"; return ← ret obj
    match ← holding [obj] (callSpecial? obj "__init__" rest []) with
    | none => ret obj
    | some r =>
      if r != .none then
        rule "type.call.init-returned-value"
        raiseError "TypeError" s!"__init__() should return None, not '{← typeNameOf r}'"
      ret obj) _ _ _
  refine Wp_bind (Wp_looks hm ?_)
  refine Wp_ff e4 ?_
  refine Wp_bind (Wp_looks made ?_)
  refine Wp_bind (Wp_pure ?_)
  refine Wp_bind (Wp_holding (Wp_post hnew fun v h₁ q => ?_))
  obtain ⟨x, rfl, k, t1, q⟩ := q
  have D₁ := D.mono k
  refine Wp_bind (Wp_looks (t1.andThen (self.keeps k)) (Wp_ff rfl ?_))
  refine Wp_bind (Wp_holding ?_)
  unfold callSpecial? specialOf
  refine Wp_bind (Wp_bind (Wp_looks t1 (Wp_looks (hinit.keeps k) ?_)))
  refine Wp_holding (Wp_bind (Wp_looks (bind_fn D₁.K _ hf) (Wp_bind (Wp_post q fun r h₂ q₂ => ?_))))
  obtain ⟨rfl, q₂⟩ := q₂
  refine Wp_pure (Wp_ff rfl ?_)
  exact Wp_pure q₂

noncomputable def mkOk (K : Frag) (C : Addr) (id : String) : Bool := match K.lookup C with
  | some ⟨_, _, .cls cd, sl⟩ => (sl.toList[4]?).join == some (.builtin id) && !cd.mro.isEmpty && cd.mro.contains (.ref C)
  | _ => false
theorem mkOk_of {P : Params} {C : Addr} {id : String} {h : Heap} {M : Model} (X : (KF P).In h) (e : mkOk (KF P) C id = true) : ∃ oc odc cd sl, h.get? C = some ⟨oc, odc, .cls cd, sl⟩ ∧ clsIn (KF P) C = some cd ∧ cd.mro.isEmpty = false ∧ cd.mro.contains (.ref C) = true ∧
    Looks M h (Bind.madeBy (.ref C)) (some id) := by
  unfold mkOk at e
  split at e
  · rename_i oc od cd sl ho
    simp only [Bool.and_eq_true, Bool.not_eq_true', beq_iff_eq] at e
    obtain ⟨⟨e3, e4⟩, e5⟩ := e
    have hc : clsIn (KF P) C = some cd := by unfold clsIn; rw [ho]
    refine ⟨oc, od, cd, sl, X _ _ ho, hc, e4, e5, ?_⟩
    have hm : Looks M h (mroOf (.ref C)) cd.mro := (looks_clsIn X hc).andThen .now
    obtain ⟨c, l, hl⟩ : ∃ c l, cd.mro = c :: l := by cases q : cd.mro with | nil => rw [q] at e4; cases e4 | cons c l => exact ⟨c, l, rfl⟩
    intro A Q E s k q
    unfold Bind.madeBy
    refine wpAny_bind (hm A _ E s k ?_)
    rw [hl, List.forIn_cons]
    refine wpAny_bind (wpAny_bind (wpAny_bind (wpAny_bind (wpAny_loadPart (k _ _ (X _ _ ho)) (wpAny_pure ?_)))))
    dsimp only
    rw [← Array.getElem?_toList, e3]
    exact wpAny_pure (wpAny_pure (wpAny_pure q))
  · cases e
/- an object of a class of ours, with a dict of its own -/
theorem o_new {hw h₀ : Heap} {L : Addr} {m : Loc} {led : Led} {rest : List Value} {fI : Addr} {Q : Value → Heap → Prop} (S : St w hw h₀ L h m led) (mk : mkOk (KF w.params) C "object.__new__" = true) (mk' : makesIn (KF w.params) C = true)
    (hcall : specialIn (KF w.params) (.ref C) "__call__" = some (some (.builtin "type.__call__"))) (htyp : instIn (KF w.params) (.ref C) (.type "type") = some true)
    (hi : findIn (KF w.params) (.ref C) "__init__" = some (some (.ref fI))) (hf : typeIn (KF w.params) (.ref fI) = some (.type "function"))
    (k : ∀ x dx h', St w hw h₀ L h' m ((x, instObj C dx) :: (dx, emptyDict) :: led) → Wp (MM w) (mkA A C rest) (call (.ref fI) (.ref x :: rest) []) (fun r h₂ => r = .none ∧ Q (.ref x) h₂) E h') : Wp (MM w) A (call (.ref C) rest []) Q E h := by
  have D := S.wd
  obtain ⟨oc, odc, cd, sl, hC, hcl, e4, e5, made⟩ := mkOk_of (M := MM w) D.K mk
  refine o_make D hC hcl e4 e5 made hcall htyp hi hf ?_
  refine Wp_of fun g d tk o => wpAny_call (new_K (makes_of D.K mk') (looks_findIn D.K hi) (.inl rfl) ?_)
  have S₁ := (S.push emptyDict).push (instObj C h.objs.size)
  rw [Heap.size_push] at S₁
  refine ⟨⟨rfl, rfl, rfl⟩, _, rfl, (fun b o e => Heap.get?_push_of_some _ (Heap.get?_push_of_some _ e)), (Looks.ld (S₁.get (.head _))).andThen .now, ?_⟩
  exact k _ _ _ S₁
end

end
section
open PySem PySem.W PyProof.Rows PySem.Calls PySem.Spec PySem.SeqAt LCg Builtin Builtin.ObjectAttr Builtin.Getset_descriptor
set_option Elab.async false
set_option linter.unusedVariables false
set_option maxRecDepth 100000

noncomputable abbrev excClass : Obj := excClassObj "BadParam" "BadParam" 45 44 [.ref 32] [.ref 32, .type "Exception", .type "BaseException", .type "object"] true [] [] false none none (some (.ref 36)) none (some (.str "BadParam" 218)) (some (.str "BadParam" 226)) (some (.bool true)) "Exception.__new__"
theorem k45 (P : Params) : (KF P).lookup 45 = some excClass := by kernel_rfl
noncomputable abbrev excObj (tp : Addr) (d : Option Addr) (tb : Value) : Obj := { cls := .ref 45, dict := d, data := .fields #[.ref tp, tb, .none, .none, .bool false, .none] }

section
variable {w : World} {A : Around} {E : Value → Heap → Prop} {hw h₀ h : Heap} {L x dx : Addr} {m : Loc} {led : Led}

theorem x_code {R : Result → Shared → Prop} {g : Array GenState} {d : Drawn} {t : Nat} {os : OsState} {rest : List Value} (hC : h.get? 45 = some excClass) (hrest : rest.length ≤ sizeLine)
    (hq : R (.ok (.ret (.ref (h.objs.size + 1)))) ⟨(h.push { cls := .type "tuple", data := .seq rest.toArray }).push (excObj h.objs.size none .none), g, d, t, os⟩) :
    codeAny (model pw w) A (.builtin "Exception.__new__" ⟨.ref 45 :: rest, []⟩) R ⟨h, g, d, t, os⟩ := by
  have Fn := PySem.F.excBase_Exception
  have hends := Fn.ends
  have hcB : (Value.ref 45 :: [Value.ref 32, .type "Exception", .type "BaseException", .type "object"]).contains (.type "Exception") = true := by decide +kernel
  have hcA : (Value.ref 45 :: [Value.ref 32, .type "Exception", .type "BaseException", .type "object"]).contains (.type "AttributeError") = false := by decide +kernel
  have hcN : (Value.ref 45 :: [Value.ref 32, .type "Exception", .type "BaseException", .type "object"]).contains (.type "NameError") = false := by decide +kernel
  refine codeAny_builtinAt Fn.entry ?_
  unfold Builtin.«BaseException.__new__»
  refine PySem.wpAt_bind ?_
  show PySem.wpAt _ _ _ (stack >>= _) _ _ _
  refine PySem.wpAt_bind (PySem.wpAt_stack fun p below => PySem.wpAt_of_wpAny ?_)
  wp_walk
  refine PySem.wpAt_of_wpAny ?_
  rw [Fn.owner]
  repeat (first | with_reducible refine wpAny_madeHere_exc Fn.canon hC ?_ | with_reducible refine wpAny_loadPart_at hC ?_ | (with_reducible refine wpAny_isSubtype_exc hC ?_; first | rw [hcB] | rw [hcA] | rw [hcN]) | wp_step)
  show R _ _
  rw [Heap.size_push]
  exact hq
theorem x_check {M : Model} {E : Value → Shared → Prop} {g : Array GenState} {d : Drawn} {t : Nat} {os : OsState} {rest : List Value} {Q : Unit → Shared → Prop} (hC : h.get? 45 = some excClass)
    (hq : Q () ⟨h, g, d, t, os⟩) : wpAny M A (checkBuiltinCall "Exception.__new__" ⟨.ref 45 :: rest, []⟩) Q E ⟨h, g, d, t, os⟩ := by
  have F := PySem.F.excBase_Exception
  have hcont : (Value.ref 45 :: [Value.ref 32, .type "Exception", .type "BaseException", .type "object"]).contains (.type "Exception") = true := by decide +kernel
  have hstar := F.noStar
  simp only [checkBuiltinCall, F.newKind, F.newSplit, F.newRow]
  repeat (first | with_reducible refine wpAny_loadPart_at hC ?_ | (with_reducible refine wpAny_isSubtype_exc hC ?_; rw [hcont]) | with_reducible refine wpAny_staticBase_exc hC ?_ | with_reducible refine wpAny_madeBy_exc hC ?_ | simp only [bne_self_eq_false, Bool.false_eq_true, if_false] | wp_step)
  exact hq
/- a BadParam is made: its maker, then TermError's __init__ -/
theorem x_new {n : Value} {Q : Value → Heap → Prop} (S : St w hw h₀ L h m led)
    (k : ∀ x tp h', St w hw h₀ L h' m ((x, excObj tp none .none) :: led) → Wp (MM w) (mkA A 45 [n]) (call (.ref 29) (.ref x :: [n]) []) (fun r h₂ => r = .none ∧ Q (.ref x) h₂) E h') : Wp (MM w) A (call (.ref 45) [n] []) Q E h := by
  have D := S.wd
  have mk : mkOk (KF w.params) 45 "Exception.__new__" = true := by kernel_rfl
  obtain ⟨oc, odc, cd, sl, hC, hcl, e4, e5, made⟩ := mkOk_of (M := MM w) D.K mk
  have hC' := D.K _ _ (k45 _)
  refine o_make D hC hcl e4 e5 made (by kernel_rfl) (by kernel_rfl) (fI := 29) (by kernel_rfl) (by kernel_rfl) ?_
  refine Wp_of fun g d tk o => wpAny_call (codeAny_call_builtin_code (Code.quiet_builtin _ PySem.F.excBase_Exception.quiet) (x_check hC' (x_code hC' (by rw [sizeLine_eq]; exact Nat.le_of_ble_eq_true rfl) ?_)))
  have S₁ := (S.push { cls := .type "tuple", data := .seq [n].toArray }).push (excObj h.objs.size none .none)
  rw [Heap.size_push] at S₁
  have S₂ := S₁.sub (l' := (h.objs.size + 1, excObj h.objs.size none .none) :: led) (.cons_cons _ (List.sublist_cons_self _ _))
  exact ⟨⟨rfl, rfl, rfl⟩, _, rfl, (fun b o e => Heap.get?_push_of_some _ (Heap.get?_push_of_some _ e)), (Looks.ld (S₁.get (.head _))).andThen .now, k _ _ _ S₂⟩

theorem x_refuse (self : Value) : refuseLoop self "__setattr__" [.ref 45, .ref 32, .type "Exception", .type "BaseException", .type "object"] = pure () := by
  rw [refuseLoop_ref, refuseLoop_ref]
  kernel_rfl
end

end
section
open PySem PySem.W PyProof.Rows PySem.Calls PySem.Spec PySem.SeqAt LCg Builtin Builtin.ObjectAttr Builtin.Getset_descriptor
set_option Elab.async false
set_option linter.unusedVariables false
set_option maxRecDepth 100000
set_option maxHeartbeats 4000000

section
variable {w : World} {A : Around} {E : Value → Heap → Prop} {hw h₀ h : Heap} {L x dx : Addr} {m : Loc} {led : Led}

theorem l45_set (P : Params) : findIn (KF P) (.ref 45) "__setattr__" = some (some (.builtin "object.__setattr__")) := by kernel_rfl
theorem l45_told (P : Params) : findIn (KF P) (.ref 45) "told" = some none := by kernel_rfl
theorem l45_get (P : Params) : findIn (KF P) (.ref 45) "__getattribute__" = some (some (.builtin "BaseException.__getattribute__")) := by kernel_rfl
theorem l45_hook (P : Params) : findIn (KF P) (.ref 45) "__getattr__" = some none := by kernel_rfl
theorem l45_obj (P : Params) : mroIn (KF P) 45 (.type "object") = some true := by kernel_rfl
theorem x_set {tp : Addr} {v : Value} {Q : Unit → Heap → Prop} (S : St w hw h₀ L h m ((x, excObj tp none .none) :: led))
    (q : ∀ dx od h', IObj od [("told", v)] → St w hw h₀ L h' m ((dx, od) :: (x, excObj tp (some dx) .none) :: led) → Q () h') : Wp (MM w) A (setAttr (.ref x) "told" v) Q E h := Wp_of fun g d tk os => by
  have D := S.wd
  have hx := S.get (.head _)
  have SF := PySem.F.store_object
  have I : PySem.W.InstAt h x (excObj tp none .none) 45 none := ⟨hx, rfl, rfl, trivial⟩
  have hC := D.K _ _ (k45 _)
  refine set_plain D.K I (l45_set _) ?_
  have sub : Looks (MM w) h (isInstance (.ref x) (.type "object")) true := I.type.andThen (looks_mroIn D.K (l45_obj _))
  have hm : Looks (MM w) h (mroOf (.ref 45)) [.ref 45, .ref 32, .type "Exception", .type "BaseException", .type "object"] := ((Looks.ld (part := none) hC).andThen .now).andThen .now
  have hno : Looks (MM w) h (typeLookup (.ref 45) "told") none := looks_findIn D.K (l45_told _)
  refine codeAny_call_builtin SF.slot.plain SF.entry (@check_slot (model pw w) _ _ ⟨h, g, d, tk + 1, os⟩ "object.__setattr__" "object" "__setattr__" (.ref x) [.str "told" tk, v] [] _ SF.kind SF.split sub (SF.args (.ref x) (.str "told" tk) v) ?_)
  rw [osa_eq, refuse_eq]
  refine wpAny_bind (wpAny_bind (I.type.here (wpAny_bind (hm.here ?_))))
  rw [x_refuse]
  refine wpAny_pure (wpAny_bind (I.type.here (wpAny_bind (hno.here (wpAny_bind (wpAny_pure ?_))))))
  dsimp only
  show wpAny _ _ (storeInOwnDict (.ref x) (.ref 45) (.str "told" _) "told" v false) _ _ _
  unfold storeInOwnDict
  refine wpAny_bind (wpAny_pure ?_)
  rw [if_neg (by decide)]
  refine wpAny_bind ?_
  show wpAny _ _ (instanceDict x true) _ _ _
  unfold instanceDict
  refine wpAny_bind (wpAny_loadPart hx ?_)
  refine gh fun CC kk => ?_
  obtain ⟨cd, hc, hd'⟩ : ∃ cd, clsIn (KF w.params) 45 = some cd ∧ cd.hasDict = true := any_some (by kernel_rfl)
  refine kk ?_
  clear kk CC
  refine wpAny_bind ((looks_clsIn D.K hc).here ?_)
  rw [hd']
  refine wpAny_bind (wpAny_alloc ?_)
  have S₁ := S.push emptyDict
  have hx₁ := S₁.get (.tail _ (.head _))
  refine wpAny_bind (wpAny_update hx₁ ?_)
  have hx₂ := Heap.get?_update_self (fun o : Obj => { o with dict := some h.objs.size }) hx₁ rfl
  have S₂ : St w hw h₀ L _ m ((h.objs.size, emptyDict) :: (x, excObj tp (some h.objs.size) .none) :: led) := St.upd S₁ (.tail .head) (fun b o hne e => (Heap.get?_update_other _ _ (Ne.symm hne)).trans e) hx₂
  refine wpAny_pure (a := some h.objs.size) ?_
  have hdd := S₂.get (.head _)
  dsimp only
  show wpAny _ _ (storeInDict h.objs.size (.str "told" _) "told" v) _ _ _
  unfold storeInDict
  refine wpAny_bind (wpAny_pure (wpAny_bind ?_))
  unfold nsSet
  refine wpAny_bind (wpAny_bind (wpAny_askSetting (wpAny_pure (wpAny_bind (wpAny_mkText (wpAny_bind (wpAny_loadPart hdd ?_)))))))
  have c : aRefKeyMayBeTheName "told" (#[] : Array DictEntry) = false := rfl
  dsimp only
  rw [c]
  refine wpAny_updatePart hdd ?_
  obtain ⟨p1, p2⟩ := IObj.new.put (name := "told") (hash := PyData.keyHash w.params "told") (t := tk + 1) (v := v)
  have hn := Heap.get?_update_self (Obj.putName "told" (PyData.keyHash w.params "told") (.str "told" (tk + 1)) v) hdd p2
  refine gh fun CC kk => ?_
  obtain ⟨es', n', e1, e2, e3, e4⟩ := id p1
  refine kk ?_
  clear kk CC
  refine wpAny_bind (wpAny_lookBehind hn (by rw [e1]; exact pastItsLine_dict (by rw [sizeLine_eq]; exact Nat.le_trans e4 (Nat.le_of_ble_eq_true rfl))) ?_)
  refine wpAny_pure ?_
  refine ⟨⟨rfl, rfl, rfl⟩, q _ _ _ p1 (S₂.upd .head (fun b o hne e => (Heap.get?_update_other _ _ (Ne.symm hne)).trans e) hn)⟩

theorem l45_base (P : Params) : mroIn (KF P) 45 (.type "BaseException") = some true := by kernel_rfl
theorem l45_dict (P : Params) : hasDictIn (KF P) 45 = true := by kernel_rfl
theorem ga_kind : builtinKind "BaseException.__getattribute__" = some .slot := by decide +kernel
theorem ga_split : splitId "BaseException.__getattribute__" = some ("BaseException", "__getattribute__") := by decide +kernel
theorem x_get {oe od : Obj} {i : Int} {t : Tok} {expr : Bool} {Q : Value → Heap → Prop} (D : Wo w hw h) (hx : h.get? x = some oe) (hc : oe.cls = .ref 45) (hdt : ∀ c, oe.data ≠ .cls c) (hdc : oe.dict = some dx) (hd : h.get? dx = some od) (ho : IObj od [("told", .int i t)])
    (q : Q (.int i t) h) : Wp (MM w) A (getAttr (.ref x) "told" expr) Q E h := Wp_of fun g d tk os => by
  refine gh fun CC kk => ?_
  obtain ⟨c', dc', dt', sl'⟩ := oe
  refine kk ?_
  clear kk CC
  dsimp only at hc hdc hdt
  subst hc hdc
  have I : PySem.W.InstAt h x ⟨.ref 45, some dx, dt', sl'⟩ 45 (some od) := ⟨hx, rfl, (by cases dt' <;> first | rfl | exact (hdt _ rfl).elim), hd⟩
  have FX := PySem.F.attr_Exception
  have hm2 : Looks (MM w) h (typeLookup (.ref 45) "__getattribute__") (some (.builtin "BaseException.__getattribute__")) := looks_findIn D.K (l45_get _)
  have hm3 : Looks (MM w) h (typeLookup (.ref 45) "__getattr__") none := looks_findIn D.K (l45_hook _)
  have hm4 : Looks (MM w) h (isInstance (.ref x) (.type "BaseException")) true := I.type.andThen (looks_mroIn D.K (l45_base _))
  have hm5 : Looks (MM w) h (find (.ref x) (.ref 45) "told") (.value (.int i t)) := looks_find D.K I (findObj_own (l45_dict _) (l45_told _) rfl (by rw [ho.look]; rfl))
  refine wpAny_bind (wpAny_mkText ?_)
  unfold getAttrBy
  refine wpAny_holding (wpAny_bind (I.type.here (wpAny_bind (hm2.here ?_))))
  dsimp only
  rw [if_neg (by decide +kernel)]
  unfold getAttrByItsOwn
  refine wpAny_bind ?_
  show wpAny _ _ (typeLookup (.ref 45) "__getattr__") _ _ _
  refine hm3.here ?_
  refine wpAny_bind (wpAny_attempt (wpAny_holding ?_))
  unfold callGetattribute
  rw [show (expr && onTheHeap (Value.builtin "BaseException.__getattribute__")) = false from by cases expr <;> rfl]
  rw [if_neg (by decide)]
  unfold boundAndCalled
  rw [FX.ga.bind]
  refine wpAny_bind (wpAny_pure (wpAny_call ?_))
  refine codeAny_call_builtin FX.ga.plain PySem.F.entry_bexc_ga (@check_slot (model pw w) _ _ ⟨h, g, d, tk + 1, os⟩ "BaseException.__getattribute__" "BaseException" "__getattribute__" (.ref x) [.str "told" tk] [] _ ga_kind ga_split hm4 (PySem.F.args_bexc_ga _ _) ?_)
  refine wpAny_bind (wpAny_pure (wpAny_bind (wpAny_pure (wpAny_bind (I.type.here (wpAny_bind (hm5.here ?_)))))))
  refine wpAny_pure ?_
  dsimp only
  exact wpAny_pure ⟨⟨rfl, rfl, rfl⟩, q⟩
end

end
section
open PySem PySem.W PyProof.Rows PySem.Calls PySem.Spec PySem.SeqAt LCg Builtin Builtin.ObjectAttr Builtin.Getset_descriptor
set_option Elab.async false
set_option linter.unusedVariables false
set_option maxRecDepth 100000
set_option maxHeartbeats 4000000

theorem dict_mapFields (f : Array Value → Array Value) (o : Obj) : (o.mapFields f).dict = o.dict := by
  refine gh fun CC kk => ?_
  obtain ⟨c, d, dt, sl⟩ := o
  refine kk ?_
  clear kk CC
  cases dt <;> rfl
/- a BadParam that flies, told k: where it flies (fl) -/
noncomputable def ExcAt (B h : Heap) (a : Addr) (k : Int) (fl : Value) : Prop :=
  ∃ oe vs T oT ts dx od t, h.get? a = some oe ∧ oe.cls = .ref 45 ∧ oe.dict = some dx ∧ oe.data = .fields vs ∧ vs[1]? = some (.ref T) ∧ T ≠ a ∧ h.get? T = some oT ∧ oT.data = .fields ts ∧ ts[3]? = some fl ∧
    (h.get? dx = some od ∧ IObj od [("told", .int k t)]) ∧ B.get? a = none ∧ B.get? T = none
structure Fl (H : Heap) (W : List Addr) (l : List Env) (k : Int) (fl : Value) (a : Addr) (h : Heap) : Prop where
  stay : (hideAll H W).StaysIn h
  up : ∀ b ∈ W, ∀ o, H.get? b = some o → ∃ sl, h.get? b = some { o with slots := sl }
  nf : ∀ b ∈ W, ∀ o, H.get? b = some o → ∀ vs, o.data ≠ .fields vs
  fr : h.FunFrames (hideAll H W) l
  exc : ExcAt (hideAll H W) h a k fl
theorem Fl.next {H h h' : Heap} {W : List Addr} {l : List Env} {k : Int} {fl fl' : Value} {a : Addr} (x : Fl H W l k fl a h) (s : (hideAll H W).StaysIn h') (u : h.UpToSlots h') (e : ExcAt (hideAll H W) h' a k fl') : Fl H W l k fl' a h' :=
  ⟨s, fun b hb o ho => by
    obtain ⟨sl, e1⟩ := x.up b hb o ho
    obtain ⟨sl', e2⟩ := u b _ e1 (x.nf b hb o ho)
    exact ⟨sl', e2⟩, x.nf, x.fr.of_keeps fun b o ho hn => let ⟨sl, e⟩ := u b o ho hn; ⟨_, e, rfl⟩, e⟩
theorem Fl.drop {H h : Heap} {W : List Addr} {env : Env} {l : List Env} {k : Int} {fl : Value} {a : Addr} (x : Fl H W (env :: l) k fl a h) : Fl H W l k fl a h := ⟨x.stay, x.up, x.nf, x.fr.2.2, x.exc⟩

section
variable {M : Model} {A : Around} {E : Value → Shared → Prop} {s : Shared}
theorem fl_entry {B : Heap} {env : Env} {outer : List Env} {L e : Addr} {oe : Obj} {vs : Array Value} {head : Value} {hadNext : Bool} {Q : Unit → Shared → Prop}
    (hfr : A.frames = some (env :: outer)) (hl : s.heap.FunFrames B (env :: outer)) (hf : env.frame = some L)
    (he : s.heap.get? e = some oe) (hkb : B.StaysIn s.heap) (hen : B.get? e = none) (hd : oe.data = .fields vs) (hsz : 1 < vs.size)
    (h : ∀ h' T oe' oT ts, h'.get? e = some oe' → oe'.cls = oe.cls → oe'.dict = oe.dict → oe'.data = .fields (vs.setIfInBounds 1 (.ref T)) → T ≠ e → B.get? T = none → h'.get? T = some oT → oT.data = .fields ts → ts[3]? = some (rawInt L) → B.StaysIn h' → s.heap.UpToSlots h' → Q () { s with heap := h' }) :
    wpAny M A (do let a ← frameOf env; let pl ← entryPlaceOf L hadNext; let b ← EntryCells.newEntry head a .none (rawInt L) .none pl; setField (.ref e) 1 b) Q E s := by
  have hene : e ∉ (env :: outer).filterMap (·.frame) := fun hm => by
    refine gh fun CC kk => ?_
    obtain ⟨_, o, ho, hnf⟩ := hl.mem hm
    refine kk ?_
    clear kk CC
    rw [he] at ho; cases ho; exact hnf vs hd
  refine wpAny_bind (wpAny_frameOf_fun hfr hl hf fun h₁ hs₁ => wpAny_bind (wpAny_entryPlaceOf fun pl hpl => ?_))
  unfold EntryCells.newEntry newFields
  refine wpAny_bind (wpAny_newObj_type ?_ (hpl.sizeOk5 _ _ _ _ _))
  have he₁ : h₁.get? e = some oe := (hs₁.2.1 e hene).trans he
  have kb₁ : B.StaysIn h₁ := fun b o hbo => (hs₁.2.1 b fun hm => by rw [(hl.mem hm).1] at hbo; cases hbo).trans (hkb b o hbo)
  have hTe : h₁.objs.size ≠ e := Nat.ne_of_gt (Heap.lt_size he₁)
  have hnT := kb₁.fresh
  generalize hoT : ({ cls := .type "traceback", dict := none, data := .fields ([head, .ref L, .none, rawInt L, .none] ++ (if pl.isEmpty then List.replicate 6 Value.none else pl)).toArray } : Obj) = oT
  have hTd : oT.data = .fields ([head, .ref L, .none, rawInt L, .none] ++ (if pl.isEmpty then List.replicate 6 Value.none else pl)).toArray := by rw [← hoT]
  have hTf : oT.isFreed = false := by rw [← hoT]; rfl
  have he₂ := Heap.get?_push_of_some (h := h₁) oT he₁
  refine wpAny_setField he₂ hd hsz ?_
  have hd₃ := Obj.data_mapFields hd (·.setIfInBounds 1 (Value.ref h₁.objs.size))
  have he₃ := Heap.get?_update_self (Obj.mapFields (·.setIfInBounds 1 (Value.ref h₁.objs.size))) he₂ (Obj.isFreed_of_fields hd₃)
  have hT₃ := (Heap.get?_update_other (h₁.push oT) (Obj.mapFields (·.setIfInBounds 1 (Value.ref h₁.objs.size))) (Ne.symm hTe)).trans (Heap.get?_push_size h₁ hTf)
  have keep : ∀ b o, b ≠ e → h₁.get? b = some o → ((h₁.push oT).update e (Obj.mapFields (·.setIfInBounds 1 (Value.ref h₁.objs.size)))).get? b = some o := fun b o hbe hb => by
    rw [Heap.get?_update_other _ _ (Ne.symm hbe)]
    exact Heap.get?_push_of_some _ hb
  refine h _ h₁.objs.size _ oT _ he₃ (Obj.cls_mapFields _ _) (dict_mapFields _ _) hd₃ hTe hnT hT₃ hTd (by simp) (fun b o hbo => keep b o (fun q => by rw [q, hen] at hbo; cases hbo) (kb₁ b o hbo)) fun b o hb hnf => ?_
  obtain ⟨sl, hs⟩ := hs₁.2.2 b o hb
  exact ⟨sl, keep b _ (fun q => by rw [q, he] at hb; cases hb; exact hnf vs hd) hs⟩
/- one field of a record turned, what else there is stands -/
theorem turned {h : Heap} {T : Addr} {oT : Obj} {ts : Array Value} {B : Heap} (f : Array Value → Array Value) (hT : h.get? T = some oT) (hd : oT.data = .fields ts) (hn : B.get? T = none) (kb : B.StaysIn h) :
    (∃ o', (h.update T (Obj.mapFields f)).get? T = some o' ∧ o'.data = .fields (f ts)) ∧ (∀ b, b ≠ T → (h.update T (Obj.mapFields f)).get? b = h.get? b) ∧ B.StaysIn (h.update T (Obj.mapFields f)) ∧ h.UpToSlots (h.update T (Obj.mapFields f)) := by
  have d := Obj.data_mapFields hd f
  have o1 : ∀ b, b ≠ T → (h.update T (Obj.mapFields f)).get? b = h.get? b := fun b hb => Heap.get?_update_other _ _ (Ne.symm hb)
  refine ⟨⟨_, Heap.get?_update_self (Obj.mapFields f) hT (Obj.isFreed_of_fields d), d⟩, o1, fun b o e => (o1 b fun q => by rw [q, hn] at e; cases e).trans (kb b o e), fun b o e hnf => ⟨o.slots, (o1 b fun q => ?_).trans e⟩⟩
  rw [q, hT] at e; cases e; exact hnf ts hd
/- a record noted: the frame that it flies through, or it lies there already -/
theorem fl_note {H : Heap} {W : List Addr} {env : Env} {outer : List Env} {L e : Addr} {k : Int} {fl : Value} {Q : Unit → Shared → Prop} (hfr : A.frames = some (env :: outer)) (hf : env.frame = some L) (hfl : fl = .none ∨ fl = rawInt L)
    (x : Fl H W (env :: outer) k fl e s.heap) (h : ∀ h', Fl H W (env :: outer) k (rawInt L) e h' → Q () { s with heap := h' }) : wpAny M A (noteFrame (.ref e) env) Q E s := by
  refine gh fun CC kk => ?_
  obtain ⟨oe, vs, T, oT, ts, dx, od, t, he, hc, hdx, hd, h1, hTe, hT, hdT, h3, ⟨hod, hI⟩, hen, hnT⟩ := x.exc
  refine kk ?_
  clear kk CC
  unfold noteFrame
  simp only [hf]
  refine wpAny_bind (wpAny_field he hd h1 ?_)
  rw [if_pos (show (Value.ref T != Value.none) = true from by simp)]
  refine wpAny_bind (wpAny_field hT hdT h3 ?_)
  rcases hfl with rfl | rfl
  · rw [if_neg (show ¬ ((Value.none == rawInt L) = true) from by simp [rawInt])]
    refine wpAny_bind (wpAny_setField hT hdT (Array.getElem?_eq_some_iff.mp h3).1 ?_)
    refine gh fun CC kk => ?_
    obtain ⟨_, other, kb, us⟩ := turned (·.setIfInBounds 3 Value.none) hT hdT hnT x.stay
    refine kk ?_
    clear kk CC
    have he' := (other e (Ne.symm hTe)).trans he
    refine fl_entry hfr (x.fr.of_keeps fun b o ho hn => let ⟨sl, e⟩ := us b o ho hn; ⟨_, e, rfl⟩) hf he' kb hen hd (Array.getElem?_eq_some_iff.mp h1).1 fun h' T' oe' oT' ts' g1 g2 g3 g4 g5 g6 g7 g8 g9 g10 g11 => h h' ?_
    have us' := us.trans g11
    obtain ⟨sl, hod'⟩ := us' dx od hod (by obtain ⟨es, n, q, _⟩ := hI; rw [q]; exact fun vs q => by cases q)
    exact x.next g10 us' ⟨oe', _, T', oT', ts', dx, _, t, g1, g2.trans hc, g3.trans hdx, g4, by simp [(Array.getElem?_eq_some_iff.mp h1).1], g5, g7, g8, g9, ⟨hod', hI.slots sl⟩, hen, g6⟩
  · rw [if_pos (show (rawInt L == rawInt L) = true from by simp)]
    exact wpAny_pure (h _ x)
theorem fl_set {H : Heap} {W : List Addr} {l : List Env} {e : Addr} {k : Int} {fl : Value} {f : Option Addr} {Q : Unit → Shared → Prop} (x : Fl H W l k fl e s.heap)
    (h : ∀ h', Fl H W l k (f.elim .none fun f => rawInt f) e h' → Q () { s with heap := h' }) : wpAny M A (setFlight (.ref e) f) Q E s := by
  refine gh fun CC kk => ?_
  obtain ⟨oe, vs, T, oT, ts, dx, od, t, he, hc, hdx, hd, h1, hTe, hT, hdT, h3, ⟨hod, hI⟩, hen, hnT⟩ := x.exc
  refine kk ?_
  clear kk CC
  unfold setFlight
  refine wpAny_bind (wpAny_field he hd h1 ?_)
  rw [if_pos (show (Value.ref T != Value.none) = true from by simp)]
  have hsz3 := (Array.getElem?_eq_some_iff.mp h3).1
  refine wpAny_setField hT hdT hsz3 (h _ ?_)
  refine gh fun CC kk => ?_
  obtain ⟨⟨oT', g1, g2⟩, other, kb, us⟩ := turned (·.setIfInBounds 3 (f.elim Value.none fun f => rawInt f)) hT hdT hnT x.stay
  refine kk ?_
  clear kk CC
  have hne : dx ≠ T := fun q => by
    refine gh fun CC kk => ?_
    obtain ⟨es, n, q', _⟩ := hI
    refine kk ?_
    clear kk CC
    rw [q, hT] at hod; cases hod; rw [hdT] at q'; cases q'
  exact x.next kb us ⟨oe, vs, T, oT', _, dx, od, t, (other e (Ne.symm hTe)).trans he, hc, hdx, hd, h1, hTe, g1, g2, by simp [hsz3], ⟨(other dx hne).trans hod, hI⟩, hen, hnT⟩
/- the first note: the exception is new -/
theorem fl_first {H : Heap} {W : List Addr} {env : Env} {outer : List Env} {L e dx : Addr} {k : Int} {t : Tok} {oe od : Obj} {vs : Array Value} {Q : Unit → Shared → Prop} (hfr : A.frames = some (env :: outer)) (hf : env.frame = some L)
    (stay : (hideAll H W).StaysIn s.heap) (up : ∀ b ∈ W, ∀ o, H.get? b = some o → ∃ sl, s.heap.get? b = some { o with slots := sl }) (nf : ∀ b ∈ W, ∀ o, H.get? b = some o → ∀ vs, o.data ≠ .fields vs) (fr : s.heap.FunFrames (hideAll H W) (env :: outer))
    (he : s.heap.get? e = some oe) (hc : oe.cls = .ref 45) (hdx : oe.dict = some dx) (hd : oe.data = .fields vs) (h1 : vs[1]? = some .none) (hod : s.heap.get? dx = some od) (hI : IObj od [("told", .int k t)]) (hen : (hideAll H W).get? e = none)
    (h : ∀ h', Fl H W (env :: outer) k (rawInt L) e h' → Q () { s with heap := h' }) : wpAny M A (noteFrame (.ref e) env) Q E s := by
  unfold noteFrame
  simp only [hf]
  refine wpAny_bind (wpAny_field he hd h1 ?_)
  rw [if_neg (by decide)]
  refine fl_entry hfr fr hf he stay hen hd (Array.getElem?_eq_some_iff.mp h1).1 fun h' T' oe' oT' ts' g1 g2 g3 g4 g5 g6 g7 g8 g9 g10 us => h h' ?_
  obtain ⟨sl, hod'⟩ := us dx od hod (by obtain ⟨es, n, q, _⟩ := hI; rw [q]; exact fun vs q => by cases q)
  refine ⟨g10, fun b hb o ho => ?_, nf, fr.of_keeps fun b o ho hn => let ⟨sl, e⟩ := us b o ho hn; ⟨_, e, rfl⟩, oe', _, T', oT', ts', dx, _, t, g1, g2.trans hc, g3.trans hdx, g4, by simp [(Array.getElem?_eq_some_iff.mp h1).1], g5, g7, g8, g9, ⟨hod', hI.slots sl⟩, hen, g6⟩
  obtain ⟨sl, e1⟩ := up b hb o ho
  obtain ⟨sl', e2⟩ := us b _ e1 (nf b hb o ho)
  exact ⟨sl', e2⟩
end

end
section
open PySem PySem.W PyProof.Rows PySem.Calls PySem.Spec PySem.SeqAt LCg Builtin Builtin.ObjectAttr Builtin.Getset_descriptor
set_option Elab.async false
set_option linter.unusedVariables false
set_option maxRecDepth 100000
set_option maxHeartbeats 4000000

/- what flies out of a call, and what flies in a body -/
noncomputable def Fly (H : Heap) (W : List Addr) (A : Around) (P : Int → Prop) (e : Value) (h : Heap) : Prop := ∃ l a k, A.frames = some l ∧ e = .ref a ∧ P k ∧ Fl H W l k .none a h
noncomputable def FlyB (H : Heap) (W : List Addr) (A : Around) (P : Int → Prop) (e : Value) (h : Heap) : Prop := ∃ env l L a k fl, A.frames = some (env :: l) ∧ env.frame = some L ∧ e = .ref a ∧ P k ∧ (fl = .none ∨ fl = rawInt L) ∧ Fl H W (env :: l) k fl a h
/- the room in which may be raised -/
structure Rz (H : Heap) (W : List Addr) (A : Around) (h : Heap) : Prop where
  nf : ∀ b ∈ W, ∀ o, H.get? b = some o → ∀ vs, o.data ≠ .fields vs
  fr : ∃ l, A.frames = some l ∧ h.FunFrames (hideAll H W) l

section
variable {w : World} {A : Around} {E : Value → Heap → Prop} {H h₀ h : Heap} {L a : Addr} {m : Loc} {led l1 k1 : Led} {W : List Addr} {P P' : Int → Prop} {env : Env} {fd : FuncData} {e : Value}
theorem Fly.to (x : Fly H W A P e h) (k : ∀ i, P i → P' i) : Fly H W A P' e h := let ⟨l, a, i, h1, h2, h3, h4⟩ := x; ⟨l, a, i, h1, h2, k _ h3, h4⟩
theorem Fly.b {l : List Env} (hf : A.frames = some (env :: l)) (he : env.frame = some L) (x : Fly H W A P e h) : FlyB H W A P e h := by
  refine gh fun CC kk => ?_
  obtain ⟨l', a, i, h1, h2, h3, h4⟩ := x
  refine kk ?_
  clear kk CC
  rw [hf] at h1; cases h1
  exact ⟨env, l, L, a, i, .none, hf, he, h2, h3, .inl rfl, h4⟩
theorem leave_r {Q : Unit → Heap → Prop} (hf : ∃ l, A.frames = some l) (x : FlyB H W (A.deeper env) P e h) (q : ∀ h', Fly H W A P e h' → Q () h') : Wp (MM w) (A.deeper env) (leaving env e) Q E h := by
  obtain ⟨l, hf⟩ := hf
  refine gh fun CC kk => ?_
  obtain ⟨env', l', L, a, k, fl, h1, h2, rfl, h4, h5, h6⟩ := x
  refine kk ?_
  clear kk CC
  rw [Around.frames_deeper hf] at h1; cases h1
  refine Wp_of fun g d tk os => ?_
  unfold leaving
  refine wpAny_bind (fl_note (Around.frames_deeper hf) h2 h5 h6 fun h' x1 => fl_set (f := none) x1 fun h'' x2 => ⟨⟨rfl, rfl, rfl⟩, q _ ⟨l, a, k, hf, rfl, h4, x2.drop⟩⟩)
theorem loop_r {l : List Env} (hf : A.frames = some (env :: l)) (x : FlyB H W A P e h) : LoopE w A env (FlyB H W A P) e h := by
  refine gh fun CC kk => ?_
  obtain ⟨env', l', L, a, k, fl, h1, h2, rfl, h4, h5, h6⟩ := x
  refine kk ?_
  clear kk CC
  rw [hf] at h1; cases h1
  unfold LoopE
  refine Wp_bind (Wp_of fun g d tk os => fl_note hf h2 h5 h6 fun h' x1 => ⟨⟨rfl, rfl, rfl⟩, ?_⟩)
  refine Wp_of fun g d tk os => ?_
  unfold theTreesLotGoes
  refine wpAny_bind (wpAny_stack_any fun st => ?_)
  refine wpAny_bind (wpAny_standAt (wpAny_bind (wpAny_holding (wpAny_point (wpAny_standAt ⟨⟨rfl, rfl, rfl⟩, ?_⟩)))))
  refine gh fun CC kk => ?_
  obtain ⟨oe, vs, T, oT, ts, dx, od, t, he, hc, hdx, hd, hv1, hTe, hT, hdT, h3, _⟩ := id x1.exc
  refine kk ?_
  clear kk CC
  refine Wp_of fun g d tk os => ?_
  refine wpAny_bind (wpAny_field he hd hv1 ?_)
  rw [if_neg (by simp), h2]
  exact fl_set (f := some L) x1 fun h'' x2 => ⟨⟨rfl, rfl, rfl⟩, _, _, L, a, k, _, hf, h2, rfl, h4, .inr rfl, x2⟩

theorem Rz.sub (z : Rz H W A h₀) (S : St w H h₀ L h m (l1 ++ k1)) (hk : fd.scope.kind = .function) : Rz H W (A.deeper (callEnv fd L a)) (hideAll h (adr l1)) := by
  refine gh fun CC kk => ?_
  obtain ⟨nf, l, hf, hfr⟩ := z
  refine kk ?_
  clear kk CC
  refine ⟨nf, _, Around.frames_deeper hf, ?_⟩
  have hN := S.N
  have memL : ∀ a ∈ adr l1, a ≠ L ∧ h₀.get? a = none := fun a ha => by
    refine gh fun CC kk => ?_
    obtain ⟨p, hp, rfl⟩ := List.mem_map.mp ha
    refine kk ?_
    clear kk CC
    exact (hN p (List.mem_append_left _ hp)).2
  have hB : (hideAll H W).get? L = none := by
    cases hq : (hideAll H W).get? L with
    | none => rfl
    | some o =>
      have h1 := S.D.2 _ _ (of_hideAll _ hq)
      exact absurd (Heap.lt_size h1) (Nat.not_lt.mpr S.F.above)
  refine Heap.FunFrames.cons (m := lk m) (by show fd.scope.kind ≠ _; rw [hk]; exact fun x => nomatch x) rfl (S.F.ns.at' fun o e => hideAll_get _ e fun hm => (memL L hm).1 rfl) hB ?_
  exact hfr.of_keeps fun b o ho hn => ⟨o, hideAll_get _ (S.F.keep b o ho) (fun hm => by rw [(memL b hm).2] at ho; cases ho), rfl⟩
theorem Rz.here (z : Rz H W A h₀) (S : St w H h₀ L h m led) (hk : fd.scope.kind = .function) : Rz H W (A.deeper (callEnv fd L a)) h := Rz.sub (l1 := []) (k1 := led) z S hk
theorem Rz.frames (z : Rz H W A h) : ∃ l, A.frames = some l := let ⟨l, hf, _⟩ := z.fr; ⟨l, hf⟩

/- a def that may raise -/
theorem enter_r {f : Addr} {args : List Value} {binds : List (Str × Value)} {body : List Stmt} {Q : Value → Heap → Prop} (D : Wo w H h)
    (l : List (Addr × Obj)) (hl : ∀ p ∈ l, h.get? p.1 = some p.2 ∧ H.get? p.1 = none) (nd : (l.map (·.1)).Nodup) (hf : ∃ l, A.frames = some l)
    (hK : (KF w.params).lookup f = some { cls := .type "function", data := .func fd }) (hcd : codeIn (KF w.params) fd.code fd.qualname = true) (room : A.depth < recursionLimit)
    (hbind : ∀ s : Shared, s.heap = h → BindsTo s fd ⟨args, []⟩ binds) (hbody : fd.body = .stmts body) (m₀ : List (Str × Value)) (hm : binds.reverse = m₀) (hE : ∀ e h', Fly H W A P e h' → E e h')
    (k : ∀ h₁, St w H (hideAll h (adr l)) h.objs.size h₁ m₀ l →
      Wp (MM w) (A.deeper (callEnv fd h.objs.size f)) (execs body (callEnv fd h.objs.size f)) (fun fl h' => Q (flv fl) h') (FlyB H W (A.deeper (callEnv fd h.objs.size f)) P) h₁)
    (hloc : ∀ x ∈ binds, fd.scope.names.lookup x.1 = some .local) (hcell : ∀ x ∈ fd.scope.names, x.2 ≠ .cell)
    (hco : fd.scope.isCoroutine = false) (hgen : fd.scope.isGenerator = false) (hk : fd.scope.kind = .function) : Wp (MM w) A (call (.ref f) args []) Q E h :=
  Wp_call (enter D l hl nd hK hcd room hbind hbody (fun h₁ S => Wp_mono (k h₁ (hm ▸ S)) (fun _ _ q => q) fun e h' x => leave_r hf x fun h'' y => hE _ _ y) hloc hcell hco hgen hk)

/- raise, of a BadParam at hand -/
theorem st_Raise {exc : Expr} {rest : List Stmt} {pos : Pos} {Q : Flow → Heap → Prop} (hh : A.handled = none)
    (x : Wp (MM w) A (eval exc env) (fun v h' => ∃ a oe vs, v = .ref a ∧ h'.get? a = some oe ∧ oe.cls = .ref 45 ∧ oe.data = .fields vs ∧ vs[1]? = some .none ∧ (KF w.params).In h' ∧ E (.ref a) h') E h) :
    Wp (MM w) A (execs (.Raise (some exc) none pos :: rest) env) Q E h := execs_cons (by
  rw [arm_exec_Raise]
  refine Wp_bind (Wp_standAt ?_)
  show Wp _ _ (raiseStmt env (some (do let v ← eval exc env; standAt pos; pure v)) none) _ _ _
  unfold raiseStmt
  refine Wp_bind (Wp_bind (Wp_post x fun v h' q => Wp_bind (Wp_standAt (Wp_pure ?_))))
  refine gh fun CC kk => ?_
  obtain ⟨a, oe, vs, rfl, he, hc, hd, h1, hK, q⟩ := q
  refine kk ?_
  clear kk CC
  have t1 : Looks (MM w) h' (typeOf (.ref a)) (.ref 45) := by have := (Looks.ld (M := MM w) (part := some headPart) he).andThen (f := fun o => pure o.cls) .now; rw [hc] at this; exact this
  have t2 : Looks (MM w) h' (isInstance (.ref a) (.type "BaseException")) true := t1.andThen (looks_mroIn hK (l45_base _))
  have t3 : Looks (MM w) h' (isType (.ref a)) false := by
    have := (Looks.ld (M := MM w) (part := some headPart) he).andThen (f := fun o => pure (match o.data with | .cls _ => true | _ => false)) .now
    rw [hd] at this
    exact this
  have t4 : Looks (MM w) h' (typeOf (.ref 45)) (.type "type") := (Looks.ld (M := MM w) (part := some headPart) (hK _ _ (k45 _))).andThen .now
  refine Wp_bind (Wp_pure (Wp_bind (Wp_holding ?_)))
  refine Wp_of fun g d tk os => ?_
  unfold excFromValue isExcClass
  refine wpAny_bind (wpAny_bind (t3.here ?_))
  rw [if_neg (by decide)]
  refine wpAny_pure ?_
  rw [if_neg (by decide)]
  refine wpAny_bind (t2.here ?_)
  rw [if_pos rfl]
  refine wpAny_pure ⟨⟨rfl, rfl, rfl⟩, ?_⟩
  refine Wp_of fun g d tk os => ?_
  refine wpAny_bind (t3.here ?_)
  rw [if_neg (by decide)]
  unfold raisedInstance
  refine wpAny_bind (wpAny_bind (t1.here (wpAny_bind (t4.here ?_))))
  rw [if_pos (by decide)]
  refine wpAny_pure (wpAny_bind ?_)
  unfold setFlight
  refine wpAny_bind (wpAny_field he hd h1 ?_)
  rw [if_neg (by decide)]
  refine wpAny_pure ?_
  unfold raiseNew
  refine wpAny_bind (wpAny_handled_none hh ?_)
  exact wpAny_throw ⟨⟨rfl, rfl, rfl⟩, q⟩)
end

end
section
open PySem PySem.W PyProof.Rows PySem.Calls PySem.Spec PySem.SeqAt LCg
set_option Elab.async false
set_option linter.unusedVariables false
set_option maxRecDepth 100000
set_option maxHeartbeats 4000000

section
variable {w : World} {A : Around} {E : Value → Heap → Prop} {hw h₀ h : Heap} {L a : Addr} {m : Loc} {led : Led} {env : Env} {rest : List Stmt}
theorem tests_cons {c : Expr} {cs : List Expr} {R : Bool → Heap → Prop} (x : Wp (MM w) A (isTrue c env (eval c env)) R NoE h) : TestsW w A env (c :: cs) R h := x
theorem tests_nil {R : Bool → Heap → Prop} (x : R true h) : TestsW w A env [] R h := x
theorem Wp_here {Q : Value → Heap → Prop} {t : Sem Value} {J : Value → Prop} (x : Wp (MM w) A t (fun v h' => h' = h ∧ J v) E h) (k : ∀ v, J v → Q v h) : Wp (MM w) A t Q E h :=
  Wp_post x fun v h' q => by obtain ⟨rfl, q⟩ := q; exact k v q
theorem rd_ints {o : Obj} {is : List (Int × Tok)} (ho : h.get? a = some o) (hv : OLst o (is.map fun p => .int p.1 p.2)) : Rd h (.ref a) (.lst (is.map fun p => .int p.1)) := .lst ho hv (by simp) fun j v d h1 h2 => by
  rw [List.getElem?_map] at h1 h2
  cases e : is[j]? with
  | none => rw [e] at h1; cases h1
  | some p => rw [e] at h1 h2; cases h1; cases h2; exact .int _ _
theorem rd_nil {o : Obj} (ho : h.get? a = some o) (hv : OLst o []) : Rd h (.ref a) (.lst []) := .lst ho hv rfl fun j v d h1 h2 => by cases h1
theorem cmp_nil (ds : List Dv) : (Dv.lst ds).cmpOk (.lst []) = true := by cases ds <;> rfl
theorem eqv_nil (ds : List Dv) : (Dv.lst ds).eqv (.lst []) = ds.isEmpty := by cases ds <;> rfl
theorem flat_ints (is : List (Int × Tok)) : (Dv.lst (is.map fun p => .int p.1)).flat 1 = true := by
  show Dv.flatL _ 0 = true
  induction is with
  | nil => rfl
  | cons a r ih => show (true && Dv.flatL _ 0) = true; rw [ih]; rfl
end

end
section
open PySem PySem.W PyProof.Rows PySem.Calls PySem.Spec PySem.SeqAt LCg
set_option Elab.async false
set_option linter.unusedVariables false
set_option maxRecDepth 100000
set_option maxHeartbeats 4000000

/- octet strings as values -/
noncomputable def BL (vs : List Value) (ls : List (List UInt8)) : Prop := vs.length = ls.length ∧ ∀ (j : Nat) (v : Value) (b : List UInt8), vs[j]? = some v → ls[j]? = some b → ∃ t, v = .bytes b.toArray t
theorem BL.nil : BL [] [] := ⟨rfl, fun _ _ _ h _ => by simp at h⟩
theorem BL.cons {v : Value} {b : List UInt8} {vs : List Value} {ls : List (List UInt8)} (h : ∃ t, v = .bytes b.toArray t) (x : BL vs ls) : BL (v :: vs) (b :: ls) := ⟨by simp [x.1], fun j u c h1 h2 => by
  cases j with
  | zero => cases h1; cases h2; exact h
  | succ j => exact x.2 j u c h1 h2⟩
theorem BL.snoc {v : Value} {b : List UInt8} {vs : List Value} {ls : List (List UInt8)} (x : BL vs ls) (h : ∃ t, v = .bytes b.toArray t) : BL (vs ++ [v]) (ls ++ [b]) := by
  induction vs generalizing ls with
  | nil => cases ls with
    | nil => exact .cons h .nil
    | cons c ls => simp [BL] at x
  | cons u vs ih => cases ls with
    | nil => simp [BL] at x
    | cons c ls => exact .cons (x.2 0 _ _ rfl rfl) (ih ⟨by simpa using x.1, fun j v b h1 h2 => x.2 (j + 1) v b h1 h2⟩)
theorem BL.at {vs : List Value} {ls : List (List UInt8)} (x : BL vs ls) {j : Nat} {b : List UInt8} (h : ls[j]? = some b) : ∃ t, vs[j]? = some (.bytes b.toArray t) := by
  have hj := (List.getElem?_eq_some_iff.mp h).1
  have hv : vs[j]? = some (vs[j]'(by rw [x.1]; exact hj)) := List.getElem?_eq_getElem _
  obtain ⟨t, e⟩ := x.2 j _ _ hv h
  exact ⟨t, by rw [hv, e]⟩

noncomputable def splitB (c : UInt8) : List UInt8 → List (List UInt8)
  | [] => [[]]
  | x :: r => if x = c then [] :: splitB c r else match splitB c r with
    | [] => [[x]]
    | p :: ps => (x :: p) :: ps
theorem splitB_ne {c : UInt8} : ∀ l, splitB c l ≠ []
  | [] => by simp [splitB]
  | x :: r => by
    unfold splitB
    split
    · simp
    · split <;> simp
/- where c stands, from a place on -/
noncomputable def spots (c : UInt8) (l : List UInt8) (n i : Nat) : List Nat := (List.range' i n).filter fun j => l[j]? == some c
theorem occ_spots (c : UInt8) (l : List UInt8) : Builtin.Bytes.occurrences l.toArray #[c] 0 l.length = spots c l l.length 0 := by
  unfold Builtin.Bytes.occurrences spots
  have h1 : (#[c] : Array UInt8).size = 1 := rfl
  simp only [h1, Nat.zero_add]
  rw [show (List.map (· + 0) (List.range (l.length + 1 - 1))) = List.range' 0 l.length by rw [Nat.add_sub_cancel, List.range_eq_range']; simp]
  have key : ∀ (n i : Nat) (acc : List Nat) (last : Nat), last ≤ i → i + n ≤ l.length →
      ((List.range' i n).foldl (fun (acc : List Nat × Nat) j => if (decide (j ≥ acc.2) && l.toArray.extract j (j + 1) == #[c]) = true then (j :: acc.1, j + 1) else acc) (acc, last)).1.reverse = acc.reverse ++ (List.range' i n).filter fun j => l[j]? == some c := fun n => by
    induction n with
    | zero => intro i acc last _ _; simp
    | succ n ih =>
      intro i acc last hi hn
      rw [List.range'_succ, List.foldl_cons, List.filter_cons]
      have hil : i < l.length := by lia
      have e : (l.toArray.extract i (i + 1) == #[c]) = (l[i]? == some c) := by
        have : l.toArray.extract i (i + 1) = #[l[i]] := by
          apply Array.ext'
          simp only [Array.toList_extract, List.extract_eq_drop_take', List.toList_toArray]
          rw [List.drop_take, Nat.add_sub_cancel_left, List.drop_eq_getElem_cons hil]; rfl
        rw [this, List.getElem?_eq_getElem hil]
        generalize l[i] = x
        by_cases hc : x = c
        · subst hc; simp
        · simp
      dsimp only
      rw [e, show decide (i ≥ last) = true from decide_eq_true hi, Bool.true_and]
      by_cases hc : (l[i]? == some c) = true
      · rw [if_pos hc, if_pos hc, ih (i + 1) (i :: acc) (i + 1) (Nat.le_refl _) (by lia)]; simp
      · rw [if_neg hc, if_neg hc, ih (i + 1) acc last (by lia) (by lia)]
  exact key l.length 0 [] 0 (Nat.le_refl _) (by lia)
noncomputable def betw (l : List UInt8) : List Nat → Nat → List (List UInt8)
  | [], last => [l.drop last]
  | p :: ps, last => cut l last p :: betw l ps (p + 1)
theorem between_betw (l : List UInt8) (ps : List Nat) : Builtin.Bytes.between l.toArray 1 ps = (betw l ps 0).map (·.toArray) := by
  unfold Builtin.Bytes.between
  have key : ∀ (ps : List Nat) (acc : Array (Array UInt8)) (last : Nat),
      (let x := ps.foldl (fun (x : Array (Array UInt8) × Nat) p => (x.1.push (l.toArray.extract x.2 p), p + 1)) (acc, last); (x.1.push (l.toArray.extract x.2 l.toArray.size)).toList) = acc.toList ++ (betw l ps last).map (·.toArray) := fun ps => by
    induction ps with
    | nil => intro acc last; simp [betw, List.extract_eq_drop_take', List.take_of_length_le]
    | cons p ps ih =>
      intro acc last
      rw [List.foldl_cons]
      have := ih (acc.push (l.toArray.extract last p)) (p + 1)
      dsimp only at this ⊢
      rw [this]
      simp [betw, cut, List.extract_eq_drop_take']
  exact key ps #[] 0
theorem betw_split (c : UInt8) (l : List UInt8) : ∀ (n last i : Nat), last ≤ i → i + n = l.length → (∀ j, last ≤ j → j < i → l[j]? ≠ some c) →
    betw l (spots c l n i) last = match splitB c (l.drop i) with | [] => [] | p :: ps => (cut l last i ++ p) :: ps := fun n => by
  induction n with
  | zero =>
    intro last i h1 h2 h3
    have hd : l.drop i = [] := List.drop_of_length_le (by lia)
    rw [hd]
    simp [spots, betw, splitB, cut]
    rw [List.take_of_length_le (by simp; lia)]
  | succ n ih =>
    intro last i h1 h2 h3
    have hil : i < l.length := by lia
    unfold spots
    rw [List.range'_succ, List.filter_cons, List.drop_eq_getElem_cons hil]
    by_cases hc : l[i] = c
    · have e : (l[i]? == some c) = true := by rw [List.getElem?_eq_getElem hil, hc]; simp
      rw [if_pos e]
      have := ih (i + 1) (i + 1) (Nat.le_refl _) (by lia) (fun j a b => by lia)
      unfold spots at this
      unfold betw splitB
      rw [this, if_pos hc]
      have hne := splitB_ne (c := c) (l.drop (i + 1))
      cases hs : splitB c (l.drop (i + 1)) with
      | nil => exact (hne hs).elim
      | cons p ps => simp [cut]
    · have e : (l[i]? == some c) = false := by rw [List.getElem?_eq_getElem hil]; simp [hc]
      rw [if_neg (by rw [e]; decide)]
      have := ih last (i + 1) (by lia) (by lia) (fun j a b => by
        by_cases hj : j = i
        · subst hj; rw [List.getElem?_eq_getElem hil]; simp [hc]
        · exact h3 j a (by lia))
      unfold spots at this
      rw [this]
      have hne := splitB_ne (c := c) (l.drop (i + 1))
      rw [splitB, if_neg hc]
      cases hs : splitB c (l.drop (i + 1)) with
      | nil => exact (hne hs).elim
      | cons p ps =>
        dsimp only
        have : cut l last (i + 1) = cut l last i ++ [l[i]] := by
          unfold cut
          rw [show i + 1 - last = (i - last) + 1 from Nat.succ_sub h1, List.take_add_one, List.getElem?_drop, show last + (i - last) = i from Nat.add_sub_of_le h1, List.getElem?_eq_getElem hil]; rfl
        rw [this]; simp
theorem between_split (c : UInt8) (l : List UInt8) : Builtin.Bytes.between l.toArray 1 (spots c l l.length 0) = (splitB c l).map (·.toArray) := by
  rw [between_betw, betw_split c l l.length 0 0 (Nat.le_refl _) (by lia) (fun j a b => by lia), List.drop_zero]
  have hne := splitB_ne (c := c) l
  cases hs : splitB c l with
  | nil => exact (hne hs).elim
  | cons p ps => simp [cut]
theorem spots_len (c : UInt8) (l : List UInt8) : (spots c l l.length 0).length ≤ l.length := by
  unfold spots
  exact Nat.le_trans (List.length_filter_le _ _) (by simp)
section
variable {α : Type} {w : World} {A : Around} {E : Value → Heap → Prop} {hw h₀ h : Heap} {L : Addr} {m : Loc} {led : Led}
theorem Wp_eq {t : Sem α} {a : α} {Q : α → Heap → Prop} (e : t = pure a) (q : Q a h) : Wp (MM w) A t Q E h := e ▸ Wp_pure q
theorem mapM_new : ∀ (ls : List (List UInt8)) {Q : List Value → Heap → Prop}, (∀ b ∈ ls, b.length ≤ 16777216) → (∀ vs, BL vs ls → Q vs h) → Wp (MM w) A ((ls.map (·.toArray)).mapM (Builtin.Bytes.Kind.new .bytes)) Q E h
  | [], Q, _, q => by
    show Wp _ _ (pure []) _ _ _
    exact Wp_pure (q [] .nil)
  | b :: ls, Q, hz, q => by
    rw [List.map_cons, List.mapM_cons]
    refine Wp_bind (Wp_of fun g d tk o => wpAny_mkBytes ⟨⟨rfl, rfl, rfl⟩, ?_⟩ (by rw [List.size_toArray, sizeLine_eq]; exact hz b (.head _)))
    refine Wp_bind (mapM_new ls (fun c hc => hz c (.tail _ hc)) fun vs hvs => Wp_pure (q _ (.cons ⟨_, rfl⟩ hvs)))
theorem splitB_small {c : UInt8} {l : List UInt8} : ∀ b ∈ splitB c l, b.length ≤ l.length := by
  induction l with
  | nil => intro b hb; simp [splitB] at hb; simp [hb]
  | cons x r ih =>
    intro b hb
    unfold splitB at hb
    split at hb
    · rcases List.mem_cons.mp hb with rfl | hb
      · simp
      · have := ih b hb; simp; lia
    · cases hs : splitB c r with
      | nil => exact (splitB_ne r hs).elim
      | cons p ps =>
        rw [hs] at hb ih
        rcases List.mem_cons.mp hb with rfl | hb
        · have := ih p (.head _); simp; lia
        · have := ih b (.tail _ hb); simp; lia
theorem splitB_len {c : UInt8} {l : List UInt8} : (splitB c l).length ≤ l.length + 1 := by
  induction l with
  | nil => simp [splitB]
  | cons x r ih =>
    unfold splitB
    split
    · simp; lia
    · cases hs : splitB c r with
      | nil => simp
      | cons p ps => rw [hs] at ih; simp at ih ⊢; lia
theorem y_split {l : List UInt8} {c : UInt8} {t u : Tok} {Q : Value → Heap → Prop} (S : St w hw h₀ L h m led) (hz : l.length ≤ 1048576)
    (q : ∀ a o vs h', OLst o vs → BL vs (splitB c l) → St w hw h₀ L h' m ((a, o) :: led) → Q (.ref a) h') : Wp (MM w) A (call (.builtin "bytes.split") [.bytes l.toArray t, .bytes #[c] u] []) Q E h := by
  refine Wp_call (Wc_call_builtin (id := "bytes.split") slot_bytes_split.plain (by decide +kernel) entry_bytes_split (check_of_slot slot_bytes_split (fun g d tk o => typeIs_bytes _ _ _) (args_bytes_split_2 _ _)) ?_)
  unfold Builtin.«bytes.split» Builtin.Bytes.splitM
  refine Wp_bind (Wp_eq (a := [some (.bytes #[c] u), none]) (by kernel_rfl) ?_)
  refine Wp_bind (Wp_pure (Wp_bind (Wp_eq (a := l.toArray) rfl ?_)))
  refine Wp_bind ?_
  unfold Builtin.Bytes.bytesLike
  refine Wp_eqb KBy.buffer_eq (Wp_pure ?_)
  refine Wp_ff rfl ?_
  have hp : (if false = true then Builtin.Bytes.occurrencesFromRight l.toArray #[c] (if (-1 : Int) < 0 then l.toArray.size + 1 else (-1 : Int).toNat)
      else List.take (if (-1 : Int) < 0 then l.toArray.size + 1 else (-1 : Int).toNat) (Builtin.Bytes.occurrences l.toArray #[c] 0 l.toArray.size)) = spots c l l.length 0 := by
    rw [if_neg (by decide), if_pos (by decide), List.size_toArray, occ_spots, List.take_of_length_le (by have := spots_len c l; lia)]
  dsimp only
  rw [hp]
  have hs : (splitB c l).length ≤ 16777216 := by have := splitB_len (c := c) (l := l); lia
  by_cases he : (spots c l l.length 0).isEmpty = true
  · rw [if_pos he]
    have h1 : splitB c l = [l] := by
      have := between_split c l
      rw [List.isEmpty_iff.mp he, between_betw] at this
      simp [betw] at this
      cases hs : splitB c l with
      | nil => rw [hs] at this; simp at this
      | cons p ps =>
        rw [hs] at this
        simp at this
        rw [this.1, this.2]
    rw [h1] at q
    refine Wp_bind (Wp_rule (Wp_bind ?_))
    unfold Builtin.Bytes.Kind.same
    refine Wp_tt rfl (Wp_bind (Wp_typeOf (fun g d tk o => typeIs_bytes _ _ _) (Wp_tt (by decide) (Wp_pure ?_))))
    refine Wp_bind (s_list S (Nat.le_of_ble_eq_true rfl) fun a o h' ho S' => Wp_pure (q _ _ _ _ ho (.cons ⟨_, rfl⟩ .nil) S'))
  · rw [if_neg he, show (#[c] : Array UInt8).size = 1 from rfl, between_split]
    refine Wp_bind (mapM_new _ (fun b hb => by have := splitB_small b hb; lia) fun vs hvs => ?_)
    refine Wp_bind (s_list S (by rw [hvs.1]; exact hs) fun a o h' ho S' => Wp_pure (q _ _ _ _ ho hvs S'))
end

end
section
open PySem PySem.W PyProof.Rows PySem.Calls PySem.Spec PySem.SeqAt LCg
set_option Elab.async false
set_option linter.unusedVariables false
set_option maxRecDepth 100000
set_option maxHeartbeats 4000000

section
variable {α : Type} {w : World} {A : Around} {E : Value → Heap → Prop} {hw h₀ h : Heap} {L : Addr} {m : Loc} {led : Led}
theorem y_find3 {l : List UInt8} {c : UInt8} {i : Nat} {k : Int} {t u v : Tok} {Q : Value → Heap → Prop} (hk : k = i) (q : ∀ t', Q (.int (findInt l c i) t') h) : Wp (MM w) A (call (.builtin "bytes.find") [.bytes l.toArray t, .bytes #[c] u, .int k v] []) Q E h := by
  subst hk
  exact Wp_of fun g d tk o => call_gives slot_bytes_find (typeIs_bytes _ _ _) entry_bytes_find (args_bytes_find_3 _ _ _) gives_find ⟨⟨rfl, rfl, rfl⟩, q _⟩
theorem take_eq {id : String} {b : Array UInt8} {t : Tok} : Builtin.Bytes.takeBufferQuiet? id (.bytes b t) 0 = pure (some (b, none)) := by
  have e : Builtin.Bytes.takeBuffer? id (.bytes b t) 0 = pure (some (b, none)) := by
    unfold Builtin.Bytes.takeBuffer?
    rw [KBy.special_eq KBy.look_buffer, KBy.own_buffer]
    have e2 : Builtin.Bytes.buffer? id (.bytes b t) (full := (0 : Int) == Builtin.Bytes.fullReadOnly) = pure (some b) := KBy.buffer_eq
    show (do return (← Builtin.Bytes.buffer? id (.bytes b t) (full := (0 : Int) == Builtin.Bytes.fullReadOnly)).map (·, none)) = _
    rw [e2]; rfl
  unfold Builtin.Bytes.takeBufferQuiet?
  rw [e]; rfl
theorem Wp_range {β : Type} {n : Nat} {f : Nat → β → Sem (ForInStep β)} {I : Nat → β → Prop} {b : β} {Q : β → Heap → Prop} (h0 : I 0 b)
    (step : ∀ i b, i < n → I i b → Wp (MM w) A (f i b) (fun r h' => h' = h ∧ ∃ b', r = .yield b' ∧ I (i + 1) b') E h) (done : ∀ b, I n b → Q b h) : Wp (MM w) A (forIn [:n] b f) Q E h := by
  have key : ∀ (k i : Nat) (b : β), i + k = n → I i b → Wp (MM w) A (forIn (List.range' i k) b f) Q E h := fun k => by
    induction k with
    | zero =>
      intro i b hi hI
      obtain rfl : i = n := by lia
      exact Wp_pure (done b hI)
    | succ k ih =>
      intro i b hi hI
      rw [List.range'_succ, List.forIn_cons]
      refine Wp_bind (Wp_post (step i b (by lia) hI) fun r h' x => ?_)
      obtain ⟨rfl, b', rfl, hI'⟩ := x
      exact ih (i + 1) b' (by lia) hI'
  rw [Std.Legacy.Range.forIn_eq_forIn_range']
  have := key n 0 b (by lia) h0
  simpa [Std.Legacy.Range.size] using this
theorem letGo_wp : ∀ (xs keep : List Value) {Q : Unit → Heap → Prop}, Q () h → Wp (MM w) A (letGo xs keep) Q E h
  | [], _, _, q => Wp_pure q
  | x :: xs, keep, Q, q => Wp_bind (Wp_holding (Wp_point (letGo_wp xs keep q)))
theorem joinLetGo_wp : ∀ (taken : List (Value × Option Value)) (keep : List Value) {Q : Unit → Heap → Prop}, (∀ p ∈ taken, p.2 = none) → Q () h → Wp (MM w) A (Builtin.Bytes.joinLetGo taken keep) Q E h
  | [], _, _, _, q => Wp_pure q
  | (x, u) :: r, keep, Q, hn, q => by
    obtain rfl : u = none := hn _ (.head _)
    unfold Builtin.Bytes.joinLetGo
    exact Wp_bind (letGo_wp _ _ (joinLetGo_wp r keep (fun p hp => hn p (.tail _ hp)) q))
theorem joined_flat (ls : List (List UInt8)) : Builtin.Bytes.joined #[] (ls.map (·.toArray)) = ls.flatten.toArray := by
  unfold Builtin.Bytes.joined
  have key : ∀ (ls : List (List UInt8)) (i : Nat) (acc : Array UInt8), ((ls.map (·.toArray)).zipIdx i).foldl (fun out (x : Array UInt8 × Nat) => (if x.2 > 0 then out ++ #[] else out) ++ x.1) acc = acc ++ ls.flatten.toArray := fun ls => by
    induction ls with
    | nil => intro i acc; simp
    | cons b ls ih =>
      intro i acc
      rw [List.map_cons, List.zipIdx_cons, List.foldl_cons, ih]
      simp
  have := key ls 0 #[]
  simpa using this
theorem join_match {α : Type} {vs : List Value} (f : Value → α) (g : Array Value → α) (hne : ¬ vs.length = 1) : PySem.Builtin.Bytes.joinM.match_1 (fun _ => α) vs.toArray f g = g vs.toArray := by
  rcases vs with _ | ⟨v, _ | ⟨u, r⟩⟩
  · rfl
  · exact absurd rfl hne
  · rfl
theorem y_join {a : Addr} {o : Obj} {vs : List Value} {ls : List (List UInt8)} {t : Tok} {Q : Value → Heap → Prop} (ho : h.get? a = some o) (hv : OLst o vs) (hb : BL vs ls) (hz : ls.flatten.length ≤ 1048576)
    (q : ∀ t', Q (.bytes ls.flatten.toArray t') h) : Wp (MM w) A (call (.builtin "bytes.join") [.bytes #[] t, .ref a] []) Q E h := by
  refine Wp_call (Wc_call_builtin (id := "bytes.join") slot_bytes_join.plain (by decide +kernel) entry_bytes_join (check_of_slot slot_bytes_join (fun g d tk o => typeIs_bytes _ _ _) (args_bytes_join_2 _ _)) ?_)
  unfold Builtin.«bytes.join» Builtin.Bytes.joinM
  refine Wp_eqb (a := (.bytes #[] t, .ref a)) rfl ?_
  obtain ⟨n, hn⟩ := id hv
  refine Wp_bind ?_
  unfold Builtin.Bytes.joinItems
  refine Wp_bind (Wp_typeOf (typ_at ho (by rw [hn])) ?_)
  refine Wp_tt (by decide) (Wp_pure ?_)
  have it : ∀ {A : Around} {E : Value → Heap → Prop} {Q : Option (Array Value) → Heap → Prop}, Q (some vs.toArray) h → Wp (MM w) A (seqItems? (.ref a)) Q E h := fun q => Wp_of fun g d tk os => wpAny_seqItems (s := ⟨h, g, d, tk, os⟩) ho (by rw [hn]) ⟨⟨rfl, rfl, rfl⟩, q⟩
  refine Wp_bind (it ?_)
  dsimp only
  have hlen : vs.length = ls.length := hb.1
  refine Wp_tt rfl ?_
  have getD : ∀ {i : Nat} {b : List UInt8}, ls[i]? = some b → ∃ t', vs.toArray.getD i .none = .bytes b.toArray t' := fun {i b} h => by
    obtain ⟨t', e⟩ := hb.at h
    refine ⟨t', ?_⟩
    rw [Array.getD_eq_getD_getElem?, List.getElem?_toArray, e]; rfl
  by_cases h1 : vs.length = 1
  · obtain ⟨v, rfl⟩ := List.length_eq_one_iff.mp h1
    obtain ⟨b, rfl⟩ : ∃ b, ls = [b] := by
      cases ls with
      | nil => simp at hlen
      | cons b r => cases r with
        | nil => exact ⟨b, rfl⟩
        | cons _ _ => simp at hlen
    obtain ⟨t', e⟩ := hb.at (j := 0) rfl
    obtain rfl : v = .bytes b.toArray t' := by simpa using e
    refine Wp_bind ?_
    refine Wp_typeOf (T := "bytes") (v := .bytes b.toArray t') (fun g d tk o => typeIs_bytes _ _ _) (Wp_tt (by decide) (Wp_bind (Wp_rule (Wp_pure ?_))))
    have := q t'
    rw [show [b].flatten = b by simp] at this
    exact this
  · rw [join_match _ _ h1]
    refine Wp_bind (Wp_range (I := fun i (st : Array (Array UInt8) × List (Value × Option Value)) => st.1 = ((ls.take i).map (·.toArray)).toArray ∧ (∀ p ∈ st.2, p.2 = none) ∧ (st.2.any fun x => x.1.onHeap) = false) ⟨rfl, (fun p h => nomatch h), rfl⟩ (fun i st hi hI => ?_) fun st hI => ?_)
    · have h1 := hI.1
      have h2 := hI.2.1
      have h3 := hI.2.2
      have hi' : i < ls.length := by rw [← hlen]; simpa using hi
      obtain ⟨t', e⟩ := getD (List.getElem?_eq_getElem hi')
      refine Wp_bind (it ?_)
      dsimp only
      refine Wp_ff (by rw [h3]; rfl) ?_
      rw [e]
      refine Wp_bind (Wp_holding (Wp_eq take_eq ?_))
      dsimp only
      refine Wp_bind (it ?_)
      dsimp only
      rw [if_neg (by simp)]
      refine Wp_pure ⟨rfl, _, rfl, ?_, ?_, ?_⟩
      · dsimp only
        rw [h1, List.take_add_one, List.getElem?_eq_getElem hi', List.map_append]; simp only [List.push_toArray]; rfl
      · intro p hp
        rcases List.mem_append.mp hp with hp | hp
        · exact h2 p hp
        · obtain rfl := List.mem_singleton.mp hp; rfl
      · dsimp only
        rw [List.any_append, h3]; rfl
    · have h1 := hI.1
      have h2 := hI.2.1
      have h3 := hI.2.2
      obtain ⟨p, tk'⟩ := st
      dsimp only at h1 h2 h3
      have h1 : p = (ls.map (·.toArray)).toArray := by rw [h1, List.take_of_length_le (by rw [← hlen]; simp)]
      subst h1
      refine Wp_eqb (a := #[]) rfl ?_
      have total : Array.foldl (fun x1 (x2 : Array UInt8) => x1 + x2.size) 0 (ls.map (·.toArray)).toArray = ls.flatten.length := by
        rw [List.foldl_toArray]
        have key : ∀ (l : List (List UInt8)) (k : Nat), List.foldl (fun x1 (x2 : Array UInt8) => x1 + x2.size) k (l.map (·.toArray)) = k + l.flatten.length := fun l => by
          induction l with
          | nil => intro k; simp
          | cons b l ih => intro k; rw [List.map_cons, List.foldl_cons, ih]; simp; lia
        rw [key]; lia
      refine Wp_ff (by
        show Builtin.Bytes.tooLong (Array.foldl (fun x1 (x2 : Array UInt8) => x1 + x2.size) (0 * _) (ls.map (·.toArray)).toArray) = false
        rw [Nat.zero_mul, total]
        unfold Builtin.Bytes.tooLong
        rw [sizeLine_eq]
        exact decide_eq_false (by lia)) ?_
      dsimp only
      rw [joined_flat]
      refine Wp_bind (Wp_of fun g d tk o => wpAny_mkBytes ⟨⟨rfl, rfl, rfl⟩, ?_⟩ (by rw [List.size_toArray, sizeLine_eq]; lia))
      refine Wp_bind (Wp_holding (Wp_point (Wp_bind (joinLetGo_wp _ _ h2 (Wp_pure (q _))))))
end

end
section
open PySem PySem.W PyProof.Rows PySem.Calls PySem.Spec PySem.SeqAt LCg
set_option Elab.async false
set_option linter.unusedVariables false
set_option maxRecDepth 100000
set_option maxHeartbeats 4000000

section
variable {α : Type} {w : World} {A : Around} {E : Value → Heap → Prop} {hw h₀ h : Heap} {L : Addr} {m : Loc} {led : Led}
theorem look_index_bytes : typeLookup (.type "bytes") "__index__" = pure none := by rw [typeLookup_type, builtinLookup_eq_fast]; kernel_rfl
theorem asIndex_bytes {b : Array UInt8} {t : Tok} : ∃ msg : String, asIndex (.bytes b t) = raiseErrorMade "TypeError" msg ∧ (msg : Str).length ≤ 100 := by
  refine ⟨"'bytes' object cannot be interpreted as an integer", ?_, by decide +kernel⟩
  unfold asIndex callSpecial?
  rw [show asInt? (.bytes b t) = pure none from rfl]
  show (specialOf (.bytes b t) "__index__" >>= _) >>= _ = _
  rw [KBy.special_eq look_index_bytes]
  rfl
theorem find_one (l : List UInt8) (c : UInt8) : (Builtin.Bytes.find? l.toArray #[c] 0 l.toArray.size).isSome = l.contains c := by
  unfold Builtin.Bytes.find?
  rw [show (#[c] : Array UInt8).size = 1 from rfl, List.size_toArray, Nat.zero_add, Nat.add_sub_cancel]
  rw [show (List.map (· + 0) (List.range l.length)) = List.range l.length by simp]
  rw [Bool.eq_iff_iff, List.find?_isSome, List.contains_iff_mem, List.mem_iff_getElem?]
  have key : ∀ i (hi : i < l.length), (l.toArray.extract i (i + 1)).toList = [l[i]] := fun i hi => by
    simp only [Array.toList_extract, List.extract_eq_drop_take', List.toList_toArray]
    rw [List.drop_take, Nat.add_sub_cancel_left, List.drop_eq_getElem_cons hi]; rfl
  constructor
  · rintro ⟨i, hi, e⟩
    have hi : i < l.length := List.mem_range.mp hi
    refine ⟨i, ?_⟩
    have e := congrArg Array.toList (beq_iff_eq.mp e)
    rw [key i hi] at e
    rw [List.getElem?_eq_getElem hi]
    exact congrArg some (List.cons.inj e).1
  · rintro ⟨i, e⟩
    have hi : i < l.length := (List.getElem?_eq_some_iff.mp e).1
    refine ⟨i, List.mem_range.mpr hi, beq_iff_eq.mpr ?_⟩
    apply Array.ext'
    rw [key i hi]
    rw [List.getElem?_eq_getElem hi] at e
    rw [Option.some.inj e]
theorem meets_inB {l : List UInt8} {c : UInt8} {t u : Tok} : Meets (Builtin.«bytes.__contains__» ⟨[.bytes l.toArray t, .bytes #[c] u], []⟩)
    (fun A R s => A.handled = none ∧ ∀ h' tk, s.heap.StaysIn h' → R (.ok (.ret (.bool (l.contains c)))) { s with heap := h', toks := tk }) := by
  refine .of_wp fun prog w A R s hS => ?_
  obtain ⟨hh, hS⟩ := hS
  show wpAny _ _ (Builtin.Bytes.containsIn "bytes.__contains__" (.bytes l.toArray t) (.bytes #[c] u) >>= fun r => _) _ _ _
  refine wpAny_bind ?_
  unfold Builtin.Bytes.containsIn
  obtain ⟨msg, e1, e2⟩ := asIndex_bytes (b := #[c]) (t := u)
  rw [e1]
  refine wpAny_bind (wpAny_attempt (wpAny_raiseErrorMade plainExc_TypeError hh (fun h' tk e x => ?_) (by rw [sizeLine_eq]; lia)))
  refine wpAny_bind (wpAny_of_eq KBy.buffer_eq ?_)
  refine wpAny_bind (wpAny_of_eq KBy.buffer_eq ?_)
  refine wpAny_bind (wpAny_rule (wpAny_pure ?_))
  rw [find_one]
  exact wpAny_pure ⟨_, rfl, hS h' tk fun b o e => x.1 b o e⟩
theorem y_inB {l : List UInt8} {c : UInt8} {t u : Tok} {Q : Value → Heap → Prop} (hh : A.handled = none) (q : ∀ h', h.StaysIn h' → Q (.bool (l.contains c)) h') : Wp (MM w) A (compareOp .In (.bytes #[c] u) (.bytes l.toArray t)) Q E h := Wp_of fun g d tk o => by
  have hT : Shared.TypeIs ⟨h, g, d, tk, o⟩ (.bytes l.toArray t) "bytes" := typeIs_bytes _ _ _
  show wpAny _ _ (do return Value.bool (← contains (.bytes l.toArray t) (.bytes #[c] u))) _ _ _
  refine wpAny_bind (wpAny_contains_slot hT FB.slot_bytes_contains (call_meets FB.slot_bytes_contains hT FB.entry_bytes_contains (FB.args_bytes_contains_2 _ _) meets_inB ⟨hh, fun h' tk k => ?_⟩))
  exact wpAny_pure (wpAny_pure ⟨⟨rfl, rfl, rfl⟩, q _ k⟩)
end

end
section
open PySem PySem.W PyProof.Rows PySem.Calls PySem.Spec PySem.SeqAt LCg
set_option Elab.async false
set_option linter.unusedVariables false
set_option maxRecDepth 100000
set_option maxHeartbeats 4000000

/- ints as values -/
noncomputable def IL (vs : List Value) (is : List Int) : Prop := vs.length = is.length ∧ ∀ (j : Nat) (v : Value), vs[j]? = some v → ∃ t, v = .int (is.getD j 0) t
theorem IL.nil : IL [] [] := ⟨rfl, fun j v h => by simp at h⟩
theorem IL.snoc {vs : List Value} {is : List Int} {i : Int} {t : Tok} (x : IL vs is) : IL (vs ++ [.int i t]) (is ++ [i]) := ⟨by simp [x.1], fun j v h => by
  rw [List.getElem?_append] at h
  rw [List.getD_eq_getElem?_getD, List.getElem?_append, ← x.1]
  split at h
  · rename_i hj
    rw [if_pos hj, ← List.getD_eq_getElem?_getD]
    exact x.2 j v h
  · rename_i hj
    rw [if_neg hj]
    by_cases e : j - vs.length = 0
    · rw [e] at h ⊢; simp at h; exact ⟨t, by rw [← h]; simp⟩
    · rw [List.getElem?_eq_none (by simp; lia)] at h; cases h⟩
theorem preSum_list (is : List Int) : ∀ n, n ≤ is.length → preSum (fun i => is.getD i 0) n = (is.take n).sum := fun n => by
  induction n with
  | zero => intro _; rfl
  | succ n ih =>
    intro hn
    show preSum _ n + is.getD n 0 = _
    rw [ih (by lia), List.take_add_one, List.sum_append, List.getElem?_eq_getElem (by lia), List.getD_eq_getElem?_getD, List.getElem?_eq_getElem (by lia)]
    simp
section
variable {α : Type} {w : World} {A : Around} {E : Value → Heap → Prop} {hw h₀ h : Heap} {L : Addr} {m : Loc} {led : Led}
theorem s_sum {a : Addr} {o : Obj} {vs : List Value} {is : List Int} {Q : Value → Heap → Prop} (hh : A.handled = none) (ho : h.get? a = some o) (hv : OLst o vs) (hi : IL vs is) (hs : ∀ j, j ≤ is.length → InLong (is.take j).sum) (hx : ∀ x ∈ is, InLong x)
    (q : ∀ h' t, h.StaysIn h' → Q (.int is.sum t) h') : Wp (MM w) A (call (.builtin "sum") [.ref a] []) Q E h := Wp_of fun g d tk os => by
  have hl := hv.at ho
  refine call_sum_walk (wpAny_pyIter_list hl ?_)
  have hne : a ≠ h.objs.size := fun e => Nat.lt_irrefl _ (e ▸ Heap.lt_size ho)
  have ha' := Heap.get?_push_of_some (h := h) { cls := .type "list_iterator", data := .fields #[.ref a, .int 0 0] } ho
  refine ⟨_, _, _, _, _, _, fun i => is.getD i 0, rfl, Walks.list (A := A.in1) hh h.objs.size a hne vs.toArray, ⟨⟨_, Heap.get?_push_size _ rfl, rfl, rfl⟩, hv.at ha'⟩, fun b hb => ?_, fun i v hv' => hi.2 i v (by simpa using hv'), fun j hj => ?_, fun h' tk' t' k => ⟨⟨rfl, rfl, rfl⟩, ?_⟩⟩
  · have := Heap.lt_size ho
    show b < (h.push _).objs.size
    rw [Heap.size_push]
    simp at hb
    rcases hb with rfl | rfl
    · exact Nat.lt_succ_self _
    · exact Nat.lt_succ_of_lt this
  · have hj : j < is.length := by rw [← hi.1]; simpa using hj
    refine ⟨?_, ?_⟩
    · show InLong (is.getD j 0)
      rw [List.getD_eq_getElem?_getD, List.getElem?_eq_getElem hj]; exact hx _ (List.getElem_mem hj)
    · rw [preSum_list is (j + 1) hj]; exact hs _ hj
  · have e : preSum (fun i => is.getD i 0) vs.toArray.size = is.sum := by rw [List.size_toArray, hi.1, preSum_list is _ (Nat.le_refl _), List.take_length]
    rw [e]
    refine q h' t' fun b o e => k b o (fun hb => ?_) (Heap.get?_push_of_some _ e)
    simp at hb
    exact Nat.lt_irrefl _ (hb ▸ Heap.lt_size e)
theorem s_max {a : Addr} {o : Obj} {vs : List Value} {is : List Int} {Q : Value → Heap → Prop} (hh : A.handled = none) (ho : h.get? a = some o) (hv : OLst o vs) (hi : IL vs is) (hn : 0 < is.length)
    (q : ∀ h' x t, h.StaysIn h' → x ∈ is → (∀ y ∈ is, y ≤ x) → Q (.int x t) h') : Wp (MM w) A (call (.builtin "max") [.ref a] []) Q E h := Wp_of fun g d tk os => by
  have hl := hv.at ho
  refine call_max_walk (wpAny_pyIter_list hl ?_)
  have hne : a ≠ h.objs.size := fun e => Nat.lt_irrefl _ (e ▸ Heap.lt_size ho)
  have ha' := Heap.get?_push_of_some (h := h) { cls := .type "list_iterator", data := .fields #[.ref a, .int 0 0] } ho
  have hP : ∀ i v, vs.toArray[i]? = some v → ∃ t, v = Value.int (is.getD i 0) t := fun i v hv' => hi.2 i v (by simpa using hv')
  refine ⟨_, _, _, _, _, _, _, rfl, Walks.list (A := A.in1) hh h.objs.size a hne vs.toArray, ⟨⟨_, Heap.get?_push_size _ rfl, rfl, rfl⟩, hv.at ha'⟩, fun b hb => ?_, by rw [List.size_toArray, hi.1]; exact hn, CmpOf.ints_gt (fun i => is.getD i 0) hP, fun v h' tk' hv' k => ⟨⟨rfl, rfl, rfl⟩, ?_⟩⟩
  · have := Heap.lt_size ho
    show b < (h.push _).objs.size
    rw [Heap.size_push]
    simp at hb
    rcases hb with rfl | rfl
    · exact Nat.lt_succ_self _
    · exact Nat.lt_succ_of_lt this
  · obtain ⟨b1, b2⟩ := argBest_gt (fun i => is.getD i 0) (vs.toArray.size - 1)
    have hsz : vs.toArray.size = is.length := by rw [List.size_toArray, hi.1]
    rw [hsz] at b1 b2 hv'
    obtain ⟨t, rfl⟩ := hP _ _ hv'
    refine q h' _ t (fun b o e => k b o (fun hb => ?_) (Heap.get?_push_of_some _ e)) ?_ ?_
    · simp at hb
      exact Nat.lt_irrefl _ (hb ▸ Heap.lt_size e)
    · rw [List.getD_eq_getElem?_getD, List.getElem?_eq_getElem (Nat.lt_of_le_of_lt b1 (Nat.sub_lt hn Nat.one_pos))]; exact List.getElem_mem _
    · intro y hy
      obtain ⟨j, hj, rfl⟩ := List.mem_iff_getElem.mp hy
      have := b2 j (Nat.le_sub_one_of_lt hj)
      rw [List.getD_eq_getElem?_getD, List.getElem?_eq_getElem hj] at this
      exact this
end

end
section
open PySem PySem.W PyProof.Rows PySem.Calls PySem.Spec PySem.SeqAt LCg
set_option Elab.async false
set_option linter.unusedVariables false
set_option maxRecDepth 100000
set_option maxHeartbeats 4000000

theorem look_two {n₁ n₂ : Str} {a₁ a₂ : Addr} (hne : (n₂ == n₁) = false) : ∀ n c, (n, c) ∈ [(n₁, a₁), (n₂, a₂)] → List.lookup n [(n₁, a₁), (n₂, a₂)] = some c := fun n c hm => by
  rcases List.mem_cons.mp hm with e | hm
  · rw [(Prod.mk.inj e).1, (Prod.mk.inj e).2, List.lookup_cons, beq_self_eq_true]
  · have e := List.mem_singleton.mp hm
    rw [(Prod.mk.inj e).1, (Prod.mk.inj e).2, List.lookup_cons, hne, List.lookup_cons, beq_self_eq_true]
theorem look_one {n₁ : Str} {a₁ : Addr} : ∀ n c, (n, c) ∈ [(n₁, a₁)] → List.lookup n [(n₁, a₁)] = some c := fun n c hm => by
  have e := List.mem_singleton.mp hm
  rw [(Prod.mk.inj e).1, (Prod.mk.inj e).2, List.lookup_cons, beq_self_eq_true]
theorem led_two {x y : Addr} {cl : Led} {P P' : Obj → Prop} (hne : x ≠ y) (h : adr cl = [x, y]) (h1 : ∃ o, (x, o) ∈ cl ∧ P o) (h2 : ∃ o, (y, o) ∈ cl ∧ P' o) : ∃ o₁ o₂, cl = [(x, o₁), (y, o₂)] ∧ P o₁ ∧ P' o₂ := by
  cases cl with
  | nil => cases h
  | cons p cl => cases cl with
    | nil => cases h
    | cons q cl => cases cl with
      | cons _ _ => cases h
      | nil =>
        obtain ⟨a, o₁⟩ := p
        obtain ⟨b, o₂⟩ := q
        have ea : a = x := (List.cons.inj h).1
        have eb : b = y := (List.cons.inj (List.cons.inj h).2).1
        clear h
        subst ea eb
        refine gh fun CC kk => ?_
        obtain ⟨o, hm, hP⟩ := h1
        obtain ⟨o', hm', hP'⟩ := h2
        refine kk ?_
        clear kk CC
        refine ⟨o₁, o₂, rfl, ?_, ?_⟩
        · rcases List.mem_cons.mp hm with e | hm
          · rw [← (Prod.mk.inj e).2]; exact hP
          · exact absurd (Prod.mk.inj (List.mem_singleton.mp hm)).1 hne
        · rcases List.mem_cons.mp hm' with e | hm'
          · exact absurd (Prod.mk.inj e).1.symm hne
          · rw [← (Prod.mk.inj (List.mem_singleton.mp hm')).2]; exact hP'
theorem led_one {x : Addr} {cl : Led} {P : Obj → Prop} (h : adr cl = [x]) (h1 : ∃ o, (x, o) ∈ cl ∧ P o) : ∃ o₁, cl = [(x, o₁)] ∧ P o₁ := by
  cases cl with
  | nil => cases h
  | cons p cl => cases cl with
    | cons _ _ => cases h
    | nil =>
      obtain ⟨a, o₁⟩ := p
      have ea : a = x := (List.cons.inj h).1
      clear h
      subst ea
      refine gh fun CC kk => ?_
      obtain ⟨o, hm, hP⟩ := h1
      refine kk ?_
      clear kk CC
      exact ⟨o₁, rfl, by rw [← (Prod.mk.inj (List.mem_singleton.mp hm)).2]; exact hP⟩
theorem lk_one (x : Str) (v : Value) : (fun y => if y = x then some v else none) = lk [(x, v)] := lk_put x v []
section
variable {w : World} {A : Around} {E : Value → Heap → Prop} {hw h₀ h : Heap} {L a c : Addr} {m : Loc} {led : Led} {fd : FuncData}
/- a def with cells that raises nothing: its cells stand in the ledger -/
theorem enter_c {f : Addr} {args : List Value} {binds : List (Str × Value)} {body : List Stmt} {Q : Value → Heap → Prop} (D : Wo w hw h)
    (l : Led) (hl : ∀ p ∈ l, h.get? p.1 = some p.2 ∧ hw.get? p.1 = none) (nd : (adr l).Nodup)
    (hK : (KF w.params).lookup f = some { cls := .type "function", data := .func fd }) (hcd : codeIn (KF w.params) fd.code fd.qualname = true) (room : A.depth < recursionLimit)
    (hbind : bindArgs fd ⟨args, []⟩ = pure binds) (hbody : fd.body = .stmts body) (hclo : fd.closure = []) (m₀ : Loc) (hm : bindL (callEnvC fd h.objs.size f).kindOf binds (fun _ => none) = lk m₀)
    (hkind : ∀ x ∈ binds, fd.scope.names.lookup x.1 = some .local ∨ (fd.scope.names.lookup x.1 = some .cell ∧ ((cellsFrom (h.objs.size + 1) fd.scope.names []).lookup x.1).isSome = true))
    (hlook : ∀ n c, (n, c) ∈ cellsFrom (h.objs.size + 1) fd.scope.names [] → (cellsFrom (h.objs.size + 1) fd.scope.names []).lookup n = some c)
    (k : ∀ h₁ cl, adr cl = (cellsFrom (h.objs.size + 1) fd.scope.names []).map (·.2) →
      (∀ n c, (cellsFrom (h.objs.size + 1) fd.scope.names []).lookup n = some c → ∃ o, (c, o) ∈ cl ∧ o.data = .cell (bindC (callEnvC fd h.objs.size f).kindOf binds (fun _ => none) n)) →
      St w hw (hideAll h (adr l)) h.objs.size h₁ m₀ (cl ++ l) →
      Wp (MM w) (A.deeper (callEnvC fd h.objs.size f)) (execs body (callEnvC fd h.objs.size f)) (fun fl h' => Q (flv fl) h') (fun _ _ => False) h₁)
    (hco : fd.scope.isCoroutine = false) (hgen : fd.scope.isGenerator = false) (hk : fd.scope.kind = .function) : Wp (MM w) A (call (.ref f) args []) Q E h := by
  refine Wp_call (call_fn D hK hcd room hbody (Wp_eq hbind ?_) hco hgen)
  rw [hclo]
  refine Wp_of fun g d tk o => wpAny_newFunctionEnv_cells (s := ⟨h, g, d, tk, o⟩) hk hkind fun env he s' x => ?_
  subst he
  refine gh fun CC kk => ?_
  obtain ⟨⟨h₁, tk₁, rfl⟩, hns, hkeep, hfr⟩ := x.toInCall
  refine kk ?_
  clear kk CC
  refine ⟨⟨rfl, rfl, rfl⟩, D.nolimit.keeps hkeep, ?_⟩
  have hcell : ∀ n c, (cellsFrom (h.objs.size + 1) fd.scope.names []).lookup n = some c → h₁.IsCell c (bindC (callEnvC fd h.objs.size f).kindOf binds (fun _ => none) n) := x.cell
  have hap : (cellsFrom (h.objs.size + 1) fd.scope.names []).Pairwise fun x y => x.2 ≠ y.2 := x.apart
  have hab : ∀ n c, (n, c) ∈ cellsFrom (h.objs.size + 1) fd.scope.names [] → h.objs.size < c := x.above
  have hns : h₁.Ns h.objs.size (bindL (callEnvC fd h.objs.size f).kindOf binds fun _ => none) := hns
  have hkeep : ∀ b o, h.get? b = some o → h₁.get? b = some o := hkeep
  show Wc _ _ (.func body (callEnvC fd h.objs.size f)) _ h₁
  generalize hcs : cellsFrom (h.objs.size + 1) fd.scope.names [] = cs at hcell hap hab hlook k
  have obs : ∀ cs : List (Str × Addr), (∀ n c, (n, c) ∈ cs → ∃ o, h₁.get? c = some o) → ∃ cl : Led, adr cl = cs.map (·.2) ∧ ∀ p ∈ cl, h₁.get? p.1 = some p.2 := fun cs => by
    induction cs with
    | nil => intro _; exact ⟨[], rfl, fun p hp => nomatch hp⟩
    | cons y r ih =>
      intro hc
      refine gh fun CC kk => ?_
      obtain ⟨cl, e1, e2⟩ := ih fun n c hm => hc n c (.tail _ hm)
      obtain ⟨o, ho⟩ := hc y.1 y.2 (.head _)
      refine kk ?_
      clear kk CC
      refine ⟨(y.2, o) :: cl, by show y.2 :: adr cl = _; rw [e1]; rfl, fun p hp => ?_⟩
      rcases List.mem_cons.mp hp with rfl | hp
      · exact ho
      · exact e2 p hp
  obtain ⟨cl, e1, e2⟩ := obs cs fun n c hm => let ⟨o, ho, _⟩ := hcell n c (hlook n c hm); ⟨o, ho⟩
  have memcl : ∀ a ∈ adr cl, h.objs.size < a := fun a ha => by
    rw [e1] at ha
    refine gh fun CC kk => ?_
    obtain ⟨p, hp, rfl⟩ := List.mem_map.mp ha
    refine kk ?_
    clear kk CC
    exact hab p.1 p.2 hp
  have nW : ∀ b o, hw.get? b = some o → b ∉ adr l := fun b o e hb => by
    refine gh fun CC kk => ?_
    obtain ⟨p, hp, rfl⟩ := List.mem_map.mp hb
    refine kk ?_
    clear kk CC
    rw [(hl p hp).2] at e; cases e
  have fresh : ∀ a, h.objs.size < a → (hideAll h (adr l)).get? a = none := fun a ha => by
    cases e : (hideAll h (adr l)).get? a with
    | none => rfl
    | some o => exact absurd (Heap.lt_size (of_hideAll _ e)) (Nat.not_lt.mpr (Nat.le_of_lt ha))
  have S : St w hw (hideAll h (adr l)) h.objs.size h₁ m₀ (cl ++ l) :=
    ⟨⟨D.1, fun b o e => hideAll_get _ (D.2 b o e) (nW b o e)⟩,
     ⟨hm ▸ hns, fun b o e => hkeep b o (of_hideAll _ e), Nat.le_of_eq (hideAll_size _ _)⟩,
     fun p hp => by
      rcases List.mem_append.mp hp with hp | hp
      · have := memcl p.1 (List.mem_map_of_mem hp)
        exact ⟨e2 p hp, Nat.ne_of_gt this, fresh _ this⟩
      · exact ⟨hkeep _ _ (hl p hp).1, Nat.ne_of_lt (Heap.lt_size (hl p hp).1), hideAll_none _ (List.mem_map_of_mem hp)⟩, by
      rw [List.map_append, List.nodup_append]
      refine ⟨?_, nd, fun a ha b hb e => ?_⟩
      · show (adr cl).Nodup
        rw [e1]
        exact List.pairwise_map.mpr hap
      · subst e
        have h1 := memcl a ha
        refine gh fun CC kk => ?_
        obtain ⟨p, hp, rfl⟩ := List.mem_map.mp hb
        refine kk ?_
        clear kk CC
        exact absurd (Heap.lt_size (hl p hp).1) (Nat.not_lt.mpr (Nat.le_of_lt h1))⟩
  refine Wc_func (Wp_mono (k h₁ cl e1 (fun n c hc => ?_) S) (fun _ _ q => q) fun _ _ e => False.elim e)
  refine gh fun CC kk => ?_
  obtain ⟨o, ho, hd⟩ := hcell n c hc
  refine kk ?_
  clear kk CC
  have : c ∈ adr cl := by rw [e1]; exact List.mem_map_of_mem (f := (·.2)) (mem_of_lookup hc)
  refine gh fun CC kk => ?_
  obtain ⟨p, hp, rfl⟩ := List.mem_map.mp this
  refine kk ?_
  clear kk CC
  have := e2 p hp
  rw [ho] at this; cases this
  exact ⟨_, hp, hd⟩

theorem nc_local {x : Str} {pos : Pos} {v : Value} {Q : Value → Heap → Prop} (S : St w hw h₀ L h m led) (hv : lk m x = some v) (q : Q v h) (hk : isLoc fd x = true := by with_unfolding_all rfl) :
    Wp (MM w) A (eval (.Name x pos) (callEnvC fd L a)) Q E h := Wp_of fun g d tk o =>
  wpAny_Name (wpAny_loadName_local (isLoc.to hk).1 (isLoc.to hk).2.1 S.F.ns hv ⟨⟨rfl, rfl, rfl⟩, q⟩) (isLoc.to hk).2.2
theorem nc_store {x : Str} {v : Value} {Q : Unit → Heap → Prop} (S : St w hw h₀ L h m led) (q : ∀ h', St w hw h₀ L h' (put x v m) led → Q () h') (hk : isLoc fd x = true := by with_unfolding_all rfl) :
    Wp (MM w) A (storeName (callEnvC fd L a) x v) Q E h := Wp_of fun g d tk o =>
  wpAny_storeName_local (isLoc.to hk).2.1 S.F.ns (fun h' hn hs => ⟨⟨rfl, rfl, rfl⟩, q h' ⟨S.D, lk_put x v m ▸ S.F.set hn hs, S.N.set hs, S.nd⟩⟩)
    (by show (fd.scope.kind == .class || (fd.scope.kind == .module && L != fd.globals)) = false; rw [(isLoc.to hk).1]; rfl)
theorem nc_localK {x : Str} {pos : Pos} {v : Value} {Q : Value → Heap → Prop} (hk : isLoc fd x = true) (S : St w hw h₀ L h m led) (hv : lk m x = some v) (q : Q v h) : Wp (MM w) A (eval (.Name x pos) (callEnvC fd L a)) Q E h := nc_local S hv q hk
theorem nc_global {x : Str} {pos : Pos} {v : Value} {Q : Value → Heap → Prop} (S : St w hw h₀ L h m led) (hg : nsIn (KF w.params) mainGlobals x = some (some v)) (q : Q v h) (hk : isGlo fd x = true := by with_unfolding_all rfl) :
    Wp (MM w) A (eval (.Name x pos) (callEnvC fd L a)) Q E h := Wp_of fun g d tk o => by
  refine gh fun CC kk => ?_
  obtain ⟨_, mg, mb, T⟩ := S.wd.top
  obtain ⟨hgl, _, hk, hl, hd, _⟩ := isGlo.to hk
  refine kk ?_
  clear kk CC
  exact Name_function_global hk hl (loadGlobal_global (env := callEnvC fd L a) (by show Heap.Ns _ fd.globals mg; rw [hgl]; exact T.g) (mg_of S.wd.K T.g hg) ⟨⟨rfl, rfl, rfl⟩, q⟩) hd
theorem nc_builtin {x : Str} {pos : Pos} {v : Value} {Q : Value → Heap → Prop} (S : St w hw h₀ L h m led) (hg : nsIn (KF w.params) mainGlobals x = some none) (hb : bootBuiltins x = some v) (q : Q v h) (hk : isGlo fd x = true := by with_unfolding_all rfl) :
    Wp (MM w) A (eval (.Name x pos) (callEnvC fd L a)) Q E h := Wp_of fun g d tk o => by
  refine gh fun CC kk => ?_
  obtain ⟨_, mg, mb, T⟩ := S.wd.top
  obtain ⟨hgl, hbl, hk, hl, hd, hn⟩ := isGlo.to hk
  refine kk ?_
  clear kk CC
  exact Name_function_global hk hl (loadGlobal_builtin (env := callEnvC fd L a) (by show Heap.Ns _ fd.globals mg; rw [hgl]; exact T.g) (mg_none_of S.wd.K T.g hg) (by show Heap.Ns _ fd.builtins mb; rw [hbl]; exact T.b) ((T.builtins x hn).trans hb) ⟨⟨rfl, rfl, rfl⟩, q⟩) hd
theorem nc_local' {x : Str} {pos : Pos} {v : Value} {Q : Value → Heap → Prop} (S : St w hw h₀ L h m led) (hv : lk m x = some v) (q : Q v h)
    (hk : fd.scope.kind = .function := by with_unfolding_all rfl) (hl : (callEnvC fd L a).kindOf x = some .local := by with_unfolding_all rfl) (hd : (x == ("__debug__" : Str)) = false := by decide) :
    Wp (MM w) A (eval (.Name x pos) (callEnvC fd L a)) Q E h := Wp_of fun g d tk o =>
  wpAny_Name (wpAny_loadName_local hk hl S.F.ns hv ⟨⟨rfl, rfl, rfl⟩, q⟩) hd
theorem nc_store' {x : Str} {v : Value} {Q : Unit → Heap → Prop} (S : St w hw h₀ L h m led) (q : ∀ h', St w hw h₀ L h' (put x v m) led → Q () h')
    (hk : fd.scope.kind = .function := by with_unfolding_all rfl) (hl : (callEnvC fd L a).kindOf x = some .local := by with_unfolding_all rfl) :
    Wp (MM w) A (storeName (callEnvC fd L a) x v) Q E h := Wp_of fun g d tk o =>
  wpAny_storeName_local hl S.F.ns (fun h' hn hs => ⟨⟨rfl, rfl, rfl⟩, q h' ⟨S.D, lk_put x v m ▸ S.F.set hn hs, S.N.set hs, S.nd⟩⟩)
    (by show (fd.scope.kind == .class || (fd.scope.kind == .module && L != fd.globals)) = false; rw [hk]; rfl)
theorem nc_cell {x : Str} {pos : Pos} {v : Value} {oc : Obj} {Q : Value → Heap → Prop} (S : St w hw h₀ L h m led) (hm : (c, oc) ∈ led) (hv : oc.data = .cell (some v)) (q : Q v h)
    (hc : (callEnvC fd L a).cells.lookup x = some c := by with_unfolding_all rfl) (hk : fd.scope.kind = .function := by with_unfolding_all rfl) (hl : (callEnvC fd L a).kindOf x = some .cell := by with_unfolding_all rfl) (hd : (x == ("__debug__" : Str)) = false := by decide) :
    Wp (MM w) A (eval (.Name x pos) (callEnvC fd L a)) Q E h := Wp_of fun g d tk o =>
  wpAny_Name (wpAny_loadName_cell hk hl hc ⟨oc, S.get hm, hv⟩ ⟨⟨rfl, rfl, rfl⟩, q⟩) hd
theorem nc_cellset {x : Str} {v : Value} {v₀ : Option Value} {oc : Obj} {Q : Unit → Heap → Prop} (S : St w hw h₀ L h m led) (hm : (c, oc) ∈ led) (hv : oc.data = .cell v₀)
    (q : ∀ oc' h', oc'.data = .cell (some v) → (∀ led', Up c oc oc' led led' → St w hw h₀ L h' m led') → Q () h')
    (hc : (callEnvC fd L a).cells.lookup x = some c := by with_unfolding_all rfl) (hk : fd.scope.kind = .function := by with_unfolding_all rfl) (hl : (callEnvC fd L a).kindOf x = some .cell := by with_unfolding_all rfl) :
    Wp (MM w) A (storeName (callEnvC fd L a) x v) Q E h := Wp_of fun g d tk o =>
  wpAny_storeName_cell hk hl hc ⟨oc, S.get hm, hv⟩ fun h' ⟨oc', ho', hd'⟩ hs => ⟨⟨rfl, rfl, rfl⟩, q oc' h' hd' fun led' u => S.upd u hs.extBut ho'⟩
/- a cell of the frame, read in a comprehension -/
theorem c_cell {x : Str} {pos : Pos} {v : Value} {oc : Obj} {C : Addr} {scope : Scope} {cl : List (Str × Addr)} {env : Env} {Q : Value → Heap → Prop} (S : St w hw h₀ L h m led) (hm : (c, oc) ∈ led) (hv : oc.data = .cell (some v)) (q : Q v h)
    (hc : cl.lookup x = some c := by with_unfolding_all rfl) (hk : scope.kind = .function := by with_unfolding_all rfl) (hl : (compEnvC scope cl C env).kindOf x = some .cell := by with_unfolding_all rfl) (hd : (x == ("__debug__" : Str)) = false := by decide) :
    Wp (MM w) A (eval (.Name x pos) (compEnvC scope cl C env)) Q E h := Wp_of fun g d tk o =>
  wpAny_Name (wpAny_loadName_cell hk hl hc ⟨oc, S.get hm, hv⟩ ⟨⟨rfl, rfl, rfl⟩, q⟩) hd
end

end
section
open PySem PySem.W PyProof.Rows PySem.Calls PySem.Spec PySem.SeqAt LCg
set_option Elab.async false
set_option linter.unusedVariables false
set_option maxRecDepth 100000

section
variable {w : World} {A : Around} {E : Value → Heap → Prop} {hw h₀ h : Heap} {L a b : Addr} {m : Loc} {led : Led} {env : Env} {rest : List Stmt} {fd : FuncData}
/- a def that raises nothing: what is around it has names of its own -/
theorem enter_g {f : Addr} {args : List Value} {binds : List (Str × Value)} {body : List Stmt} {Q : Value → Heap → Prop} {n : Nat} (D : Wo w hw h) (r : Rm A (n + 1))
    (l : Led) (hl : ∀ p ∈ l, h.get? p.1 = some p.2 ∧ hw.get? p.1 = none) (nd : (adr l).Nodup)
    (hK : (KF w.params).lookup f = some { cls := .type "function", data := .func fd }) (hcd : codeIn (KF w.params) fd.code fd.qualname = true)
    (hbind : ∀ s : Shared, s.heap = h → BindsTo s fd ⟨args, []⟩ binds) (hbody : fd.body = .stmts body) (m₀ : Loc) (hm : binds.reverse = m₀)
    (k : ∀ L h₀ A' h₁, Rm A' n → (∀ lf, A.frames = some lf → A'.frames = some (callEnv fd L f :: lf)) → (∀ {h' m' l'}, St w hw h₀ L h' m' l' → Step h l h' l') → St w hw h₀ L h₁ m₀ l →
      Wp (MM w) A' (execs body (callEnv fd L f)) (fun fl h' => Q (flv fl) h') (fun _ _ => False) h₁)
    (hloc : ∀ x ∈ binds, fd.scope.names.lookup x.1 = some .local) (hcell : ∀ x ∈ fd.scope.names, x.2 ≠ .cell)
    (hco : fd.scope.isCoroutine = false) (hgen : fd.scope.isGenerator = false) (hk : fd.scope.kind = .function) : Wp (MM w) A (call (.ref f) args []) Q E h :=
  enter_ret D l hl nd hK hcd r.dep hbind hbody (fun h₁ S => k h.objs.size _ _ h₁ (r.deeper (env := callEnv fd h.objs.size f)) (fun lf hf => Around.frames_deeper hf) (fun S => St.step S) (hm ▸ S)) hloc hcell hco hgen hk
end
/- what a call keeps alive: defs and classes by their addresses -/
noncomputable def fnAddrs : List Addr := [29, 54, 61, 75, 82, 89, 96, 103, 110, 117, 124, 131, 138, 152, 157, 164, 171, 178, 185, 193, 209, 221, 272, 279, 284, 291, 296, 303, 310, 317, 324, 331, 336, 341]
noncomputable def isKept (a : Addr) : Bool := fnAddrs.contains a || [45, 141, 212].contains a
theorem fa {p : Addr → Prop} {a : Addr} {l : List Addr} (x : p a) (y : ∀ b ∈ l, p b) : ∀ b ∈ a :: l, p b := List.forall_mem_cons.mpr ⟨x, y⟩
theorem fns_all (P : Params) : ∀ a ∈ fnAddrs, ∃ fd, (KF P).lookup a = some { cls := .type "function", data := .func fd } :=
  fa ⟨_, kf29 _⟩ (fa ⟨_, kf54 _⟩ (fa ⟨_, kf61 _⟩ (fa ⟨_, kf75 _⟩ (fa ⟨_, kf82 _⟩ (fa ⟨_, kf89 _⟩ (fa ⟨_, kf96 _⟩ (fa ⟨_, kf103 _⟩ (fa ⟨_, kf110 _⟩ (fa ⟨_, kf117 _⟩ (fa ⟨_, kf124 _⟩ (fa ⟨_, kf131 _⟩ (fa ⟨_, kf138 _⟩ (fa ⟨_, kf152 _⟩ (fa ⟨_, kf157 _⟩ (fa ⟨_, kf164 _⟩ (fa ⟨_, kf171 _⟩ (fa ⟨_, kf178 _⟩ (fa ⟨_, kf185 _⟩ (fa ⟨_, kf193 _⟩ (fa ⟨_, kf209 _⟩ (fa ⟨_, kf221 _⟩ (fa ⟨_, kf272 _⟩ (fa ⟨_, kf279 _⟩ (fa ⟨_, kf284 _⟩ (fa ⟨_, kf291 _⟩ (fa ⟨_, kf296 _⟩ (fa ⟨_, kf303 _⟩ (fa ⟨_, kf310 _⟩ (fa ⟨_, kf317 _⟩ (fa ⟨_, kf324 _⟩ (fa ⟨_, kf331 _⟩ (fa ⟨_, kf336 _⟩ (fa ⟨_, kf341 _⟩ (fun _ h => nomatch h))))))))))))))))))))))))))))))))))
theorem cls_all (P : Params) : ∀ a ∈ [45, 141, 212], keepCls (KF P) a = true := fa (kk45 _) (fa (kk141 _) (fa (kk212 _) fun _ h => nomatch h))
section
variable {w : World} {A : Around} {E : Value → Heap → Prop} {hw h₀ h : Heap} {L a : Addr} {m : Loc} {led : Led} {f s : Value} {vs : List Value} {Q : Value → Heap → Prop}
theorem keeps_ref (S : St w hw h₀ L h m led) (e : isKept a = true) : Keeps (.ref a) h := by
  unfold isKept at e
  rw [Bool.or_eq_true, List.contains_iff_mem, List.contains_iff_mem] at e
  rcases e with e | e
  · obtain ⟨fd, e⟩ := fns_all w.params a e
    exact keeps_fn S e
  · exact keeps_cls S (cls_all w.params a e)
theorem ka_ref0 (S : St w hw h₀ L h m led) (x : Wp (MM w) A (call (.ref a) vs []) Q E h) (e : isKept a = true := by with_unfolding_all rfl) : KArgs w A E (.ref a) [] Q vs h := ⟨keeps_ref S e, x⟩
theorem ka_ref1 (S : St w hw h₀ L h m led) (x : Wp (MM w) A (call (.ref a) (s :: vs) []) Q E h) (e : isKept a = true := by with_unfolding_all rfl) : KArgs w A E (.ref a) [s] Q vs h := ⟨keeps_ref S e, x⟩
theorem ka0 (k : Keeps f h) (x : Wp (MM w) A (call f vs []) Q E h) : KArgs w A E f [] Q vs h := ⟨k, x⟩
theorem ka1 (k : Keeps f h) (x : Wp (MM w) A (call f (s :: vs) []) Q E h) : KArgs w A E f [s] Q vs h := ⟨k, x⟩
end
/- steps taken at once -/
section
variable {w : World} {A : Around} {E : Value → Heap → Prop} {hw h₀ h : Heap} {L a : Addr} {m : Loc} {led : Led} {env : Env} {fd : FuncData} {rest : List Stmt} {x y : Str} {n i : Int} {k : Nat} {p p1 p2 p3 p4 pos : Pos} {t u : Tok} {v v' : Value}
theorem k_lt {Q : Bool → Heap → Prop} (q : Q (decide (n < i)) h) : KTst1 w A E env (.Constant (.int i) k p) .Lt Q (.int n t) h := e_int fun _ => i_lt (truthy_bool q)
theorem k_le {Q : Bool → Heap → Prop} (q : Q (decide (n ≤ i)) h) : KTst1 w A E env (.Constant (.int i) k p) .LtE Q (.int n t) h := e_int fun _ => i_le (truthy_bool q)
theorem k_gt {Q : Bool → Heap → Prop} (q : Q (decide (n > i)) h) : KTst1 w A E env (.Constant (.int i) k p) .Gt Q (.int n t) h := e_int fun _ => i_gt (truthy_bool q)
theorem k_ge {Q : Bool → Heap → Prop} (q : Q (decide (n ≥ i)) h) : KTst1 w A E env (.Constant (.int i) k p) .GtE Q (.int n t) h := e_int fun _ => i_ge (truthy_bool q)
theorem k_eq {Q : Bool → Heap → Prop} (q : Q (n == i) h) : KTst1 w A E env (.Constant (.int i) k p) .Eq Q (.int n t) h := e_int fun _ => i_eq (truthy_bool q)
theorem k_ne {Q : Bool → Heap → Prop} (q : Q (n != i) h) : KTst1 w A E env (.Constant (.int i) k p) .NotEq Q (.int n t) h := e_int fun _ => i_ne (truthy_bool q)
theorem k_yeq {b : Array UInt8} {c : List UInt8} {Q : Bool → Heap → Prop} (q : Q (b.toList == c.toArray.toList) h) : KTst1 w A E env (.Constant (.bytes c) k p) .Eq Q (.bytes b t) h := e_bytes fun _ => y_eq (truthy_bool q)
theorem k_yne {b : Array UInt8} {c : List UInt8} {Q : Bool → Heap → Prop} (q : Q (b.toList != c.toArray.toList) h) : KTst1 w A E env (.Constant (.bytes c) k p) .NotEq Q (.bytes b t) h := e_bytes fun _ => y_ne (truthy_bool q)
theorem k_add {Q : Value → Heap → Prop} (q : ∀ t', Q (.int (n + i) t') h) : KBin1 w A E env (.Constant (.int i) k p) .Add Q (.int n t) h := e_int fun _ => i_add q
theorem k_sub {Q : Value → Heap → Prop} (q : ∀ t', Q (.int (n - i) t') h) : KBin1 w A E env (.Constant (.int i) k p) .Sub Q (.int n t) h := e_int fun _ => i_sub q
theorem st_AssignI {Q : Flow → Heap → Prop} (S : St w hw h₀ L h m led) (q : ∀ t' h', St w hw h₀ L h' (put x (.int i t') m) led → Wp (MM w) A (execs rest (callEnv fd L a)) Q E h') (hk : isLoc fd x = true := by with_unfolding_all rfl) :
    Wp (MM w) A (execs (.Assign [.Name x p1] (.Constant (.int i) k p) pos :: rest) (callEnv fd L a)) Q E h := st_Assign (e_int fun t => n_store S (fun h' S' => q t h' S') hk) rfl
theorem st_Incr {Q : Flow → Heap → Prop} (S : St w hw h₀ L h m led) (hv : lk m y = some (.int n t)) (q : ∀ t' h', St w hw h₀ L h' (put x (.int (n + i) t') m) led → Wp (MM w) A (execs rest (callEnv fd L a)) Q E h') (hk : isLoc fd x = true := by with_unfolding_all rfl)
    (hy : isLoc fd y = true := by with_unfolding_all rfl) : Wp (MM w) A (execs (.Assign [.Name x p1] (.BinOp (.Name y p2) .Add (.Constant (.int i) k p) p3) pos :: rest) (callEnv fd L a)) Q E h :=
  st_Assign (e_BinOp (n_local S hv (k_add fun t' => n_store S (fun h' S' => q t' h' S') hk) hy)) rfl
theorem e_SubLL {Q : Value → Heap → Prop} (S : St w hw h₀ L h m led) (hv : lk m x = some v) (hv' : lk m y = some v') (q : Wp (MM w) A (subscriptTail (.Name x p1) (.Name y p2) v v') Q E h) (hk : isLoc fd x = true := by with_unfolding_all rfl)
    (hy : isLoc fd y = true := by with_unfolding_all rfl) : Wp (MM w) A (eval (.Subscript (.Name x p1) (.Name y p2) pos) (callEnv fd L a)) Q E h := e_Subscript (n_local S hv (n_local S hv' q hy) hk)
theorem e_SubLI {Q : Value → Heap → Prop} (S : St w hw h₀ L h m led) (hv : lk m x = some v) (q : ∀ t, Wp (MM w) A (subscriptTail (.Name x p1) (.Constant (.int i) k p2) v (.int i t)) Q E h) (hk : isLoc fd x = true := by with_unfolding_all rfl) :
    Wp (MM w) A (eval (.Subscript (.Name x p1) (.Constant (.int i) k p2) pos) (callEnv fd L a)) Q E h := e_Subscript (n_local S hv (e_int q) hk)
theorem e_AttrL {attr : Str} {Q : Value → Heap → Prop} (S : St w hw h₀ L h m led) (hv : lk m x = some v) (q : Wp (MM w) A (getAttr v attr true) Q E h) (hk : isLoc fd x = true := by with_unfolding_all rfl) :
    Wp (MM w) A (eval (.Attribute (.Name x p1) attr pos) (callEnv fd L a)) Q E h := e_Attribute (n_local S hv q hk)
theorem t_CmpL {r : Expr} {op : CmpOp} {whole : Sem Value} {Q : Bool → Heap → Prop} (S : St w hw h₀ L h m led) (hv : lk m x = some v) (q : KTst1 w A E (callEnv fd L a) r op Q v h) (hk : isLoc fd x = true := by with_unfolding_all rfl)
    (hb : behindInMarks op r = false := by with_unfolding_all rfl) : Wp (MM w) A (isTrue (.Compare (.Name x p1) [op] [r] pos) (callEnv fd L a) whole) Q E h := t_Compare (n_local S hv q hk) hb
theorem e_BinL {r : Expr} {op : Operator} {Q : Value → Heap → Prop} (S : St w hw h₀ L h m led) (hv : lk m x = some v) (q : KBin1 w A E (callEnv fd L a) r op Q v h) (hk : isLoc fd x = true := by with_unfolding_all rfl) :
    Wp (MM w) A (eval (.BinOp (.Name x p1) op r pos) (callEnv fd L a)) Q E h := e_BinOp (n_local S hv q hk)
theorem e_SliceLA {Q : Value → Heap → Prop} (S : St w hw h₀ L h m led) (hv : lk m x = some v) (hv' : lk m y = some (.int n t)) (q : ∀ t', Q (.ref h.objs.size) (h.push { cls := .type "slice", data := .fields #[v, .int (n + i) t', .none] }))
    (hk : isLoc fd x = true := by with_unfolding_all rfl) (hy : isLoc fd y = true := by with_unfolding_all rfl) :
    Wp (MM w) A (eval (.Slice (some (.Name x p1)) (some (.BinOp (.Name y p2) .Add (.Constant (.int i) k p) p3)) none p4) (callEnv fd L a)) Q E h := e_SliceB (n_local S hv (e_BinL S hv' (k_add q) hy) hk)
end

end
section
open PySem PySem.W PyProof.Rows PySem.Calls PySem.Spec PySem.SeqAt LCg
set_option Elab.async false
set_option linter.unusedVariables false
set_option maxRecDepth 100000

/- a def that may refuse: what is around it has names of its own -/
theorem enter_rg {w : World} {A : Around} {E : Value → Heap → Prop} {H h : Heap} {W : List Addr} {P : Int → Prop} {fd : FuncData} {f : Addr} {args : List Value} {binds : List (Str × Value)} {body : List Stmt} {Q : Value → Heap → Prop} {n : Nat} (D : Wo w H h) (r : Rm A (n + 1))
    (l : Led) (hl : ∀ p ∈ l, h.get? p.1 = some p.2 ∧ H.get? p.1 = none) (nd : (adr l).Nodup) (z : Rz H W A (hideAll h (adr l)))
    (hK : (KF w.params).lookup f = some { cls := .type "function", data := .func fd }) (hcd : codeIn (KF w.params) fd.code fd.qualname = true)
    (hbind : ∀ s : Shared, s.heap = h → BindsTo s fd ⟨args, []⟩ binds) (hbody : fd.body = .stmts body) (m₀ : Loc) (hm : binds.reverse = m₀) (hE : ∀ e h', Fly H W A P e h' → E e h')
    (x : ∀ L h₀ A' (E' : Value → Heap → Prop) h₁, Rm A' n → (∀ {h' m' l'}, St w H h₀ L h' m' l' → Rz H W A' h') → (∀ {h' m' l1 k1}, St w H h₀ L h' m' (l1 ++ k1) → Rz H W A' (hideAll h' (adr l1))) → (∀ {e h'}, Fly H W A' P e h' → E' e h') → (∀ {h' m' l'}, St w H h₀ L h' m' (l' ++ []) → Step h l h' l') → St w H h₀ L h₁ m₀ (l ++ []) →
      Wp (MM w) A' (execs body (callEnv fd L f)) (fun fl h' => Q (flv fl) h') E' h₁)
    (hloc : ∀ x ∈ binds, fd.scope.names.lookup x.1 = some .local) (hcell : ∀ x ∈ fd.scope.names, x.2 ≠ .cell)
    (hco : fd.scope.isCoroutine = false) (hgen : fd.scope.isGenerator = false) (hk : fd.scope.kind = .function) : Wp (MM w) A (call (.ref f) args []) Q E h :=
  enter_r D l hl nd z.frames hK hcd r.dep hbind hbody m₀ hm hE (fun h₁ S => x h.objs.size _ _ _ h₁ (r.deeper (env := callEnv fd h.objs.size f)) (fun S' => Rz.here z S' hk) (fun S' => Rz.sub z S' hk) (fun y => by
    obtain ⟨l, hf⟩ := z.frames
    exact Fly.b (L := h.objs.size) (Around.frames_deeper hf) rfl y) (fun S' => by rw [List.append_nil] at S'; exact St.step S') (by rw [List.append_nil]; exact S)) hloc hcell hco hgen hk

end
open PySem PySem.W PyProof.Rows PySem.Calls PySem.Spec PySem.SeqAt LCg
set_option maxHeartbeats 4000000
set_option hygiene false
local macro_rules
| `(tactic| walk_at "g") => `(tactic| with_reducible first
  | exact g_TermError
  | exact g_BadParam
  | exact g_PERCENT
  | exact g_TWO_OPERATORS
  | exact g_ONE_OPERATORS
  | exact g_WRITERS
  | exact g_DIGITS
  | exact g_param_is_digit
  | exact g_param_number
  | exact g_ParmReader
  | exact g_tparm_program
  | exact g_param_most
  | exact g_param_is_plain
  | exact g_delay_at
  | exact g_delays_of
  | exact g_without_delays
  | exact g_delay_total
  | exact g_Info
  | exact g_differences
  | exact g_law_pieces
  | exact g_law_good
  | exact g_law_ill
  | exact g_law_names
  | exact g_law_draw
  | exact g_law_pick
  | exact g_law_figures
  | exact g_law_delay
  | exact g_law_delays_right
  | exact g_law_made
  | exact g_law_told
  | exact g_law_most_right
  | exact g_law_info
  | exact g_law_is_like
  | exact g_law_infos_right)
| `(tactic| walk_at "gb") => `(tactic| with_reducible first
  | exact gb_bool
  | exact gb_bytearray
  | exact gb_bytes
  | exact gb_dict
  | exact gb_isinstance
  | exact gb_len
  | exact gb_list
  | exact gb_max
  | exact gb_range
  | exact gb_sorted
  | exact gb_sum
  | exact gb_zip)
| `(tactic| walk_at "bb") => `(tactic| with_reducible first
  | exact bb_bool
  | exact bb_bytearray
  | exact bb_bytes
  | exact bb_dict
  | exact bb_isinstance
  | exact bb_len
  | exact bb_list
  | exact bb_max
  | exact bb_range
  | exact bb_sorted
  | exact bb_sum
  | exact bb_zip)
| `(tactic| walk_at "lk") => `(tactic| first | with_reducible exact lkp_self | (with_reducible refine (lkp_ne (by decide)).trans ?_; walk_at "lk") | assumption)
| `(tactic| walk_at "lv") => `(tactic| first | with_reducible exact lkp_self | with_unfolding_all rfl | walk_at "lk")
| `(tactic| walk_at "nm") => `(tactic| with_reducible first
  | ((fail_if_success fail_if_success show Wp _ _ (eval _ (callEnv _ _ _)) _ _ _); first | refine n_localK (by with_unfolding_all rfl) (by assumption) (by walk_at "lv") ?_ | refine n_global (by assumption) (by walk_at "g") ?_ | refine n_builtin (by assumption) (by walk_at "gb") (by walk_at "bb") ?_)
  | ((fail_if_success fail_if_success show Wp _ _ (eval _ (callEnvC _ _ _)) _ _ _); first | refine nc_localK (by with_unfolding_all rfl) (by assumption) (by walk_at "lv") ?_ | refine nc_global (by assumption) (by walk_at "g") ?_ | refine nc_builtin (by assumption) (by walk_at "gb") (by walk_at "bb") ?_)
  | refine c_local (by assumption) (by with_unfolding_all first | exact List.Mem.tail _ (List.Mem.head _) | exact List.Mem.tail _ (List.Mem.tail _ (List.Mem.head _)) | exact List.Mem.tail _ (List.Mem.tail _ (List.Mem.tail _ (List.Mem.head _)))) (by assumption) (by first | with_unfolding_all rfl | exact lkp_self | exact (lkp_ne (by decide)).trans lkp_self | exact (lkp_ne (by decide)).trans ((lkp_ne (by decide)).trans lkp_self)) ?_
  | refine c_global (by assumption) (by walk_at "g") ?_
  | refine c_builtin (by assumption) (by walk_at "gb") (by walk_at "bb") ?_)
| `(tactic| walk_at "m") => `(tactic| first
  | with_reducible first
    | ((fail_if_success fail_if_success show Wp _ _ (execs _ _) _ _ _); first | refine st_Return ?_ | refine st_AssignI (by assumption) fun tq hq Sq => ?_ | ((fail_if_success fail_if_success show Wp _ _ (execs (Stmt.Assign _ (Expr.BinOp (Expr.Name _ _) _ (Expr.Constant _ _ _) _) _ :: _) _) _ _ _); refine st_Incr (by assumption) (by walk_at "lv") fun tq hq Sq => ?_) | refine st_Assign ?_ | refine st_Expr ?_ | refine st_AssignAttr ?_ | refine st_AssignSub ?_ | refine st_AssignTup ?_ | refine execs_nil ?_ | refine st_Return0 ?_)
    | ((fail_if_success fail_if_success show Wp _ _ (eval (Expr.Name _ _) _) _ _ _); walk_at "nm")
    | ((fail_if_success fail_if_success show Wp _ _ (eval (Expr.Constant _ _ _) _) _ _ _); first | refine k_add fun tq => ?_ | refine k_sub fun tq => ?_ | refine k_lt ?_ | refine k_le ?_ | refine k_gt ?_ | refine k_ge ?_ | refine k_eq ?_ | refine k_ne ?_ | refine k_yeq ?_ | refine k_yne ?_ | refine e_int fun tq => ?_ | refine e_bytes fun tq => ?_ | refine e_none ?_ | refine e_bool ?_ | refine e_str fun tq => ?_)
    | ((fail_if_success fail_if_success show Wp _ _ (eval _ _) _ _ _); first | ((fail_if_success fail_if_success show Wp _ _ (eval (Expr.Call (Expr.Name _ _) _ _ _) _) _ _ _); first | refine e_CallG (by assumption) (by walk_at "g") ?_ | refine e_Call ?_) | ((fail_if_success fail_if_success show Wp _ _ (eval (Expr.Attribute (Expr.Name _ _) _ _) _) _ _ _); refine e_AttrL (by assumption) (by walk_at "lv") ?_) | ((fail_if_success fail_if_success show Wp _ _ (eval (Expr.Subscript (Expr.Name _ _) _ _) _) _ _ _); first | refine e_SubLL (by assumption) (by walk_at "lv") (by walk_at "lv") ?_ | refine e_SubLI (by assumption) (by walk_at "lv") fun tq => ?_) | refine e_Subscript ?_ | ((fail_if_success fail_if_success show Wp _ _ (eval (Expr.BinOp (Expr.Name _ _) _ _ _) _) _ _ _); refine e_BinL (by assumption) (by walk_at "lv") ?_) | refine e_BinOp ?_ | refine e_Meth ?_ | refine e_Tuple ?_ | refine e_List ?_ | refine e_BoolOp ?_ | refine e_Compare ?_ | refine e_UnaryOp ?_ | refine e_Attribute ?_ | ((fail_if_success fail_if_success show Wp _ _ (eval (Expr.Slice (some (Expr.Name _ _)) (some (Expr.BinOp _ _ _ _)) _ _) _) _ _ _); refine e_SliceLA (by assumption) (by walk_at "lv") (by walk_at "lv") (fun tq => ?_)) | refine e_SliceB ?_ | refine e_SliceL ?_ | refine e_SliceH ?_)
    | ((fail_if_success fail_if_success show Wp _ _ (isTrue _ _ _) _ _ _); first | refine t_Compare2 ?_ | ((fail_if_success fail_if_success show Wp _ _ (isTrue (Expr.Compare (Expr.Name _ _) _ _ _) _ _) _ _ _); refine t_CmpL (by assumption) (by walk_at "lv") ?_) | refine t_Compare ?_ | refine t_Not ?_ | refine t_BoolOp ?_ | refine t_plain ?_)
    | ((fail_if_success fail_if_success show Wp _ _ (spliced _) _ _ _); first | ((fail_if_success fail_if_success show Wp _ _ (spliced (backTo _ (starEach (Expr.Name _ _ :: _) _))) _ _ _); refine sp_loc (by assumption) (by walk_at "lv") ?_) | refine sp_cons ?_ | refine sp_nil ?_)
    | ((fail_if_success fail_if_success show Wp _ _ (compareOp _ _ _) _ _ _); first | refine i_lt ?_ | refine i_eq ?_ | refine i_ne ?_ | refine i_le ?_ | refine i_gt ?_ | refine i_ge ?_ | refine y_eq ?_ | refine y_ne ?_ | refine c_is_nn ?_ | refine c_is_ref ?_ | refine c_is_int ?_ | refine c_isnot_nn ?_ | refine c_isnot_ref ?_ | refine c_isnot_int ?_)
    | refine truthy_bool ?_
    | refine n_store (by assumption) fun hq Sq => ?_
    | refine e_callWith ?_
    | refine ka_ref0 (by assumption) ?_
    | refine ka_ref1 (by assumption) ?_
    | refine ka0 (by with_unfolding_all exact trivial) ?_
    | refine ka1 (by with_unfolding_all exact trivial) ?_
    | refine t_And_cons ?_
    | refine t_And_nil ?_
    | refine t_Or_cons ?_
    | refine t_Or_nil ?_
    | refine b_last ?_
    | refine b_And ?_
    | refine b_Or ?_
    | refine nc_store (by assumption) fun hq Sq => ?_
    | refine i_add fun tq => ?_
    | refine i_sub fun tq => ?_
    | refine i_mul (by with_unfolding_all first | exact IntMulOk.of_right (by decide) | exact IntMulOk.of_left (by decide)) fun tq => ?_
    | refine Seq_next ?_
    | refine Seq_ret ?_
    | refine as_name ?_
    | refine a_cons ?_
    | refine a_nil ?_
    | refine Cut_next ?_
    | refine Cut_ret ?_
    | refine if_tt ?_
    | refine if_ff ?_
    | refine Turn_next ?_
    | refine Turn_ret ?_
    | refine go_name ?_
    | refine tests_cons ?_
    | refine tests_nil ?_
  | ((fail_if_success fail_if_success with_reducible show Wp _ _ (subscriptTail _ _ (Value.bytes (List.toArray [_]) _) (Value.int 0 _)) _ _ _); refine y_at (i := 0) rfl (Nat.le_of_ble_eq_true rfl) rfl fun tq => ?_))
| `(tactic| walk_at "w") => `(tactic| repeat walk_at "m")
set_option hygiene true
section
theorem enter_k {w : World} {A : Around} {E : Value → Heap → Prop} {hw h : Heap} {fd : FuncData} {f : Addr} {args : List Value} {binds : List (Str × Value)} {body : List Stmt} {Q : Value → Heap → Prop} {n : Nat} (D : Wo w hw h) (r : Rm A (n + 1))
    (hK : (KF w.params).lookup f = some { cls := .type "function", data := .func fd }) (hcd : codeIn (KF w.params) fd.code fd.qualname = true)
    (hbind : ∀ s : Shared, s.heap = h → BindsTo s fd ⟨args, []⟩ binds) (hbody : fd.body = .stmts body) (m₀ : Loc) (hm : binds.reverse = m₀)
    (k : ∀ L A' h₁, Rm A' n → (∀ {h' m' l'}, St w hw h L h' m' l' → Step h [] h' l') → St w hw h L h₁ m₀ [] →
      Wp (MM w) A' (execs body (callEnv fd L f)) (fun fl h' => Q (flv fl) h') (fun _ _ => False) h₁)
    (hloc : ∀ x ∈ binds, fd.scope.names.lookup x.1 = some .local) (hcell : ∀ x ∈ fd.scope.names, x.2 ≠ .cell)
    (hco : fd.scope.isCoroutine = false) (hgen : fd.scope.isGenerator = false) (hk : fd.scope.kind = .function) : Wp (MM w) A (call (.ref f) args []) Q E h :=
  enter_ret D [] (fun _ h => nomatch h) .nil hK hcd r.dep hbind hbody (fun h₁ S => k h.objs.size _ h₁ (r.deeper (env := callEnv fd h.objs.size f)) (fun S => St.step (l := []) S) (hm ▸ S)) hloc hcell hco hgen hk
noncomputable def digB (x : UInt8) : Bool := (#[48, 49, 50, 51, 52, 53, 54, 55, 56, 57] : Array UInt8).contains x
noncomputable def dig (l : List UInt8) (i : Nat) : Bool := match l[i]? with | some x => digB x | none => false
theorem byte_lt (x : UInt8) : (0 : Int) ≤ (x.toNat : Int) ∧ (x.toNat : Int) < 256 := ⟨by lia, by have := x.toNat_lt; lia⟩
theorem byte_back (x : UInt8) : (Int.toNat (x.toNat : Int)).toUInt8 = x := by simp

theorem c_is_digit {w : World} {hw h : Heap} {A : Around} {Q : Value → Heap → Prop} {E : Value → Heap → Prop} {l : List UInt8} {i : Nat} {k : Int} {t u : Tok}
    (D : Wo w hw h) (r : Rm A 1) (hz : l.length ≤ 16777216) (hk : k = i) (q : ∀ h', h.StaysIn h' → Q (.bool (dig l i)) h') :
    Wp (MM w) A (call (.ref 54) [.bytes l.toArray t, .int k u] []) Q E h := by
  subst hk
  refine enter_k (n := 0) (body := bodyOf (stAt 9)) (binds := [("octets", .bytes l.toArray t), ("at", .int i u)]) D r (kf54 _) (kc54 _) (fun s hs => BindsTo.of_eq (by rfl)) rfl [("at", .int i u), ("octets", .bytes l.toArray t)] rfl (fun L A' h₁ r0 fin S => ?_) (locs rfl) (by decide +kernel) rfl rfl rfl
  refine st_Return ?_
  walk_at "w"
  refine y_len (by simp; lia) fun _ => ?_
  walk_at "w"
  refine ⟨fun hlt => ?_, fun hlt => ?_⟩ <;> walk_at "w"
  · have hi : i < l.length := by simpa using hlt
    have hx : l[i]? = some l[i] := List.getElem?_eq_getElem hi
    refine y_at hx hz rfl fun _ => ?_
    walk_at "w"
    refine y_in (byte_lt _).1 (byte_lt _).2 ?_
    rw [byte_back]
    have e : dig l i = digB l[i] := by unfold dig; rw [hx]
    have q' := q _ S.stay
    rw [e] at q'
    exact q'
  · have hi : ¬ i < l.length := by simpa using hlt
    have e : dig l i = decide ((i : Int) < (l.toArray.size : Int)) := by
      unfold dig
      rw [List.getElem?_eq_none (by lia)]
      simpa using hlt.symm
    exact e ▸ q _ S.stay

theorem digB_lo {x : UInt8} (h : digB x = true) : 48 ≤ x.toNat ∧ x.toNat ≤ 57 := by
  have key : ∀ n : Fin 256, digB (UInt8.ofNat n.val) = true → 48 ≤ n.val ∧ n.val ≤ 57 := by decide +kernel
  have := key ⟨x.toNat, x.toNat_lt⟩
  simp only [UInt8.ofNat_toNat] at this
  exact this h
theorem dig_cast {n : Nat} {z : Int} {c : UInt8} (hz : (n : Int) = z) (h : digB c = true) : ((n + c.toNat - 48 : Nat) : Int) = z + (c.toNat : Int) - 48 := by
  have h := (digB_lo h).1
  subst hz
  rw [Int.ofNat_sub (Nat.le_trans h (Nat.le_add_left _ _)), Int.natCast_add]
  rfl
theorem dig_at {l : List UInt8} {i : Nat} (h : dig l i = true) : ∃ x, l[i]? = some x ∧ digB x = true := by
  unfold dig at h
  split at h
  · rename_i x hx; exact ⟨x, hx, h⟩
  · cases h

/- the figures from a place on, and the number they say -/
noncomputable def digs (l : List UInt8) (i : Nat) : List UInt8 := (l.drop i).takeWhile digB
noncomputable def vals (ds : List UInt8) (acc : Nat) : Nat := ds.foldl (fun a c => a * 10 + c.toNat - 48) acc
theorem digs_step {l : List UInt8} {i : Nat} {x : UInt8} (hx : l[i]? = some x) (hd : digB x = true) : digs l i = x :: digs l (i + 1) := by
  have hi : i < l.length := (List.getElem?_eq_some_iff.mp hx).1
  have e : l[i] = x := by have := List.getElem?_eq_getElem hi; rw [hx] at this; exact (Option.some.inj this).symm
  unfold digs
  rw [List.drop_eq_getElem_cons hi, List.takeWhile_cons, e, hd, if_pos rfl]
theorem digs_end {l : List UInt8} {i : Nat} (hd : dig l i = false) : digs l i = [] := by
  unfold digs
  by_cases hi : i < l.length
  · rw [List.drop_eq_getElem_cons hi, List.takeWhile_cons]
    have : digB l[i] = false := by unfold dig at hd; rw [List.getElem?_eq_getElem hi] at hd; exact hd
    rw [this, if_neg Bool.false_ne_true]
  · rw [List.drop_of_length_le (by lia)]; rfl

theorem c_number {w : World} {hw h : Heap} {A : Around} {Q : Value → Heap → Prop} {E : Value → Heap → Prop} {l : List UInt8} {i : Nat} {k : Int} {t u : Tok}
    (D : Wo w hw h) (r : Rm A 2) (hz : l.length ≤ 16777216) (hk : k = i)
    (q : ∀ h' a o t₁ t₂, Step h [] h' [(a, o)] → OTup o [.int (vals (digs l i) 0 : Nat) t₁, .int (i + (digs l i).length : Nat) t₂] → Q (.ref a) h') :
    Wp (MM w) A (call (.ref 61) [.bytes l.toArray t, .int k u] []) Q E h := by
  subst hk
  refine enter_k (n := 1) (body := bodyOf (stAt 10)) (binds := [("octets", .bytes l.toArray t), ("at", .int i u)]) D r (kf61 _) (kc61 _) (fun s hs => BindsTo.of_eq (by rfl)) rfl [("at", .int i u), ("octets", .bytes l.toArray t)] rfl (fun L A' h₁ r1 fin S => ?_) (locs rfl) (by decide +kernel) rfl rfl rfl
  refine st_Assign ?_
  walk_at "w"
  rename St _ _ _ _ _ _ _ => S'
  refine st_While (I := fun (x : Nat × Nat) h' => (∃ tj tf, St w hw h L h' [("at", .int x.2 tj), ("octets", .bytes l.toArray t), ("found", .int x.1 tf)] []) ∧ vals (digs l x.2) x.1 = vals (digs l i) 0 ∧ x.2 + (digs l x.2).length = i + (digs l i).length)
    (μ := fun x => l.length - x.2) (x₀ := (0, i)) ⟨⟨_, _, S'⟩, rfl, rfl⟩ ?_
  rintro ⟨f, j⟩ J hJ h₂ ⟨⟨tj, tf, S₂⟩, hn, hm⟩
  dsimp only at S₂ hn hm ⊢
  walk_at "w"
  refine c_is_digit S₂.wd r1 hz rfl fun h₃ k₃ => ?_
  have S₃ := S₂.grow k₃
  walk_at "w"
  refine ⟨fun hd => ?_, fun hd => ?_⟩ <;> walk_at "w"
  · obtain ⟨x, hx, hdx⟩ := dig_at hd
    refine y_at hx hz rfl fun _ => ?_
    walk_at "w"
    rename St _ _ _ _ _ _ _ => S₅
    have hj : j < l.length := (List.getElem?_eq_some_iff.mp hx).1
    rw [digs_step hx hdx] at hn hm
    refine hJ (f * 10 + x.toNat - 48, j + 1) _ (Nat.sub_succ_lt_self l.length j hj) ⟨?_, hn, by rw [List.length_cons] at hm; dsimp only; lia⟩
    have e1 : ((f * 10 + x.toNat - 48 : Nat) : Int) = (f : Int) * 10 + (x.toNat : Int) - 48 := dig_cast (n := f * 10) (z := (f : Int) * 10) (Int.natCast_mul f 10) hdx
    dsimp only
    rw [e1]
    exact ⟨_, _, S₅⟩
  · rw [digs_end hd] at hn hm
    refine s_tuple S₃ (Nat.le_of_ble_eq_true rfl) fun a o h' ho S' => ?_
    refine q h' a o tf tj (fin S') ?_
    rw [← hn, ← hm]
    exact ho

end
section
theorem cut1 (l : List UInt8) (j : Nat) : cut l j (j + 1) = (match l[j]? with | some x => [x] | none => []) := by
  unfold cut
  rw [Nat.add_sub_cancel_left]
  by_cases hj : j < l.length
  · rw [List.drop_eq_getElem_cons hj, List.getElem?_eq_getElem hj]; rfl
  · rw [List.drop_of_length_le (by lia), List.getElem?_eq_none (by lia)]; rfl
noncomputable def starB (x : UInt8) : Bool := x == 42 || x == 47
noncomputable def stars (l : List UInt8) (i : Nat) : List UInt8 := (l.drop i).takeWhile starB
theorem stars_step {l : List UInt8} {i : Nat} {x : UInt8} (hx : l[i]? = some x) (hd : starB x = true) : stars l i = x :: stars l (i + 1) := by
  have hi : i < l.length := (List.getElem?_eq_some_iff.mp hx).1
  have e : l[i] = x := by have := List.getElem?_eq_getElem hi; rw [hx] at this; exact (Option.some.inj this).symm
  unfold stars
  rw [List.drop_eq_getElem_cons hi, List.takeWhile_cons, e, hd, if_pos rfl]
theorem stars_end {l : List UInt8} {i : Nat} (hd : ([[42], [47]] : List (List UInt8)).any (· == cut l i (i + 1)) = false) : stars l i = [] := by
  unfold stars
  rw [cut1] at hd
  by_cases hi : i < l.length
  · rw [List.drop_eq_getElem_cons hi, List.takeWhile_cons]
    rw [List.getElem?_eq_getElem hi] at hd
    have : starB l[i] = false := by
      unfold starB
      simp at hd
      simp [Ne.symm hd.1, Ne.symm hd.2]
    rw [this, if_neg Bool.false_ne_true]
  · rw [List.drop_of_length_le (by lia)]; rfl
theorem star_at {l : List UInt8} {i : Nat} (hd : ([[42], [47]] : List (List UInt8)).any (· == cut l i (i + 1)) = true) : ∃ x, l[i]? = some x ∧ starB x = true ∧ cut l i (i + 1) = [x] := by
  rw [cut1] at hd ⊢
  cases hx : l[i]? with
  | none => rw [hx] at hd; simp at hd
  | some x =>
    rw [hx] at hd
    refine ⟨x, rfl, ?_, rfl⟩
    unfold starB
    simp at hd
    rcases hd with hd | hd <;> simp [← hd]

noncomputable def dP (l : List UInt8) (i : Nat) : Nat := i + 2 + (digs l (i + 2)).length
noncomputable def dN (l : List UInt8) (i : Nat) : Nat := vals (digs l (i + 2)) 0 * 10
noncomputable def dTp (l : List UInt8) (i : Nat) : Nat × Nat := if cut l (dP l i) (dP l i + 1) = [46] ∧ dig l (dP l i + 1) = true then (dN l i + (l.getD (dP l i + 1) 0).toNat - 48, dP l i + 2) else (dN l i, dP l i)
noncomputable def dEnd (l : List UInt8) (i : Nat) : Nat := (dTp l i).2 + (stars l (dTp l i).2).length
noncomputable def dAt (l : List UInt8) (i : Nat) : Option (Nat × Bool × Bool × Nat) :=
  if cut l i (i + 2) = [36, 60] ∧ dig l (i + 2) = true then
    if cut l (dEnd l i) (dEnd l i + 1) = [62] then some ((dTp l i).1, (stars l (dTp l i).2).contains 42, (stars l (dTp l i).2).contains 47, dEnd l i + 1) else none
  else none

theorem c_delay_at {w : World} {hw h : Heap} {A : Around} {Q : Value → Heap → Prop} {E : Value → Heap → Prop} {l : List UInt8} {i : Nat} {k : Int} {t u : Tok}
    (D : Wo w hw h) (r : Rm A 3) (hz : l.length ≤ 16777216) (hk : k = i)
    (q0 : ∀ h', h.StaysIn h' → dAt l i = none → Q .none h')
    (q1 : ∀ h' a o t₁ t₂ n e kp p, Step h [] h' [(a, o)] → dAt l i = some (n, e, kp, p) → OTup o [.int (n : Nat) t₁, .bool e, .bool kp, .int (p : Nat) t₂] → Q (.ref a) h') :
    Wp (MM w) A (call (.ref 171) [.bytes l.toArray t, .int k u] []) Q E h := by
  subst hk
  refine enter_k (n := 2) (body := bodyOf (stAt 15)) (binds := [("octets", .bytes l.toArray t), ("at", .int i u)]) D r (kf171 _) (kc171 _) (fun s hs => BindsTo.of_eq (by rfl)) rfl [("at", .int i u), ("octets", .bytes l.toArray t)] rfl (fun L A' h₁ r2 fin S => ?_) (locs rfl) (by decide +kernel) rfl rfl rfl
  refine st_If_cut (fun h' => cut l i (i + 2) = [36, 60] ∧ dig l (i + 2) = true ∧ St w hw h L h' [("at", .int i u), ("octets", .bytes l.toArray t)] []) ?_ ?_
  · walk_at "w"
    refine y_cut (i := i) (j := i + 2) S hz rfl rfl fun h₂ _ S₂ => ?_
    walk_at "w"
    refine ⟨fun hb => ?_, fun hb => ?_⟩
    · walk_at "w"
      refine q0 _ S₂.stay ?_
      have : cut l i (i + 2) ≠ [36, 60] := by simpa using hb
      unfold dAt
      rw [if_neg fun e => this e.1]
    · have hc : cut l i (i + 2) = [36, 60] := by simpa using hb
      walk_at "w"
      refine c_is_digit (i := i + 2) S₂.wd (r2.mono (by decide)) hz (by lia) fun h₃ k₃ => ?_
      have S₃ := S₂.grow k₃
      walk_at "w"
      refine ⟨fun hb => ?_, fun hb => ?_⟩
      · walk_at "w"
        refine q0 _ S₃.stay ?_
        have : dig l (i + 2) = false := by simpa using hb
        unfold dAt
        rw [if_neg fun e => by rw [this] at e; cases e.2]
      · have hd : dig l (i + 2) = true := by simpa using hb
        walk_at "w"
        exact ⟨hc, hd, S₃⟩
  rintro h₁ ⟨hc, hd, S⟩
  walk_at "w"
  refine c_number (i := i + 2) S.wd r2 hz (by lia) fun h₂ a₁ o₁ t₁ t₂ X₁ hO₁ => ?_
  have S₂ := S.call0 X₁
  refine u_tuple r2.hd (S₂.get (.head _)) hO₁ fun h₃ k₃ => ?_
  have S₃ := (S₂.grow k₃).nil
  walk_at "w"
  rename St _ _ _ _ _ _ _ => S₄
  have eP : (i + 2 + (digs l (i + 2)).length : Nat) = dP l i := rfl
  rw [eP] at S₄
  refine st_If_cut (fun h' => ∃ (tt tp : Tok), St w hw h L h' [("at", .int i u), ("octets", .bytes l.toArray t), ("number", .int (vals (digs l (i + 2)) 0 : Nat) t₁), ("place", .int ((dTp l i).2 : Nat) tp), ("tenths", .int ((dTp l i).1 : Nat) tt)] []) ?_ ?_
  · have eN : ((vals (digs l (i + 2)) 0 : Nat) : Int) * 10 = ((dN l i : Nat) : Int) := by unfold dN; push_cast; rfl
    rw [eN] at S₄
    walk_at "w"
    refine y_cut (i := dP l i) (j := dP l i + 1) S₄ hz rfl rfl fun h₅ _ S₅ => ?_
    walk_at "w"
    refine ⟨fun hb => ?_, fun hb => ?_⟩
    · have hc1 : cut l (dP l i) (dP l i + 1) = [46] := by simpa using hb
      walk_at "w"
      refine c_is_digit (i := dP l i + 1) S₅.wd (r2.mono (by decide)) hz (by lia) fun h₆ k₆ => ?_
      have S₆ := S₅.grow k₆
      walk_at "w"
      refine ⟨fun hd1 => ?_, fun hd1 => ?_⟩
      · obtain ⟨x, hx, hdx⟩ := dig_at hd1
        have e : dTp l i = (dN l i + x.toNat - 48, dP l i + 2) := by
          unfold dTp
          rw [if_pos ⟨hc1, hd1⟩, List.getD_eq_getElem?_getD, hx]; rfl
        walk_at "w"
        refine y_at hx hz (by lia) fun _ => ?_
        walk_at "w"
        rename St _ _ _ _ _ _ _ => S₇
        rw [e]
        have e1 : ((dN l i + x.toNat - 48 : Nat) : Int) = (dN l i : Int) + (x.toNat : Int) - 48 := dig_cast rfl hdx
        dsimp only
        rw [e1]
        exact ⟨_, _, S₇⟩
      · have e : dTp l i = (dN l i, dP l i) := by
          unfold dTp
          rw [if_neg fun e => by rw [e.2] at hd1; cases hd1]
        walk_at "w"
        rw [e]
        exact ⟨_, _, S₆⟩
    · have hc1 : cut l (dP l i) (dP l i + 1) ≠ [46] := by simpa using hb
      have e : dTp l i = (dN l i, dP l i) := by
        unfold dTp
        rw [if_neg fun e => hc1 e.1]
      walk_at "w"
      rw [e]
      exact ⟨_, _, S₅⟩
  rintro h₅ ⟨tt, tp, S₅⟩
  walk_at "w"
  rename St _ _ _ _ _ _ _ => S₆
  refine st_While (I := fun (x : List UInt8 × Nat) h' => (∃ tj, St w hw h L h' [("at", .int i u), ("octets", .bytes l.toArray t), ("number", .int (vals (digs l (i + 2)) 0 : Nat) t₁), ("place", .int x.2 tj), ("tenths", .int ((dTp l i).1 : Nat) tt), ("is_each", .bool (x.1.contains 42)), ("is_kept", .bool (x.1.contains 47))] []) ∧
      x.1 ++ stars l x.2 = stars l (dTp l i).2 ∧ x.2 + (stars l x.2).length = dEnd l i)
    (μ := fun x => l.length - x.2) (x₀ := ([], (dTp l i).2)) ⟨⟨tp, S₆⟩, rfl, rfl⟩ ?_
  rintro ⟨ds, j⟩ J hJ h₇ ⟨⟨tj, S₇⟩, hs, he⟩
  dsimp only at S₇ hs he ⊢
  walk_at "w"
  refine y_cut (i := j) (j := j + 1) S₇ hz rfl rfl fun h₈ _ S₈ => ?_
  walk_at "w"
  refine s_tuple S₈ (Nat.le_of_ble_eq_true rfl) fun a₂ o₂ h₉ hO₂ S₉ => ?_
  refine c_inTup (ls := [[42], [47]]) (S₉.get (.head _)) hO₂ rfl (fun k v b h1 h2 => ?_) ?_
  · match k with
    | 0 => cases h1; cases h2; exact ⟨_, rfl⟩
    | 1 => cases h1; cases h2; exact ⟨_, rfl⟩
    | k + 2 => cases h1
  have S₁₀ := S₉.nil
  walk_at "w"
  refine ⟨fun hb => ?_, fun hb => ?_⟩
  · obtain ⟨x, hx, hsx, hcx⟩ := star_at hb
    have hj : j < l.length := (List.getElem?_eq_some_iff.mp hx).1
    rw [stars_step hx hsx] at hs he
    refine st_If_cut (fun h' => St w hw h L h' [("at", .int i u), ("octets", .bytes l.toArray t), ("number", .int (vals (digs l (i + 2)) 0 : Nat) t₁), ("place", .int j tj), ("tenths", .int ((dTp l i).1 : Nat) tt), ("is_each", .bool ((ds ++ [x]).contains 42)), ("is_kept", .bool ((ds ++ [x]).contains 47))] []) ?_ ?_
    · walk_at "w"
      refine y_cut (i := j) (j := j + 1) S₁₀ hz rfl rfl fun h₁₁ _ S₁₁ => ?_
      rw [hcx]
      walk_at "w"
      refine ⟨fun hb => ?_, fun hb => ?_⟩ <;> walk_at "w" <;> rename St _ _ _ _ _ _ _ => S₁₂
      · have : x = 42 := by simpa using hb
        subst this
        have e1 : (ds ++ [42]).contains 42 = true := by simp
        have e2 : (ds ++ [(42 : UInt8)]).contains 47 = ds.contains 47 := by simp
        rw [e1, e2]
        exact S₁₂
      · have hne : x ≠ 42 := by simpa using hb
        have : x = 47 := by unfold starB at hsx; simpa [hne] using hsx
        subst this
        have e1 : (ds ++ [(47 : UInt8)]).contains 42 = ds.contains 42 := by simp
        have e2 : (ds ++ [(47 : UInt8)]).contains 47 = true := by simp
        rw [e1, e2]
        exact S₁₂
    · intro h₁₁ S₁₁
      walk_at "w"
      rename St _ _ _ _ _ _ _ => S₁₂
      exact hJ (ds ++ [x], j + 1) _ (Nat.sub_succ_lt_self l.length j hj) ⟨⟨_, S₁₂⟩, by rw [← hs]; simp, by rw [List.length_cons] at he; dsimp only; lia⟩
  · rw [stars_end hb] at hs he
    have hs : ds = stars l (dTp l i).2 := by simpa using hs
    have he : j = dEnd l i := by simpa using he
    subst hs he
    walk_at "w"
    refine st_If_cut (fun h' => cut l (dEnd l i) (dEnd l i + 1) = [62] ∧ St w hw h L h' [("at", .int i u), ("octets", .bytes l.toArray t), ("number", .int (vals (digs l (i + 2)) 0 : Nat) t₁), ("place", .int (dEnd l i) tj), ("tenths", .int ((dTp l i).1 : Nat) tt), ("is_each", .bool ((stars l (dTp l i).2).contains 42)), ("is_kept", .bool ((stars l (dTp l i).2).contains 47))] []) ?_ ?_
    · walk_at "w"
      refine y_cut (i := dEnd l i) (j := dEnd l i + 1) S₁₀ hz rfl rfl fun h₁₁ _ S₁₁ => ?_
      walk_at "w"
      refine ⟨fun hb => ?_, fun hb => ?_⟩
      · have : cut l (dEnd l i) (dEnd l i + 1) ≠ [62] := by simpa using hb
        walk_at "w"
        refine q0 _ S₁₁.stay ?_
        unfold dAt
        rw [if_pos ⟨hc, hd⟩, if_neg this]
      · have : cut l (dEnd l i) (dEnd l i + 1) = [62] := by simpa using hb
        walk_at "w"
        exact ⟨this, S₁₁⟩
    · rintro h₁₁ ⟨hcc, S₁₁⟩
      walk_at "w"
      refine s_tuple S₁₁ (Nat.le_of_ble_eq_true rfl) fun a₂ o₂ h₁₂ hO₂ S₁₂ => ?_
      refine q1 _ a₂ o₂ _ _ (dTp l i).1 _ _ (dEnd l i + 1) (fin S₁₂) ?_ hO₂
      unfold dAt
      rw [if_pos ⟨hc, hd⟩, if_pos hcc]

end
section
noncomputable abbrev Row4 := Nat × Nat × Bool × Bool
noncomputable def RowIs (p : Addr × Obj) (r : Row4) : Prop := ∃ t₁ t₂, OTup p.2 [.int (r.1 : Nat) t₁, .int (r.2.1 : Nat) t₂, .bool r.2.2.1, .bool r.2.2.2]
/- objects and what they are, pair by pair -/
inductive Each {α : Type} (P : Addr × Obj → α → Prop) : Led → List α → Prop where
  | nil : Each P [] []
  | cons {p a l r} : P p a → Each P l r → Each P (p :: l) (a :: r)
theorem Each.len {α : Type} {P : Addr × Obj → α → Prop} {l : Led} {r : List α} (x : Each P l r) : l.length = r.length := by
  induction x with
  | nil => rfl
  | cons _ _ ih => simp [ih]
theorem Each.snoc {α : Type} {P : Addr × Obj → α → Prop} {l : Led} {r : List α} {p : Addr × Obj} {a : α} (x : Each P l r) (y : P p a) : Each P (l ++ [p]) (r ++ [a]) := by
  induction x with
  | nil => exact .cons y .nil
  | cons z _ ih => exact .cons z ih
noncomputable def refs (l : Led) : List Value := l.map fun p => .ref p.1
theorem refs_snoc (l : Led) (p : Addr × Obj) : refs (l ++ [p]) = refs l ++ [.ref p.1] := by simp [refs]

noncomputable def dGo (l : List UInt8) : Nat → Nat → List UInt8 → List Row4 → List UInt8 × List Row4
  | 0, _, f, rs => (f, rs)
  | n + 1, i, f, rs => if i < l.length then (match dAt l i with
      | none => dGo l n (i + 1) (f ++ [l.getD i 0]) rs
      | some (t, e, k, p) => dGo l n p f (rs ++ [(f.length, t, e, k)])) else (f, rs)
noncomputable def dOf (l : List UInt8) : List UInt8 × List Row4 := dGo l l.length 0 [] []
theorem dAt_bound {l : List UInt8} {i t e k p} (h : dAt l i = some (t, e, k, p)) : i < p ∧ p ≤ l.length := by
  unfold dAt at h
  split at h
  · split at h
    · rename_i hc
      cases h
      refine ⟨?_, ?_⟩
      · have : dP l i ≤ dEnd l i := by
          unfold dEnd dTp
          split <;> dsimp only <;> lia
        unfold dP at this
        lia
      · rw [cut1] at hc
        cases hx : l[dEnd l i]? with
        | none => rw [hx] at hc; cases hc
        | some x => exact (List.getElem?_eq_some_iff.mp hx).1
    · cases h
  · cases h
theorem dGo_two {l : List UInt8} (n : Nat) : ∀ (m i : Nat) (f : List UInt8) (rs : List Row4), l.length - i ≤ n → l.length - i ≤ m → dGo l n i f rs = dGo l m i f rs := by
  induction n with
  | zero =>
    intro m i f rs h h'
    cases m with
    | zero => rfl
    | succ m => rw [dGo, dGo, if_neg (Nat.not_lt.mpr (Nat.le_of_sub_eq_zero (Nat.le_zero.mp h)))]
  | succ n ih =>
    intro m i f rs h h'
    cases m with
    | zero => rw [dGo, dGo, if_neg (Nat.not_lt.mpr (Nat.le_of_sub_eq_zero (Nat.le_zero.mp h')))]
    | succ m =>
      rw [dGo, dGo]
      by_cases hi : i < l.length
      · rw [if_pos hi, if_pos hi]
        cases hd : dAt l i with
        | none => exact ih m (i + 1) _ _ (Nat.pred_le_pred h) (Nat.pred_le_pred h')
        | some x =>
          have hb := dAt_bound (l := l) (i := i) (t := x.1) (e := x.2.1) (k := x.2.2.1) (p := x.2.2.2) hd
          have hs := Nat.sub_le_sub_left (k := l.length) hb.1
          exact ih m _ _ _ (Nat.le_trans hs (Nat.pred_le_pred h)) (Nat.le_trans hs (Nat.pred_le_pred h'))
      · rw [if_neg hi, if_neg hi]
theorem dGo_fuel {l : List UInt8} (n i : Nat) (f : List UInt8) (rs : List Row4) (h : l.length - i ≤ n) : dGo l n i f rs = dGo l (l.length - i) i f rs := dGo_two n _ i f rs h (Nat.le_refl _)
theorem dGo_none {l : List UInt8} {i : Nat} {f : List UInt8} {rs : List Row4} {x : UInt8} (hx : l[i]? = some x) (h : dAt l i = none) : dGo l (l.length - i) i f rs = dGo l (l.length - (i + 1)) (i + 1) (f ++ [x]) rs := by
  have hi := (List.getElem?_eq_some_iff.mp hx).1
  obtain ⟨m, hm⟩ := Nat.exists_eq_succ_of_ne_zero (Nat.sub_ne_zero_of_lt hi)
  rw [hm, dGo, if_pos hi, h]
  dsimp only
  rw [dGo_fuel m (i + 1) _ _ (Nat.le_of_eq (congrArg Nat.pred hm)), List.getD_eq_getElem?_getD, hx]; rfl
theorem dGo_some {l : List UInt8} {i : Nat} {f : List UInt8} {rs : List Row4} {t e k p} (h : dAt l i = some (t, e, k, p)) : dGo l (l.length - i) i f rs = dGo l (l.length - p) p f (rs ++ [(f.length, t, e, k)]) := by
  have hb := dAt_bound h
  have hi : i < l.length := Nat.lt_of_lt_of_le hb.1 hb.2
  obtain ⟨m, hm⟩ := Nat.exists_eq_succ_of_ne_zero (Nat.sub_ne_zero_of_lt hi)
  rw [hm, dGo, if_pos hi, h]
  dsimp only
  rw [dGo_fuel m p _ _ (Nat.le_trans (Nat.sub_le_sub_left hb.1 _) (Nat.le_of_eq (congrArg Nat.pred hm)))]
theorem dGo_end {l : List UInt8} {i : Nat} {f : List UInt8} {rs : List Row4} (h : ¬ i < l.length) : dGo l (l.length - i) i f rs = (f, rs) := by
  rw [Nat.sub_eq_zero_of_le (Nat.le_of_not_lt h)]; rfl

theorem c_delays_of {w : World} {hw h : Heap} {A : Around} {Q : Value → Heap → Prop} {E : Value → Heap → Prop} {l : List UInt8} {t : Tok}
    (D : Wo w hw h) (r : Rm A 4) (hz : l.length ≤ 1048576)
    (q : ∀ h' a o da od tl t₁, Step h [] h' ((a, o) :: (da, od) :: tl) → OTup o [.bytes (dOf l).1.toArray t₁, .ref da] → OLst od (refs tl) → Each RowIs tl (dOf l).2 → Q (.ref a) h') :
    Wp (MM w) A (call (.ref 178) [.bytes l.toArray t] []) Q E h := by
  refine enter_k (n := 3) (body := bodyOf (stAt 16)) (binds := [("octets", .bytes l.toArray t)]) D r (kf178 _) (kc178 _) (fun s hs => BindsTo.of_eq (by rfl)) rfl [("octets", .bytes l.toArray t)] rfl (fun L A' h₁ r3 fin S => ?_) (locs rfl) (by decide +kernel) rfl rfl rfl
  refine st_Assign ?_
  walk_at "w"
  refine ba_new r3.gd S fun fa h₂ S₂ => ?_
  walk_at "w"
  rename St _ _ _ _ _ _ _ => S₃
  refine s_list S₃ (Nat.le_of_ble_eq_true rfl) fun da od h₄ hod S₄ => ?_
  walk_at "w"
  rename St _ _ _ _ _ _ _ => S₅
  refine st_While (I := fun (x : List UInt8 × List Row4 × Nat) h' => (∃ tj od tl ex, St w hw h L h' (([("octets", .bytes l.toArray t), ("found", .ref fa), ("delays", .ref da), ("at", .int x.2.2 tj)] : Loc) ++ ex) ((da, od) :: (fa, baObj x.1) :: tl) ∧ (ex = [] ∨ ∃ v, ex = ([("delay", v)] : Loc)) ∧ OLst od (refs tl) ∧ Each RowIs tl x.2.1) ∧
      dGo l (l.length - x.2.2) x.2.2 x.1 x.2.1 = dOf l ∧ x.1.length ≤ x.2.2 ∧ x.2.1.length ≤ x.2.2 ∧ x.2.2 ≤ l.length)
    (μ := fun x => l.length - x.2.2) (x₀ := ([], [], 0)) ⟨⟨_, od, [], [], S₅, .inl rfl, hod, .nil⟩, rfl, Nat.le_refl _, Nat.le_refl _, Nat.zero_le _⟩ ?_
  rintro ⟨f, rs, j⟩ J hJ h₆ ⟨⟨tj, od, tl, ex, S₆, hex, hod, hrs⟩, hg, hf, hr, hj⟩
  dsimp only at S₆ hrs hg hf hr hj ⊢
  have hput : ∀ v, put "delay" v (([("octets", .bytes l.toArray t), ("found", .ref fa), ("delays", .ref da), ("at", .int j tj)] : Loc) ++ ex) = ([("octets", .bytes l.toArray t), ("found", .ref fa), ("delays", .ref da), ("at", .int j tj)] : Loc) ++ ([("delay", v)] : Loc) := fun v => put_opt (by kernel_rfl) hex
  walk_at "w"
  refine y_len (by simp; lia) fun _ => ?_
  walk_at "w"
  refine ⟨fun hlt => ?_, fun hlt => ?_⟩
  · have hlt : j < l.length := by simpa using hlt
    have hx := List.getElem?_eq_getElem hlt
    walk_at "w"
    refine c_delay_at S₆.wd r3 (by lia) rfl (fun h₇ k₇ hd => ?_) fun h₇ a₇ o₇ t₁ t₂ n e kp p X₇ hd hO₇ => ?_
    · have S₇ := S₆.grow k₇
      walk_at "w"
      rename St _ _ _ _ _ _ _ => S₈
      rw [hput] at S₈
      refine st_If ?_
      walk_at "w"
      refine ba_meth (S₈.get (.tail _ (.head _))) ?_
      walk_at "w"
      refine y_at hx (by lia) rfl fun _ => ?_
      walk_at "w"
      refine ba_append r3.gd S₈ (.tail _ (.head _)) (by lia) fun h₉ u₉ => ?_
      have S₉ := u₉ _ (.tail .head)
      walk_at "w"
      rename St _ _ _ _ _ _ _ => S₁₀
      refine hJ (f ++ [l[j]], rs, j + 1) _ (Nat.sub_succ_lt_self l.length j hlt) ⟨⟨_, od, tl, [("delay", .none)], S₁₀, .inr ⟨_, rfl⟩, hod, hrs⟩, ?_, by simp; lia, by dsimp only; lia, by dsimp only; lia⟩
      dsimp only
      rw [← dGo_none hx hd]; exact hg
    · have S₇ := S₆.call0 X₇
      walk_at "w"
      rename St _ _ _ _ _ _ _ => S₈
      rw [hput] at S₈
      refine st_If ?_
      walk_at "w"
      have S₈ : St w hw h L _ _ ((a₇, o₇) :: (da, od) :: (fa, baObj f) :: tl) := S₈
      have g₇ := S₈.get (.head _)
      refine s_mappend hod (S₈.get (.tail _ (.head _))) ?_
      walk_at "w"
      refine ba_len (S₈.get (.tail _ (.tail _ (.head _)))) (by lia) fun _ => ?_
      walk_at "w"
      refine s_titem (k := 0) hO₇ g₇ rfl (Nat.le_of_ble_eq_true rfl) ?_
      walk_at "w"
      refine s_titem (k := 1) hO₇ g₇ rfl (Nat.le_of_ble_eq_true rfl) ?_
      walk_at "w"
      refine s_titem (k := 2) hO₇ g₇ rfl (Nat.le_of_ble_eq_true rfl) ?_
      walk_at "w"
      refine s_tuple S₈ (Nat.le_of_ble_eq_true rfl) fun a₉ o₉ h₉ hO₉ S₉ => ?_
      walk_at "w"
      refine s_append S₉ hod (.tail _ (.tail _ (.head _))) (by rw [refs, List.length_map, hrs.len]; lia) fun od' h₁₀ hod' u₁₀ => ?_
      have S₁₀ := u₁₀ _ (.tail (.tail .head))
      walk_at "w"
      refine s_titem (k := 3) hO₇ (S₁₀.get (.tail _ (.head _))) rfl (Nat.le_of_ble_eq_true rfl) ?_
      walk_at "w"
      rename St _ _ _ _ _ _ _ => S₁₁
      have hb := dAt_bound hd
      refine hJ (f, rs ++ [(f.length, n, e, kp)], p) _ (Nat.sub_lt_sub_left hlt hb.1) ⟨⟨_, od', tl ++ [(a₉, o₉)], [("delay", .ref a₇)], S₁₁.perm ?_ |>.sub (List.sublist_cons_self (a₇, o₇) _), .inr ⟨_, rfl⟩, by rw [refs_snoc]; exact hod', hrs.snoc ⟨_, _, hO₉⟩⟩, ?_, by dsimp only; lia, by simp; lia, by dsimp only; lia⟩
      · exact (List.perm_append_singleton (a₉, o₉) ((a₇, o₇) :: (da, od') :: (fa, baObj f) :: tl)).symm
      · dsimp only
        rw [← dGo_some hd]; exact hg
  · have hlt : ¬ j < l.length := by simpa using hlt
    rw [dGo_end hlt] at hg
    walk_at "w"
    refine ba_bytes (S₆.get (.tail _ (.head _))) (by lia) fun _ => ?_
    walk_at "w"
    refine s_tuple S₆ (Nat.le_of_ble_eq_true rfl) fun a₇ o₇ h₇ hO₇ S₇ => ?_
    have X := (fin S₇).sub (l'' := (a₇, o₇) :: (da, od) :: tl) (.cons_cons _ (.cons_cons _ (List.sublist_cons_self _ _)))
    rw [← hg] at q
    exact q _ a₇ o₇ da od tl _ X hO₇ hod hrs

end
section
theorem kd22 (P : Params) : (KF P).lookup 22 = some { cls := .type "tuple", data := .seq #[.none] } := by kernel_rfl
theorem kd186 (P : Params) : (KF P).lookup 186 = some { cls := .type "tuple", data := .seq #[.int 1 432] } := by kernel_rfl
theorem kd202 (P : Params) : (KF P).lookup 202 = some { cls := .type "tuple", data := .seq #[.ref 201] } := by kernel_rfl
theorem c_init29 {w : World} {hw h : Heap} {A : Around} {Q : Value → Heap → Prop} {E : Value → Heap → Prop} {x tp : Addr} {v : Value}
    (D : Wo w hw h) (r : Rm A 1) (hx : h.get? x = some (excObj tp none .none)) (hf : hw.get? x = none)
    (q : ∀ dx od h', IObj od [("told", v)] → Step h [(x, excObj tp none .none)] h' [(dx, od), (x, excObj tp (some dx) .none)] → Q .none h') :
    Wp (MM w) A (call (.ref 29) [.ref x, v] []) Q E h := by
  refine enter_ret (body := bodyOf (mAt 1 0)) (binds := [("self", .ref x), ("told", v)]) D [(x, excObj tp none .none)] (fun p hp => by obtain rfl := List.mem_singleton.mp hp; exact ⟨hx, hf⟩) (by simp) (kf29 _) (kc29 _) r.dep (fun s hs => BindsTo.of_defaults rfl (hs ▸ D.K _ _ (kd22 _)) rfl rfl rfl) rfl (fun h₁ S => ?_) (locs rfl) (by decide +kernel) rfl rfl rfl
  have S : St w hw (hideAll h (adr [(x, excObj tp none .none)])) h.objs.size h₁ [("told", v), ("self", .ref x)] [(x, excObj tp none .none)] := S
  refine st_AssignAttr ?_
  walk_at "w"
  refine x_set S fun dx od h' hI S' => ?_
  walk_at "w"
  exact q _ _ _ hI S'.step

theorem c_refuse {w : World} {H h : Heap} {W : List Addr} {A : Around} {Q : Value → Heap → Prop} {E : Value → Heap → Prop} {P : Int → Prop} {self : Value} {k : Int} {t : Tok}
    (D : Wo w H h) (r : Rm A 3) (z : Rz H W A h) (hk : P k) (hE : ∀ e h', Fly H W A P e h' → E e h') :
    Wp (MM w) A (call (.ref 82) [self, .int k t] []) Q E h := by
  refine Wp_call (enter (body := bodyOf (mAt 11 1)) (binds := [("self", self), ("begin", .int k t)]) D [] (fun _ h => nomatch h) .nil (kf82 _) (kc82 _) r.dep (fun s hs => BindsTo.of_eq (by rfl)) rfl (fun h₁ S => ?_) (locs rfl) (by decide +kernel) rfl rfl rfl)
  have S : St w H h h.objs.size h₁ [("begin", .int k t), ("self", self)] [] := S
  have r2 := (r : Rm A (2 + 1)).deeper (env := callEnv fd82 h.objs.size 82)
  obtain ⟨l, hf⟩ := z.frames
  refine Wp_mono (E := fun e h' => ∃ x tp dx od, e = .ref x ∧ IObj od [("told", .int k t)] ∧ St w H h h.objs.size h' [("begin", .int k t), ("self", self)] [(dx, od), (x, excObj tp (some dx) .none)]) (Q := fun _ _ => False) ?_ (fun _ _ x => x.elim) fun e h' x => ?_
  · refine st_Raise r2.hd ?_
    walk_at "w"
    refine x_new S fun x tp h₂ S₂ => ?_
    refine c_init29 S₂.wd (Rm.make (n := 1) r2) (S₂.get (.head _)) (S₂.own S₂.D _ (.head _)).2 fun dx od h₃ hI X => ⟨rfl, ?_⟩
    have S₃ := St.call (k := []) S₂ X
    exact ⟨x, _, _, rfl, S₃.get (.tail _ (.head _)), rfl, rfl, rfl, S₃.wd.K, x, tp, dx, od, rfl, hI, S₃⟩
  · refine gh fun CC kk => ?_
    obtain ⟨x, tp, dx, od, rfl, hI, S⟩ := x
    refine kk ?_
    clear kk CC
    have z' := Rz.here (fd := fd82) (a := 82) z S rfl
    refine gh fun CC kk => ?_
    obtain ⟨l', hf', hr'⟩ := z'.fr
    refine kk ?_
    clear kk CC
    rw [Around.frames_deeper hf] at hf'
    cases hf'
    refine Wp_of fun g d tk os => ?_
    unfold leaving
    refine wpAny_bind (fl_first (H := H) (W := W) (Around.frames_deeper hf) rfl (fun b o e => S.wd.2 b o (of_hideAll _ e)) (fun b hb o ho => ⟨o.slots, S.wd.2 b o ho⟩) z.nf hr' (S.get (.tail _ (.head _))) rfl rfl rfl rfl (S.get (.head _)) hI ?_ fun h' x1 => fl_set (f := none) x1 fun h'' x2 => ⟨⟨rfl, rfl, rfl⟩, hE _ _ ⟨l, x, k, hf, rfl, hk, x2.drop⟩⟩)
    have := (S.own S.D _ (.tail _ (.head _))).2
    cases hq : (hideAll H W).get? x with
    | none => rfl
    | some o => rw [of_hideAll _ hq] at this; cases this

theorem c_without {w : World} {hw h : Heap} {A : Around} {Q : Value → Heap → Prop} {E : Value → Heap → Prop} {l : List UInt8} {t : Tok}
    (D : Wo w hw h) (r : Rm A 5) (hz : l.length ≤ 1048576) (q : ∀ h' t₁, h.StaysIn h' → Q (.bytes (dOf l).1.toArray t₁) h') : Wp (MM w) A (call (.ref 185) [.bytes l.toArray t] []) Q E h := by
  refine enter_k (n := 4) (body := bodyOf (stAt 17)) (binds := [("octets", .bytes l.toArray t)]) D r (kf185 _) (kc185 _) (fun s hs => BindsTo.of_eq (by rfl)) rfl [("octets", .bytes l.toArray t)] rfl (fun L A' h₁ r3 fin S => ?_) (locs rfl) (by decide +kernel) rfl rfl rfl
  refine st_Return ?_
  walk_at "w"
  refine c_delays_of S.wd r3 hz fun h₂ a o da od tl t₁ X hO hod hrs => ?_
  have S₂ := S.call0 X
  walk_at "w"
  refine s_titem (k := 0) hO (S₂.get (.head _)) rfl (Nat.le_of_ble_eq_true rfl) ?_
  exact q _ _ S₂.stay

noncomputable def totOf (n : Nat) : List Row4 → Nat
  | [] => 0
  | r :: rs => (if r.2.2.1 then r.2.1 * n else r.2.1) + totOf n rs
theorem put4 {x₁ x₂ x₃ x₄ : Str} {v₁ v₂ v₃ v₄ : Value} {b ex : Loc} (h1 : (b.all fun p => decide (p.1 ≠ x₁)) = true) (h2 : ((b ++ [(x₁, v₁)]).all fun p => decide (p.1 ≠ x₂)) = true) (h3 : ((b ++ [(x₁, v₁), (x₂, v₂)]).all fun p => decide (p.1 ≠ x₃)) = true) (h4 : ((b ++ [(x₁, v₁), (x₂, v₂), (x₃, v₃)]).all fun p => decide (p.1 ≠ x₄)) = true)
    (h : ex = [] ∨ ∃ u₁ u₂ u₃ u₄, ex = [(x₁, u₁), (x₂, u₂), (x₃, u₃), (x₄, u₄)]) : put x₄ v₄ (put x₃ v₃ (put x₂ v₂ (put x₁ v₁ (b ++ ex)))) = b ++ [(x₁, v₁), (x₂, v₂), (x₃, v₃), (x₄, v₄)] := by
  have g : ∀ {x : Str} {v : Value} {b ex : Loc}, (b.all fun p => decide (p.1 ≠ x)) = true → put x v (b ++ ex) = b ++ put x v ex := fun {x v b ex} hb => by
    induction b with
    | nil => rfl
    | cons p b ih =>
      obtain ⟨y, u⟩ := p
      rw [List.all_cons, Bool.and_eq_true] at hb
      show (if x = y then _ else (y, u) :: put x v (b ++ ex)) = _
      rw [if_neg (fun e => (of_decide_eq_true hb.1) e.symm), ih hb.2]; rfl
  have s : ∀ (x : Str) (v u : Value) (l : Loc), put x v ((x, u) :: l) = (x, v) :: l := fun x v u l => by show (if x = x then _ else _) = _; rw [if_pos rfl]
  have n : ∀ (x : Str) (v : Value), put x v [] = [(x, v)] := fun x v => rfl
  rw [g h1]
  rcases h with rfl | ⟨u₁, u₂, u₃, u₄, rfl⟩
  · rw [n, show b ++ [(x₁, v₁)] = (b ++ [(x₁, v₁)]) ++ [] by simp, g h2, n, show (b ++ [(x₁, v₁)]) ++ [(x₂, v₂)] = (b ++ [(x₁, v₁), (x₂, v₂)]) ++ [] by simp, g h3, n,
      show (b ++ [(x₁, v₁), (x₂, v₂)]) ++ [(x₃, v₃)] = (b ++ [(x₁, v₁), (x₂, v₂), (x₃, v₃)]) ++ [] by simp, g h4, n]
    simp
  · rw [s, show b ++ (x₁, v₁) :: [(x₂, u₂), (x₃, u₃), (x₄, u₄)] = (b ++ [(x₁, v₁)]) ++ [(x₂, u₂), (x₃, u₃), (x₄, u₄)] by simp, g h2, s, show (b ++ [(x₁, v₁)]) ++ (x₂, v₂) :: [(x₃, u₃), (x₄, u₄)] = (b ++ [(x₁, v₁), (x₂, v₂)]) ++ [(x₃, u₃), (x₄, u₄)] by simp, g h3, s,
      show (b ++ [(x₁, v₁), (x₂, v₂)]) ++ (x₃, v₃) :: [(x₄, u₄)] = (b ++ [(x₁, v₁), (x₂, v₂), (x₃, v₃)]) ++ [(x₄, u₄)] by simp, g h4, s]
    simp
theorem Each.at {α : Type} {P : Addr × Obj → α → Prop} {l : Led} {r : List α} (x : Each P l r) : ∀ {i : Nat} {v : Value}, (refs l)[i]? = some v → ∃ p a, p ∈ l ∧ l[i]? = some p ∧ r[i]? = some a ∧ v = .ref p.1 ∧ P p a := by
  induction x with
  | nil => intro i v h; simp [refs] at h
  | cons y _ ih =>
    intro i v h
    cases i with
    | zero => simp [refs] at h; exact ⟨_, _, .head _, rfl, rfl, h.symm, y⟩
    | succ i =>
      refine gh fun CC kk => ?_
      obtain ⟨p, a, h1, h2, h3, h4⟩ := ih (i := i) (v := v) (by simpa [refs] using h)
      refine kk ?_
      clear kk CC
      exact ⟨p, a, .tail _ h1, h2, h3, h4⟩
theorem totOf_take {n : Nat} {rs : List Row4} {i : Nat} {r : Row4} (h : rs[i]? = some r) : totOf n (rs.take (i + 1)) = totOf n (rs.take i) + (if r.2.2.1 then r.2.1 * n else r.2.1) := by
  induction rs generalizing i with
  | nil => simp at h
  | cons x rs ih =>
    cases i with
    | zero => simp at h; subst h; simp [totOf]
    | succ i =>
      have := ih (i := i) (by simpa using h)
      simp only [List.take_succ_cons, totOf]
      lia
theorem bits_small {n : Nat} (h : n ≤ 1000) : Builtin.Int.intBits (n : Int) ≤ 64 := by
  have : ∀ k, k ≤ 1000 → Builtin.Int.intBits ((k : Nat) : Int) ≤ 64 := by decide +kernel
  exact this n h

theorem c_total0 {w : World} {hw h : Heap} {A : Around} {Q : Value → Heap → Prop} {l : List UInt8} {t u : Tok} {n : Nat} (D : Wo w hw h) {L : Addr} (r : Rm A 4) (hz : l.length ≤ 1048576) (hn : n ≤ 1000)
    (q : ∀ h' t₁, h.StaysIn h' → Q (.int (totOf n (dOf l).2 : Nat) t₁) h') (h₁ : Heap) (S : St w hw h L h₁ [("lines", .int n u), ("octets", .bytes l.toArray t)] []) :
    Wp (MM w) A (execs (bodyOf (stAt 18)) (callEnv fd193 L 193)) (fun fl h' => Q (flv fl) h') (fun _ _ => False) h₁ := by
  refine st_Assign ?_
  walk_at "w"
  rename St _ _ _ _ _ _ _ => S₂
  refine st_For ?_
  walk_at "w"
  refine c_delays_of S₂.wd r hz fun h₂ a o da od tl t₁ X hO hod hrs => ?_
  have S₃ := S₂.call0 X
  walk_at "w"
  refine s_titem (k := 1) hO (S₃.get (.head _)) rfl (Nat.le_of_ble_eq_true rfl) ?_
  have S₃ : St w hw h L h₂ _ ((a, o) :: (da, od) :: (tl ++ [])) := S₃
  have S₄ : St w hw h L h₂ _ (((da, od) :: tl) ++ []) := S₃.sub (List.sublist_cons_self _ _)
  refine for_l r.hd (fun i m l' => l' = [] ∧ ∃ tt ex, m = ([("lines", .int n u), ("octets", .bytes l.toArray t), ("total", .int (totOf n ((dOf l).2.take i) : Nat) tt)] : Loc) ++ ex ∧ (ex = [] ∨ ∃ u₁ u₂ u₃ u₄, ex = ([("place", u₁), ("tenths", u₂), ("is_each", u₃), ("is_kept", u₄)] : Loc))) S₄ hod (.head _) ⟨rfl, _, [], rfl, .inl rfl⟩ ?_ ?_
  · rintro i v m l' I oI h₅ hv ⟨rfl, tt, ex, rfl, hex⟩ hit S₅ J hJ
    refine gh fun CC kk => ?_
    obtain ⟨p, row, hp, hpi, hri, rfl, t₁, t₂, hrow⟩ := hrs.at hv
    refine kk ?_
    clear kk CC
    refine go_list hit ?_
    have hpm : p ∈ (I, oI) :: (((da, od) :: tl) ++ []) := .tail _ (List.mem_append_left _ (.tail _ hp))
    refine u_tuple r.hd (S₅.get hpm) hrow fun h₆ k₆ => ?_
    have S₆ := S₅.grow k₆
    walk_at "w"
    rename St _ _ _ _ _ _ _ => S₇
    rw [put4 (by kernel_rfl) (by kernel_rfl) (by kernel_rfl) (by kernel_rfl) hex] at S₇
    have e1 := totOf_take (n := n) hri
    refine e_IfExp ?_
    walk_at "w"
    refine ⟨fun hb => ?_, fun hb => ?_⟩
    · rw [if_pos hb] at e1
      walk_at "w"
      refine i_mul (IntMulOk.of_right (bits_small hn)) fun _ => ?_
      walk_at "w"
      rename St _ _ _ _ _ _ _ => S₉
      have e2 : ((totOf n ((dOf l).2.take i) : Nat) : Int) + ((row.2.1 : Nat) : Int) * (n : Int) = ((totOf n ((dOf l).2.take (i + 1)) : Nat) : Int) := by rw [e1]; push_cast; rfl
      rw [e2] at S₉
      exact hJ _ _ [] S₉ ⟨rfl, _, _, rfl, .inr ⟨_, _, _, _, rfl⟩⟩
    · rw [if_neg (by rw [hb]; decide)] at e1
      walk_at "w"
      rename St _ _ _ _ _ _ _ => S₉
      have e2 : ((totOf n ((dOf l).2.take i) : Nat) : Int) + ((row.2.1 : Nat) : Int) = ((totOf n ((dOf l).2.take (i + 1)) : Nat) : Int) := by rw [e1]; push_cast; rfl
      rw [e2] at S₉
      exact hJ _ _ [] S₉ ⟨rfl, _, _, rfl, .inr ⟨_, _, _, _, rfl⟩⟩
  · rintro m l' h₅ ⟨rfl, tt, ex, rfl, hex⟩ S₅
    refine Seq_next ?_
    walk_at "w"
    have hl : (refs tl).length = (dOf l).2.length := by rw [refs, List.length_map, hrs.len]
    rw [hl, List.take_length]
    exact q _ _ S₅.stay

theorem c_total {w : World} {hw h : Heap} {A : Around} {Q : Value → Heap → Prop} {E : Value → Heap → Prop} {l : List UInt8} {t u : Tok} {n : Nat} (D : Wo w hw h) (r : Rm A 5) (hz : l.length ≤ 1048576) (hn : n ≤ 1000)
    (q : ∀ h' t₁, h.StaysIn h' → Q (.int (totOf n (dOf l).2 : Nat) t₁) h') : Wp (MM w) A (call (.ref 193) [.bytes l.toArray t, .int n u] []) Q E h :=
  enter_k (n := 4) (body := bodyOf (stAt 18)) (binds := [("octets", .bytes l.toArray t), ("lines", .int n u)]) D r (kf193 _) (kc193 _) (fun s hs => BindsTo.of_defaults rfl (hs ▸ D.K _ _ (kd186 _)) rfl rfl rfl) rfl [("lines", .int n u), ("octets", .bytes l.toArray t)] rfl (fun L A' h₁ r' fin S => c_total0 D r' hz hn q h₁ S) (locs rfl) (by decide +kernel) rfl rfl rfl
theorem c_total1 {w : World} {hw h : Heap} {A : Around} {Q : Value → Heap → Prop} {E : Value → Heap → Prop} {l : List UInt8} {t : Tok} (D : Wo w hw h) (r : Rm A 5) (hz : l.length ≤ 1048576)
    (q : ∀ h' t₁, h.StaysIn h' → Q (.int (totOf 1 (dOf l).2 : Nat) t₁) h') : Wp (MM w) A (call (.ref 193) [.bytes l.toArray t] []) Q E h :=
  enter_k (n := 4) (body := bodyOf (stAt 18)) (binds := [("octets", .bytes l.toArray t), ("lines", .int (1 : Nat) 432)]) D r (kf193 _) (kc193 _) (fun s hs => BindsTo.of_defaults rfl (hs ▸ D.K _ _ (kd186 _)) rfl rfl rfl) rfl [("lines", .int (1 : Nat) 432), ("octets", .bytes l.toArray t)] rfl (fun L A' h₁ r' fin S => c_total0 D r' hz (Nat.le_of_ble_eq_true rfl) q h₁ S) (locs rfl) (by decide +kernel) rfl rfl rfl

end
section
theorem fmod_nat (x : Int) (n : Nat) (hn : 0 < n) : ∃ d : Nat, d < n ∧ x.fmod n = d := by
  have h1 : 0 ≤ x.fmod n := Int.fmod_nonneg_of_pos x (Int.ofNat_lt.mpr hn)
  have h2 : x.fmod n < n := Int.fmod_lt_of_pos x (Int.ofNat_lt.mpr hn)
  exact ⟨(x.fmod n).toNat, (Int.toNat_lt h1).mpr h2, (Int.toNat_of_nonneg h1).symm⟩
/- the well that a law draws from -/
noncomputable def IntCells (cs : List Value) : Prop := ∀ v ∈ cs, ∃ (i : Nat) (t : Tok), v = .int i t
noncomputable def WellAt (ow oc : Obj) (ca : Addr) : Prop := ∃ (spot st : Nat) (cs : List Value) (t₁ t₂ : Tok), OLst ow [.ref ca, .int spot t₁, .int st t₂] ∧ OLst oc cs ∧ IntCells cs ∧ cs.length ≤ 63 ∧ st < 2147483647
theorem c_draw {w : World} {hw h : Heap} {A : Around} {Q : Value → Heap → Prop} {E : Value → Heap → Prop} {wa ca : Addr} {ow oc : Obj} {n : Nat} {t : Tok}
    (D : Wo w hw h) (r : Rm A 2) (hl : ∀ p ∈ ([(wa, ow), (ca, oc)] : Led), h.get? p.1 = some p.2 ∧ hw.get? p.1 = none) (nd : (adr [(wa, ow), (ca, oc)]).Nodup) (hW : WellAt ow oc ca) (hn : 0 < n) (hn' : n < 1000000)
    (q : ∀ h' ow' d t', d < n → WellAt ow' oc ca → Step h [(wa, ow), (ca, oc)] h' [(wa, ow'), (ca, oc)] → Q (.int (d : Nat) t') h') :
    Wp (MM w) A (call (.ref 272) [.ref wa, .int n t] []) Q E h := by
  refine enter_ret (body := bodyOf (stAt 27)) (binds := [("well", .ref wa), ("below", .int n t)]) D _ hl nd (kf272 _) (kc272 _) r.dep (fun s hs => BindsTo.of_eq (by rfl)) rfl (fun h₁ S => ?_) (locs rfl) (by decide +kernel) rfl rfl rfl
  have S : St w hw (hideAll h (adr [(wa, ow), (ca, oc)])) h.objs.size h₁ [("below", .int n t), ("well", .ref wa)] [(wa, ow), (ca, oc)] := S
  have r1 := (r : Rm A (1 + 1)).deeper (env := callEnv fd272 h.objs.size 272)
  obtain ⟨spot, st, cs, t₁, t₂, hw1, hc1, hci, hcl, hst⟩ := hW
  refine st_AssignSwap r1.hd ?_
  walk_at "w"
  refine s_item (k := 0) hw1 (S.get (.head _)) rfl (Nat.le_of_ble_eq_true rfl) ?_
  walk_at "w"
  refine s_item (k := 1) hw1 (S.get (.head _)) rfl (Nat.le_of_ble_eq_true rfl) ?_
  walk_at "w"
  refine s_tuple S (Nat.le_of_ble_eq_true rfl) fun a o h₂ hO S₂ => ?_
  refine ⟨a, o, _, rfl, S₂.get (.head _), hO, rfl, fun h₃ k₃ => ?_⟩
  have S₃ := (S₂.grow k₃).sub (l' := [(wa, ow), (ca, oc)]) (List.sublist_cons_self _ _)
  show Wp _ _ (assignInOrder ((["spot", "cells"] : List Str).map fun n => bindName (callEnv fd272 h.objs.size 272) n) [.int spot t₁, .ref ca]) _ _ _
  refine b_cons ?_
  walk_at "w"
  refine b_cons ?_
  walk_at "w"
  refine b_nil ?_
  walk_at "w"
  rename St _ _ _ _ _ _ _ => S₄
  refine s_len hc1 (S₄.get (.tail _ (.head _))) (by lia) fun _ => ?_
  walk_at "w"
  rename St _ _ _ _ _ _ _ => S₅
  refine Wp_here (J := fun v => ∃ (c : Nat) (tc : Tok), v = .int c tc) ?_ ?_
  · refine e_IfExp ?_
    walk_at "w"
    refine ⟨fun hb => ?_, fun hb => ?_⟩
    · have hlt : spot < cs.length := by simpa using hb
      walk_at "w"
      obtain ⟨i, ti, hi⟩ := hci _ (List.getElem_mem hlt)
      refine s_item (k := spot) hc1 (S₅.get (.tail _ (.head _))) (List.getElem?_eq_getElem hlt) (by lia) ?_
      exact ⟨rfl, _, _, hi⟩
    · walk_at "w"
      exact ⟨rfl, 0, _, rfl⟩
  rintro v ⟨c, tc, rfl⟩
  walk_at "w"
  rename St _ _ _ _ _ _ _ => S₆
  refine s_setItem (k := 1) S₆ hw1 (.head _) (by simp) (Nat.le_of_ble_eq_true rfl) fun ow₂ h₇ hw2 u₇ => ?_
  have S₇ := u₇ _ .head
  simp only [List.set] at hw2
  walk_at "w"
  refine s_item (k := 2) hw2 (S₇.get (.head _)) rfl (Nat.le_of_ble_eq_true rfl) ?_
  walk_at "w"
  refine i_mod (by decide) fun _ => ?_
  walk_at "w"
  refine i_mod (by decide) fun _ => ?_
  walk_at "w"
  obtain ⟨st', hst', e⟩ := fmod_nat (((st : Int) * 48271 + (c : Int).fmod 65521 + 7 * spot + 85)) 2147483647 (by decide)
  rw [show ((2147483647 : Nat) : Int) = 2147483647 from rfl] at e
  rw [e]
  refine s_setItem (k := 2) S₇ hw2 (.head _) (by simp) (Nat.le_of_ble_eq_true rfl) fun ow₃ h₈ hw3 u₈ => ?_
  have S₈ := u₈ _ .head
  simp only [List.set] at hw3
  walk_at "w"
  refine Wp_here (J := fun v => ∃ (c : Int) (tc : Tok), v = .int c tc) ?_ ?_
  · refine e_IfExp ?_
    walk_at "w"
    refine ⟨fun hb => ?_, fun hb => ?_⟩
    · walk_at "w"
      exact ⟨rfl, _, _, rfl⟩
    · walk_at "w"
      refine s_item (k := 2) hw3 (S₈.get (.head _)) rfl (Nat.le_of_ble_eq_true rfl) ?_
      walk_at "w"
      refine i_div (by decide) (PyProof.noPylong_small (by decide)) fun _ => ?_
      exact ⟨rfl, _, _, rfl⟩
  rintro v ⟨c', tc', rfl⟩
  walk_at "w"
  refine i_mod (by lia) fun _ => ?_
  walk_at "w"
  obtain ⟨d, hd, e'⟩ := fmod_nat c' n hn
  rw [e']
  exact q _ _ _ _ hd ⟨spot + 1, st', cs, _, _, by rw [show ((spot + 1 : Nat) : Int) = (spot : Int) + 1 by lia]; exact hw3, hc1, hci, hcl, hst'⟩ S₈.step

theorem c_pick {w : World} {hw h : Heap} {A : Around} {Q : Value → Heap → Prop} {E : Value → Heap → Prop} {wa ca T : Addr} {ow oc oT : Obj} {vs : List Value}
    (D : Wo w hw h) (r : Rm A 3) (hl : ∀ p ∈ ([(wa, ow), (ca, oc)] : Led), h.get? p.1 = some p.2 ∧ hw.get? p.1 = none) (nd : (adr [(wa, ow), (ca, oc)]).Nodup) (hW : WellAt ow oc ca) (hT : h.get? T = some oT) (hv : OTup oT vs) (hTn : T ∉ adr [(wa, ow), (ca, oc)]) (hn : 0 < vs.length) (hn' : vs.length < 1000000)
    (q : ∀ h' ow' v, v ∈ vs → WellAt ow' oc ca → Step h [(wa, ow), (ca, oc)] h' [(wa, ow'), (ca, oc)] → Q v h') :
    Wp (MM w) A (call (.ref 279) [.ref wa, .ref T] []) Q E h := by
  refine enter_ret (body := bodyOf (stAt 28)) (binds := [("well", .ref wa), ("some", .ref T)]) D _ hl nd (kf279 _) (kc279 _) r.dep (fun s hs => BindsTo.of_eq (by rfl)) rfl (fun h₁ S => ?_) (locs rfl) (by decide +kernel) rfl rfl rfl
  have S : St w hw (hideAll h (adr [(wa, ow), (ca, oc)])) h.objs.size h₁ [("some", .ref T), ("well", .ref wa)] ([(wa, ow), (ca, oc)] ++ []) := S
  have r1 := (r : Rm A (2 + 1)).deeper (env := callEnv fd279 h.objs.size 279)
  have hT' := hideAll_get _ hT hTn
  refine st_Return ?_
  walk_at "w"
  refine s_tlen hv (S.base hT') (by lia) fun _ => ?_
  walk_at "w"
  refine c_draw S.wd r1 S.own' S.nd' hW hn hn' fun h₂ ow₂ d t₂ hd hW₂ X₂ => ?_
  have S₂ := St.call S X₂
  walk_at "w"
  have hv' := List.getElem?_eq_getElem hd
  refine s_titem (k := d) hv (S₂.base hT') hv' (by lia) ?_
  exact q _ _ _ (List.getElem_mem hd) hW₂ (St.step (S₂.sub (by simp)))

end
section
theorem digB_iff (x : UInt8) : digB x = (decide (48 ≤ x.toNat) && decide (x.toNat ≤ 57)) := by
  have key : ∀ n : Fin 256, digB (UInt8.ofNat n.val) = (decide (48 ≤ n.val) && decide (n.val ≤ 57)) := by decide +kernel
  have := key ⟨x.toNat, x.toNat_lt⟩
  simpa only [UInt8.ofNat_toNat] using this
noncomputable def figs (l : List UInt8) : Int := if l = [] ∨ l.all digB = false then -1 else (vals l 0 : Nat)
theorem c_figures {w : World} {hw h : Heap} {A : Around} {Q : Value → Heap → Prop} {E : Value → Heap → Prop} {l : List UInt8} {t : Tok}
    (D : Wo w hw h) (r : Rm A 2) (hz : l.length ≤ 1048576) (q : ∀ h' t', h.StaysIn h' → Q (.int (figs l) t') h') : Wp (MM w) A (call (.ref 284) [.bytes l.toArray t] []) Q E h := by
  refine enter_k (n := 1) (body := bodyOf (stAt 29)) (binds := [("octets", .bytes l.toArray t)]) D (r : Rm A (1 + 1)) (kf284 _) (kc284 _) (fun s hs => BindsTo.of_eq (by rfl)) rfl [("octets", .bytes l.toArray t)] rfl (fun L A' h₁ r1 fin S => ?_) (locs rfl) (by decide +kernel) rfl rfl rfl
  refine st_If_cut (fun h' => l ≠ [] ∧ l.all digB = true ∧ St w hw h L h' [("octets", .bytes l.toArray t)] []) ?_ ?_
  · walk_at "w"
    refine ⟨fun hb => ?_, fun hb => ?_⟩
    · walk_at "w"
      refine i_neg fun _ => ?_
      walk_at "w"
      have hl : l = [] := by simpa using hb
      have e : figs l = -1 := by unfold figs; rw [if_pos (.inl hl)]
      rw [← e]
      exact q _ _ S.stay
    · have hb0 := hb
      walk_at "w"
      refine e_ListComp (hw := hw) (h₀ := h) (L := L) (m := [("octets", .bytes l.toArray t)]) ?_
      walk_at "w"
      refine compOn_b r1.hd (fun i ys l' => l' = [] ∧ ∃ is : List (Int × Tok), ys = is.map (fun p => .int p.1 p.2) ∧ is.isEmpty = (l.take i).all digB) S (by lia) ⟨rfl, [], rfl, rfl⟩ ?_ ?_
      · rintro i c tk ys l' I o C oC D oD mc h₂ hc ⟨rfl, is, rfl, his⟩ hD hC S₂
        refine go_name ?_
        refine as_name ?_
        refine c_store S₂ (.tail _ (.head _)) hC fun oC' h₃ hC' u₃ => ?_
        have S₃ := u₃ _ (.tail .head)
        walk_at "w"
        have bad : digB c = false → ∃ is' : List (Int × Tok), (is.map fun p => Value.int p.1 p.2) ++ [.int c.toNat tk] = is'.map (fun p => .int p.1 p.2) ∧ is'.isEmpty = (l.take (i + 1)).all digB := fun hb =>
          ⟨is ++ [((c.toNat : Int), tk)], by simp, by rw [List.take_add_one, hc]; simp [hb]⟩
        have good : digB c = true → is.isEmpty = (l.take (i + 1)).all digB := fun hb => by rw [List.take_add_one, hc, his]; simp [hb]
        have hdc := digB_iff c
        refine ⟨fun hb => ?_, fun hb => ?_⟩
        · walk_at "w"
          refine ⟨fun hb' => ?_, fun hb' => ?_⟩
          · walk_at "w"
            exact ⟨_, _, [], hC', S₃, rfl, bad (by rw [hdc]; simp at hb hb' ⊢; lia)⟩
          · exact ⟨_, _, [], hC', S₃, rfl, is, rfl, good (by rw [hdc]; simp at hb hb' ⊢; lia)⟩
        · walk_at "w"
          refine ⟨fun hb' => ?_, fun hb' => by cases hb'⟩
          walk_at "w"
          exact ⟨_, _, [], hC', S₃, rfl, bad (by rw [hdc]; simp at hb ⊢; lia)⟩
      · rintro D oD ys l' h₂ hD hys ⟨rfl, is, rfl, his⟩ S₂
        walk_at "w"
        refine s_list S₂ (Nat.le_of_ble_eq_true rfl) fun a o h₃ ho S₃ => ?_
        rw [List.take_length] at his
        have r1' := rd_ints (S₃.get (.tail _ (.head _))) hD
        have r2' := rd_nil (S₃.get (.head _)) ho
        refine d_ne r1' r2' (cmp_nil _) (n := 1) (flat_ints _) (by have := r1.un; lia) ?_
        rw [eqv_nil]
        have S₄ := S₃.nil
        walk_at "w"
        refine ⟨fun hb => ?_, fun hb => ?_⟩
        · walk_at "w"
          refine i_neg fun _ => ?_
          walk_at "w"
          have e : figs l = -1 := by unfold figs; rw [if_pos (.inr (by rw [← his]; simpa using hb))]
          rw [← e]
          exact q _ _ S₄.stay
        · walk_at "w"
          exact ⟨by simpa using hb0, by rw [← his]; simpa using hb, S₄⟩
  · rintro h₁ ⟨hne, hall, S⟩
    have hf : figs l = (vals l 0 : Nat) := by unfold figs; rw [if_neg]; simp [hne, hall]
    rw [hf] at q
    walk_at "w"
    rename St _ _ _ _ _ _ _ => S₂
    refine st_For ?_
    walk_at "w"
    refine for_b r1.hd (fun i m l' => l' = [] ∧ ∃ tt ex, m = ([("octets", .bytes l.toArray t), ("number", .int (vals (l.take i) 0 : Nat) tt)] : Loc) ++ ex ∧ (ex = [] ∨ ∃ v, ex = ([("octet", v)] : Loc))) S₂ ⟨rfl, _, [], rfl, .inl rfl⟩ ?_ ?_
    · rintro i c tk m l' I o h₃ hc ⟨rfl, tt, ex, rfl, hex⟩ S₃ J hJ
      refine go_name ?_
      refine as_name ?_
      refine n_store S₃ fun h₄ S₄ => ?_
      rw [put_opt (by kernel_rfl) hex] at S₄
      walk_at "w"
      rename St _ _ _ _ _ _ _ => S₅
      have hx := (List.getElem?_eq_some_iff.mp hc).1
      have hdc := List.all_eq_true.mp hall c (List.mem_of_getElem? hc)
      have e : 10 * ((vals (l.take i) 0 : Nat) : Int) + (c.toNat : Int) - 48 = ((vals (l.take (i + 1)) 0 : Nat) : Int) := by
        rw [List.take_add_one, hc]
        unfold vals
        rw [List.foldl_append]
        exact (dig_cast (z := 10 * ((List.foldl (fun a c => a * 10 + c.toNat - 48) 0 (l.take i) : Nat) : Int)) (by rw [Int.natCast_mul, Int.mul_comm]; rfl) hdc).symm
      rw [e] at S₅
      exact hJ _ _ [] S₅ ⟨rfl, _, _, rfl, .inr ⟨_, rfl⟩⟩
    · rintro m l' h₃ ⟨rfl, tt, ex, rfl, hex⟩ S₃
      refine Seq_next ?_
      walk_at "w"
      rw [List.take_length]
      exact q _ _ S₃.stay

end
section
noncomputable def rs (l : List UInt8) : Nat := (l.reverse.dropWhile starB).length
theorem rs_le (l : List UInt8) : rs l ≤ l.length := by
  unfold rs
  have := (List.dropWhile_sublist starB (l := l.reverse)).length_le
  simpa using this
theorem rs_star {l : List UInt8} {k : Nat} {x : UInt8} (hx : l[k]? = some x) (hs : starB x = true) : rs (l.take (k + 1)) = rs (l.take k) := by
  unfold rs
  rw [List.take_add_one, hx, List.reverse_append]
  show (List.dropWhile starB (x :: (l.take k).reverse)).length = _
  rw [List.dropWhile_cons, hs, if_pos rfl]
theorem rs_end {l : List UInt8} {k : Nat} {x : UInt8} (hx : l[k]? = some x) (hs : starB x = false) : rs (l.take (k + 1)) = k + 1 := by
  have hk : k < l.length := (List.getElem?_eq_some_iff.mp hx).1
  unfold rs
  rw [List.take_add_one, hx, List.reverse_append]
  show (List.dropWhile starB (x :: (l.take k).reverse)).length = _
  rw [List.dropWhile_cons, hs, if_neg (by decide), List.length_cons, List.length_reverse, List.length_take]
  lia
theorem starB_in (x : UInt8) : (#[42, 47] : Array UInt8).contains x = starB x := by
  have key : ∀ n : Fin 256, (#[42, 47] : Array UInt8).contains (UInt8.ofNat n.val) = starB (UInt8.ofNat n.val) := by decide +kernel
  have := key ⟨x.toNat, x.toNat_lt⟩
  simpa only [UInt8.ofNat_toNat] using this

noncomputable def lInner (l : List UInt8) (i : Nat) : List UInt8 := cut l (i + 2) (findInt l 62 i).toNat
noncomputable def lPs (l : List UInt8) (i : Nat) : List (List UInt8) := splitB 46 ((lInner l i).take (rs (lInner l i)))
noncomputable def lTail (l : List UInt8) (i : Nat) : List UInt8 := (lInner l i).drop (rs (lInner l i))
noncomputable def lawD (l : List UInt8) (i : Nat) : Option (Int × Bool × Bool × Int) :=
  if cut l i (i + 2) = [36, 60] ∧ 0 ≤ findInt l 62 i then
    if (lPs l i).length > 2 ∨ figs ((lPs l i).getD 0 []) < 0 then none
    else if (lPs l i).length = 2 ∧ (((lPs l i).getD 1 []).length ≠ 1 ∨ figs ((lPs l i).getD 1 []) < 0) then none
    else some (10 * figs ((lPs l i).getD 0 []) + (if (lPs l i).length = 2 then figs ((lPs l i).getD 1 []) else 0), (lTail l i).contains 42, (lTail l i).contains 47, findInt l 62 i + 1)
  else none

theorem lInner_le {l : List UInt8} {i : Nat} : (lInner l i).length ≤ l.length := by
  unfold lInner cut
  exact Nat.le_trans (List.length_take_le' _ _) (by rw [List.length_drop]; exact Nat.sub_le _ _)
theorem law_delay_rest {w : World} {hw h : Heap} {A : Around} {Q : Value → Heap → Prop} {l : List UInt8} {i : Nat} {t u te ti tj : Tok}
    {L : Addr} (D : Wo w hw h) (r2 : Rm A 2) (hz : l.length ≤ 1000000) (fin : ∀ {h' m' l'}, St w hw h L h' m' l' → Step h [] h' l')
    (q0 : ∀ h', h.StaysIn h' → lawD l i = none → Q .none h')
    (q1 : ∀ h' a o t₁ t₂ n e kp p, Step h [] h' [(a, o)] → lawD l i = some (n, e, kp, p) → OTup o [.int n t₁, .bool e, .bool kp, .int p t₂] → Q (.ref a) h')
    (hpos : cut l i (i + 2) = [36, 60] ∧ 0 ≤ findInt l 62 i) (h₁ : Heap)
    (S : St w hw h L h₁ [("at", .int i u), ("octets", .bytes l.toArray t), ("end", .int (findInt l 62 i) te), ("inner", .bytes (lInner l i).toArray ti), ("size", .int (rs (lInner l i) : Nat) tj)] []) :
    Wp (MM w) A (execs ((bodyOf (stAt 30)).drop 5) (callEnv fd291 L 291)) (fun fl h' => Q (flv fl) h') (fun _ _ => False) h₁ := by
  have hIz : (lInner l i).length ≤ l.length := lInner_le
  have hrl := rs_le (lInner l i)
  refine st_AssignSwap r2.hd ?_
  walk_at "w"
  refine y_to (j := rs (lInner l i)) S (by lia) rfl fun h₂ t₂ S₂ => ?_
  walk_at "w"
  refine y_meth slot_bytes_split type_bytes_split ?_
  walk_at "w"
  refine y_split S₂ (by simp; lia) fun pa po pvs h₃ hpo hpv S₃ => ?_
  walk_at "w"
  refine y_from (i := rs (lInner l i)) S₃ (by lia) rfl fun h₄ t₄ S₄ => ?_
  walk_at "w"
  refine s_tuple S₄ (Nat.le_of_ble_eq_true rfl) fun a o h₅ hO S₅ => ?_
  refine ⟨a, o, _, rfl, S₅.get (.head _), hO, rfl, fun h₆ k₆ => ?_⟩
  have S₆ := (S₅.grow k₆).sub (List.sublist_cons_self _ _)
  show Wp _ _ (assignInOrder ((["tail", "parts"] : List Str).map fun n => bindName (callEnv fd291 L 291) n) [.bytes ((lInner l i).drop (rs (lInner l i))).toArray t₄, .ref pa]) _ _ _
  refine b_cons ?_
  walk_at "w"
  refine b_cons ?_
  walk_at "w"
  refine b_nil ?_
  walk_at "w"
  rename St _ _ _ _ _ _ _ => S₇
  have hpv : BL pvs (lPs l i) := hpv
  have h0 : (lPs l i)[0]? = some ((lPs l i).getD 0 []) := by
    have := splitB_ne (c := 46) ((lInner l i).take (rs (lInner l i)))
    unfold lPs
    cases hs : splitB 46 ((lInner l i).take (rs (lInner l i))) with
    | nil => exact (this hs).elim
    | cons p ps => rfl
  have hPz : (lPs l i).length ≤ 1000001 := by have := splitB_len (c := 46) (l := (lInner l i).take (rs (lInner l i))); unfold lPs; simp at this; lia
  have small : ∀ {j : Nat} {b : List UInt8}, (lPs l i)[j]? = some b → b.length ≤ 1048576 := fun h => by
    have := splitB_small (c := 46) _ (List.mem_of_getElem? h); simp at this; lia
  obtain ⟨tp, hv0⟩ := hpv.at h0
  have S₇ : St w hw h L _ [("at", .int i u), ("octets", .bytes l.toArray t), ("end", .int (findInt l 62 i) te), ("inner", .bytes (lInner l i).toArray ti), ("size", .int (rs (lInner l i) : Nat) tj), ("tail", .bytes (lTail l i).toArray t₄), ("parts", .ref pa)] [(pa, po)] := S₇
  refine st_If_cut (fun h' => ¬ ((lPs l i).length > 2 ∨ figs ((lPs l i).getD 0 []) < 0) ∧ St w hw h L h' [("at", .int i u), ("octets", .bytes l.toArray t), ("end", .int (findInt l 62 i) te), ("inner", .bytes (lInner l i).toArray ti), ("size", .int (rs (lInner l i) : Nat) tj), ("tail", .bytes (lTail l i).toArray t₄), ("parts", .ref pa)] [(pa, po)]) ?_ ?_
  · walk_at "w"
    refine s_len hpo (S₇.get (.head _)) (by rw [hpv.1]; lia) fun _ => ?_
    walk_at "w"
    rw [hpv.1]
    refine ⟨fun hb => ?_, fun hb => ?_⟩
    · walk_at "w"
      refine q0 _ S₇.stay ?_
      unfold lawD
      rw [if_pos hpos, if_pos (.inl (by have := of_decide_eq_true hb; lia))]
    · walk_at "w"
      refine s_item (k := 0) hpo (S₇.get (.head _)) hv0 (by rw [hpv.1]; lia) ?_
      walk_at "w"
      refine c_figures S₇.wd r2 (small h0) fun h₈ _ k₈ => ?_
      have S₈ := S₇.grow k₈
      walk_at "w"
      refine ⟨fun hb' => ?_, fun hb' => ?_⟩
      · walk_at "w"
        refine q0 _ S₈.stay ?_
        unfold lawD
        rw [if_pos hpos, if_pos (.inr (by simpa using hb'))]
      · walk_at "w"
        refine ⟨fun e => ?_, S₈⟩
        rcases e with e | e
        · have := of_decide_eq_false hb; lia
        · have : ¬ figs ((lPs l i).getD 0 []) < 0 := by simpa using hb'
          exact this e
  rintro h₈ ⟨hn1, S₈⟩
  refine st_If_cut (fun h' => ¬ ((lPs l i).length = 2 ∧ (((lPs l i).getD 1 []).length ≠ 1 ∨ figs ((lPs l i).getD 1 []) < 0)) ∧ St w hw h L h' [("at", .int i u), ("octets", .bytes l.toArray t), ("end", .int (findInt l 62 i) te), ("inner", .bytes (lInner l i).toArray ti), ("size", .int (rs (lInner l i) : Nat) tj), ("tail", .bytes (lTail l i).toArray t₄), ("parts", .ref pa)] [(pa, po)]) ?_ ?_
  · walk_at "w"
    refine s_len hpo (S₈.get (.head _)) (by rw [hpv.1]; lia) fun _ => ?_
    walk_at "w"
    rw [hpv.1]
    refine ⟨fun hb => ?_, fun hb => ?_⟩
    · have h2 : (lPs l i).length = 2 := by simp at hb; lia
      have h1 : (lPs l i)[1]? = some ((lPs l i).getD 1 []) := by rw [List.getD_eq_getElem?_getD, List.getElem?_eq_getElem (by lia)]; rfl
      obtain ⟨tp1, hv1⟩ := hpv.at h1
      walk_at "w"
      refine s_item (k := 1) hpo (S₈.get (.head _)) hv1 (by rw [hpv.1]; lia) ?_
      walk_at "w"
      refine y_len (by have := small h1; simp only [List.size_toArray]; lia) fun _ => ?_
      walk_at "w"
      refine ⟨fun hb' => ?_, fun hb' => ?_⟩
      · walk_at "w"
        refine q0 _ S₈.stay ?_
        unfold lawD
        rw [if_pos hpos, if_neg hn1, if_pos ⟨h2, .inl (by rw [List.size_toArray] at hb'; have := bne_iff_ne.mp hb'; lia)⟩]
      · walk_at "w"
        refine s_item (k := 1) hpo (S₈.get (.head _)) hv1 (by rw [hpv.1]; lia) ?_
        walk_at "w"
        refine c_figures S₈.wd r2 (small h1) fun h₉ _ k₉ => ?_
        have S₉ := S₈.grow k₉
        walk_at "w"
        refine ⟨fun hb'' => ?_, fun hb'' => ?_⟩
        · walk_at "w"
          refine q0 _ S₉.stay ?_
          unfold lawD
          rw [if_pos hpos, if_neg hn1, if_pos ⟨h2, .inr (by simpa using hb'')⟩]
        · walk_at "w"
          refine ⟨fun e => ?_, S₉⟩
          rcases e.2 with e | e
          · rw [List.size_toArray] at hb'
            have := bne_eq_false_iff_eq.mp hb'
            lia
          · have : ¬ figs ((lPs l i).getD 1 []) < 0 := by simpa using hb''
            exact this e
    · walk_at "w"
      exact ⟨fun e => by simp at hb; lia, S₈⟩
  rintro h₉ ⟨hn2, S₉⟩
  walk_at "w"
  refine s_item (k := 0) hpo (S₉.get (.head _)) hv0 (by rw [hpv.1]; lia) ?_
  walk_at "w"
  refine c_figures S₉.wd r2 (small h0) fun h₁₀ _ k₁₀ => ?_
  have S₁₀ := S₉.grow k₁₀
  walk_at "w"
  refine Wp_post (Q := fun v h' => ∃ tv, v = .int (if (lPs l i).length = 2 then figs ((lPs l i).getD 1 []) else 0) tv ∧ h₁₀.StaysIn h') ?_ ?_
  · refine e_IfExp ?_
    walk_at "w"
    refine s_len hpo (S₁₀.get (.head _)) (by rw [hpv.1]; lia) fun _ => ?_
    walk_at "w"
    rw [hpv.1]
    refine ⟨fun hb => ?_, fun hb => ?_⟩
    · have h2 : (lPs l i).length = 2 := by simp at hb; lia
      have h1 : (lPs l i)[1]? = some ((lPs l i).getD 1 []) := by rw [List.getD_eq_getElem?_getD, List.getElem?_eq_getElem (by lia)]; rfl
      obtain ⟨tp1, hv1⟩ := hpv.at h1
      walk_at "w"
      refine s_item (k := 1) hpo (S₁₀.get (.head _)) hv1 (by rw [hpv.1]; lia) ?_
      walk_at "w"
      refine c_figures S₁₀.wd r2 (small h1) fun h₁₁ _ k₁₁ => ?_
      rw [if_pos h2]
      exact ⟨_, rfl, k₁₁⟩
    · have h2 : ¬ (lPs l i).length = 2 := by simp at hb; lia
      walk_at "w"
      rw [if_neg h2]
      exact ⟨_, rfl, fun _ _ e => e⟩
  rintro v h₁₁ ⟨tv, rfl, k₁₁⟩
  have S₁₁ := S₁₀.grow k₁₁
  walk_at "w"
  refine y_inB r2.hd fun h₁₂ k₁₂ => ?_
  rename St _ _ _ _ _ _ _ => S₁₂
  have S₁₃ := S₁₂.grow k₁₂
  walk_at "w"
  refine y_inB r2.hd fun h₁₃ k₁₃ => ?_
  have S₁₄ := S₁₃.grow k₁₃
  walk_at "w"
  refine s_tuple S₁₄ (Nat.le_of_ble_eq_true rfl) fun fa fo h₁₄ hfo S₁₅ => ?_
  refine q1 _ fa fo _ _ _ _ _ _ ((fin S₁₅).sub (by simp)) ?_ hfo
  unfold lawD
  rw [if_pos hpos, if_neg hn1, if_neg hn2]

theorem c_law_delay {w : World} {hw h : Heap} {A : Around} {Q : Value → Heap → Prop} {E : Value → Heap → Prop} {l : List UInt8} {i : Nat} {k : Int} {t u : Tok}
    (D : Wo w hw h) (r : Rm A 3) (hz : l.length ≤ 1000000) (hk : k = i)
    (q0 : ∀ h', h.StaysIn h' → lawD l i = none → Q .none h')
    (q1 : ∀ h' a o t₁ t₂ n e kp p, Step h [] h' [(a, o)] → lawD l i = some (n, e, kp, p) → OTup o [.int n t₁, .bool e, .bool kp, .int p t₂] → Q (.ref a) h') :
    Wp (MM w) A (call (.ref 291) [.bytes l.toArray t, .int k u] []) Q E h := by
  subst hk
  have hz' : l.length ≤ 16777216 := by lia
  refine enter_k (n := 2) (body := bodyOf (stAt 30)) (binds := [("octets", .bytes l.toArray t), ("at", .int i u)]) D (r : Rm A (2 + 1)) (kf291 _) (kc291 _) (fun s hs => BindsTo.of_eq (by rfl)) rfl [("at", .int i u), ("octets", .bytes l.toArray t)] rfl (fun L A' h₁ r2 fin S => ?_) (locs rfl) (by decide +kernel) rfl rfl rfl
  refine st_Assign ?_
  walk_at "w"
  refine y_meth slot_bytes_find type_bytes_find ?_
  walk_at "w"
  refine y_find3 rfl fun te => ?_
  walk_at "w"
  rename St _ _ _ _ _ _ _ => S₂
  refine st_If_cut (fun h' => cut l i (i + 2) = [36, 60] ∧ 0 ≤ findInt l 62 i ∧ St w hw h L h' [("at", .int i u), ("octets", .bytes l.toArray t), ("end", .int (findInt l 62 i) te)] []) ?_ ?_
  · walk_at "w"
    refine y_cut (i := i) (j := i + 2) S₂ hz' rfl rfl fun h₂ _ S₃ => ?_
    walk_at "w"
    refine ⟨fun hb => ?_, fun hb => ?_⟩
    · walk_at "w"
      refine q0 _ S₃.stay ?_
      have : cut l i (i + 2) ≠ [36, 60] := by simpa using hb
      unfold lawD
      rw [if_neg fun e => this e.1]
    · have hc : cut l i (i + 2) = [36, 60] := by simpa using hb
      walk_at "w"
      refine ⟨fun hb => ?_, fun hb => ?_⟩
      · walk_at "w"
        refine q0 _ S₃.stay ?_
        have : findInt l 62 i < 0 := by simpa using hb
        unfold lawD
        rw [if_neg fun e => by lia]
      · have hf : 0 ≤ findInt l 62 i := by simpa using hb
        walk_at "w"
        exact ⟨hc, hf, S₃⟩
  rintro h₂ ⟨hc, hf, S₃⟩
  have hpos : cut l i (i + 2) = [36, 60] ∧ 0 ≤ findInt l 62 i := ⟨hc, hf⟩
  walk_at "w"
  refine y_cut (i := i + 2) (j := (findInt l 62 i).toNat) S₃ hz' rfl (by lia) fun h₃ ti S₄ => ?_
  have eI : cut l (i + 2) (findInt l 62 i).toNat = lInner l i := rfl
  rw [eI]
  have hIz : (lInner l i).length ≤ l.length := lInner_le
  walk_at "w"
  refine y_len (by simp; lia) fun tl => ?_
  walk_at "w"
  rename St _ _ _ _ _ _ _ => S₅
  rw [List.size_toArray] at S₅
  refine st_While (I := fun (k : Nat) h' => (∃ tj, St w hw h L h' [("at", .int i u), ("octets", .bytes l.toArray t), ("end", .int (findInt l 62 i) te), ("inner", .bytes (lInner l i).toArray ti), ("size", .int (k : Nat) tj)] []) ∧ rs ((lInner l i).take k) = rs (lInner l i) ∧ k ≤ (lInner l i).length)
    (μ := fun k => k) (x₀ := (lInner l i).length) ⟨⟨tl, S₅⟩, by rw [List.take_length], Nat.le_refl _⟩ ?_
  rintro k J hJ h₅ ⟨⟨tj, S₆⟩, hrs, hkl⟩
  walk_at "w"
  refine ⟨fun hb => ?_, fun hb => ?_⟩
  · have hk0 : 0 < k := by simpa using hb
    obtain ⟨k, rfl⟩ : ∃ k', k = k' + 1 := ⟨k - 1, by lia⟩
    have hx : (lInner l i)[k]? = some ((lInner l i)[k]) := List.getElem?_eq_getElem (by lia)
    walk_at "w"
    refine y_at hx (by lia) (by lia) fun _ => ?_
    walk_at "w"
    refine y_in (byte_lt _).1 (byte_lt _).2 ?_
    rw [byte_back]
    walk_at "w"
    refine ⟨fun hb => ?_, fun hb => ?_⟩
    · have hs : starB (lInner l i)[k] = true := by rw [← starB_in]; exact hb
      walk_at "w"
      rename St _ _ _ _ _ _ _ => S₇
      have e : (((k + 1 : Nat) : Int) - 1) = (k : Nat) := by lia
      rw [e] at S₇
      exact hJ k _ (Nat.lt_succ_self k) ⟨⟨_, S₇⟩, by rw [← rs_star hx hs]; exact hrs, by lia⟩
    · have hs : starB (lInner l i)[k] = false := by rw [← starB_in]; exact hb
      have e := rs_end hx hs
      rw [hrs] at e
      rw [← e] at S₆
      walk_at "w"
      exact law_delay_rest D r2 hz fin q0 q1 hpos h₅ S₆
  · have hk0 : k = 0 := by simpa using hb
    have e : rs (lInner l i) = k := by rw [← hrs, hk0]; rfl
    rw [← e] at S₆
    walk_at "w"
    exact law_delay_rest D r2 hz fin q0 q1 hpos h₅ S₆

end
section
open PySem PySem.W PyProof.Rows PySem.Calls PySem.Spec PySem.SeqAt LCg
set_option Elab.async false
set_option linter.unusedVariables false
set_option maxRecDepth 100000
set_option maxHeartbeats 4000000

structure Form (l : List UInt8) (i : Nat) (a f T rest : List UInt8) : Prop where
  at0 : cut l i (i + 2) = [36, 60]
  is : l.drop (i + 2) = a ++ (f ++ (T ++ 62 :: rest))
  ne : a ≠ []
  ad : a.all digB = true
  fr : f = [] ∨ ∃ c, f = [46, c] ∧ digB c = true
  st : T.all starB = true
theorem dig_star {x : UInt8} (h : starB x = true) : digB x = false := by
  unfold starB at h
  simp at h
  rcases h with rfl | rfl <;> decide +kernel
theorem takeWhile_app {p : UInt8 → Bool} {a b : List UInt8} (ha : a.all p = true) (hb : ∀ x r, b = x :: r → p x = false) : (a ++ b).takeWhile p = a := by
  induction a with
  | nil => cases b with
    | nil => rfl
    | cons x r => simp [hb x r rfl]
  | cons y a ih =>
    rw [List.all_cons, Bool.and_eq_true] at ha
    rw [List.cons_append, List.takeWhile_cons, if_pos ha.1, ih ha.2]
theorem drop_add (l : List UInt8) {n m : Nat} {a b : List UInt8} (h : l.drop n = a ++ b) (hm : m = n + a.length) : l.drop m = b := by
  subst hm
  rw [← List.drop_drop, h, List.drop_left]
theorem cut_head {l : List UInt8} {n : Nat} {x : UInt8} {r : List UInt8} (h : l.drop n = x :: r) : cut l n (n + 1) = [x] := by
  unfold cut; rw [h, Nat.add_sub_cancel_left]; rfl
theorem get_head {l : List UInt8} {n : Nat} {x : UInt8} {r : List UInt8} (h : l.drop n = x :: r) : l[n]? = some x := by
  have := List.getElem?_drop (xs := l) (i := n) (j := 0)
  rw [h] at this
  simpa using this.symm
noncomputable def frV : List UInt8 → Nat
  | [_, c] => c.toNat - 48
  | _ => 0
theorem dAt_form {l : List UInt8} {i : Nat} {a f T rest : List UInt8} (F : Form l i a f T rest) :
    dAt l i = some (vals a 0 * 10 + frV f, T.contains 42, T.contains 47, i + 2 + a.length + f.length + T.length + 1) := by
  obtain ⟨at0, is, ne, ad, fr, st⟩ := F
  have hstop : ∀ x r, f ++ (T ++ 62 :: rest) = x :: r → digB x = false := fun x r e => by
    rcases fr with rfl | ⟨c, rfl, hc⟩
    · cases T with
      | nil => cases e; decide +kernel
      | cons y T => cases e; rw [List.all_cons, Bool.and_eq_true] at st; exact dig_star st.1
    · cases e; decide +kernel
  have hdigs : digs l (i + 2) = a := by unfold digs; rw [is]; exact takeWhile_app ad hstop
  have hdig : dig l (i + 2) = true := by
    cases a with
    | nil => exact (ne rfl).elim
    | cons x a =>
      rw [List.all_cons, Bool.and_eq_true] at ad
      unfold dig
      rw [get_head is]
      exact ad.1
  have hP : dP l i = i + 2 + a.length := by unfold dP; rw [hdigs]
  have hN : dN l i = vals a 0 * 10 := by unfold dN; rw [hdigs]
  have dropP : l.drop (dP l i) = f ++ (T ++ 62 :: rest) := drop_add l is hP
  have hTp : dTp l i = (vals a 0 * 10 + frV f, i + 2 + a.length + f.length) := by
    unfold dTp
    rcases fr with rfl | ⟨c, rfl, hc⟩
    · rw [if_neg, hN, hP]
      · simp [frV]
      · rintro ⟨e, _⟩
        cases T with
        | nil =>
          have := cut_head (x := 62) (r := rest) dropP
          rw [this] at e; cases e
        | cons y T =>
          have := cut_head (x := y) (r := T ++ 62 :: rest) dropP
          rw [this] at e
          cases e
          rw [List.all_cons, Bool.and_eq_true] at st
          exact absurd st.1 (by decide +kernel)
    · have h1 : l.drop (dP l i) = [46] ++ (c :: (T ++ 62 :: rest)) := dropP
      have h2 := drop_add l h1 (m := dP l i + 1) rfl
      have hd : dig l (dP l i + 1) = true := by unfold dig; rw [get_head h2]; exact hc
      rw [if_pos ⟨cut_head (x := 46) (r := c :: (T ++ 62 :: rest)) dropP, hd⟩, hN, hP, List.getD_eq_getElem?_getD]
      rw [hP] at h2
      rw [get_head h2]
      simp [frV]
      exact Nat.add_sub_assoc (digB_lo hc).1 _
  have dropT : l.drop (dTp l i).2 = T ++ 62 :: rest := by
    refine drop_add l (a := a ++ f) (n := i + 2) ?_ ?_
    · rw [is]; simp
    · rw [hTp]; simp; lia
  have hst : stars l (dTp l i).2 = T := by
    unfold stars
    rw [dropT]
    exact takeWhile_app st fun x r e => by cases e; decide +kernel
  have hE : dEnd l i = i + 2 + a.length + f.length + T.length := by unfold dEnd; rw [hst, hTp]
  have dropE : l.drop (dEnd l i) = 62 :: rest := by
    refine drop_add l (n := (dTp l i).2) dropT ?_
    rw [hE, hTp]
  unfold dAt
  rw [if_pos ⟨at0, hdig⟩, if_pos (cut_head dropE), hst, hE, hTp]
theorem tw_drop (p : UInt8 → Bool) (l : List UInt8) (n : Nat) : l.drop n = (l.drop n).takeWhile p ++ l.drop (n + ((l.drop n).takeWhile p).length) := by
  rw [← List.drop_drop]
  generalize l.drop n = x
  induction x with
  | nil => rfl
  | cons y r ih =>
    rw [List.takeWhile_cons]
    split
    · rw [List.length_cons, List.drop_succ_cons, List.cons_append, ← ih]
    · rfl
theorem form_dAt {l : List UInt8} {i : Nat} {x} (h : dAt l i = some x) : ∃ a f T rest, Form l i a f T rest := by
  unfold dAt at h
  split at h
  · rename_i h0
    split at h
    · rename_i h1
      have da : l.drop (i + 2) = digs l (i + 2) ++ l.drop (dP l i) := tw_drop digB l (i + 2)
      have ds : l.drop (dTp l i).2 = stars l (dTp l i).2 ++ l.drop (dEnd l i) := tw_drop starB l (dTp l i).2
      have de : ∃ rest, l.drop (dEnd l i) = 62 :: rest := by
        rw [cut1] at h1
        cases hx : l[dEnd l i]? with
        | none => rw [hx] at h1; cases h1
        | some y =>
          rw [hx] at h1; cases h1
          obtain ⟨hi, e⟩ := List.getElem?_eq_some_iff.mp hx
          exact ⟨_, by rw [List.drop_eq_getElem_cons hi, e]⟩
      obtain ⟨rest, de⟩ := de
      have ne : digs l (i + 2) ≠ [] := by
        obtain ⟨y, hy, hd⟩ := dig_at h0.2
        rw [digs_step hy hd]; simp
      have all_tw : ∀ (p : UInt8 → Bool) (l : List UInt8), (l.takeWhile p).all p = true := fun p l => by
        induction l with
        | nil => rfl
        | cons x r ih => rw [List.takeWhile_cons]; split <;> simp_all
      have fin : ∀ f, l.drop (dP l i) = f ++ l.drop (dTp l i).2 → (f = [] ∨ ∃ c, f = [46, c] ∧ digB c = true) → ∃ a f T rest, Form l i a f T rest := fun f hf hfr =>
        ⟨digs l (i + 2), f, stars l (dTp l i).2, rest, h0.1, by rw [da, hf, ds, de], ne, all_tw _ _, hfr, all_tw _ _⟩
      by_cases hc : cut l (dP l i) (dP l i + 1) = [46] ∧ dig l (dP l i + 1) = true
      · have e : (dTp l i).2 = dP l i + 2 := by unfold dTp; rw [if_pos hc]
        obtain ⟨c, hcx, hcd⟩ := dig_at hc.2
        refine fin [46, c] ?_ (.inr ⟨c, rfl, hcd⟩)
        rw [e]
        have h46 : l[dP l i]? = some 46 := by
          have := hc.1
          rw [cut1] at this
          cases hx : l[dP l i]? with
          | none => rw [hx] at this; cases this
          | some y => rw [hx] at this; cases this; rfl
        obtain ⟨hi, e1⟩ := List.getElem?_eq_some_iff.mp h46
        obtain ⟨hi', e2⟩ := List.getElem?_eq_some_iff.mp hcx
        rw [List.drop_eq_getElem_cons hi, List.drop_eq_getElem_cons hi', e1, e2]; rfl
      · have e : (dTp l i).2 = dP l i := by unfold dTp; rw [if_neg hc]
        exact fin [] (by rw [e]; rfl) (.inl rfl)
    · cases h
  · cases h

theorem ext1 (l : List UInt8) (c : UInt8) {i : Nat} (hi : i < l.length) : (l.toArray.extract i (i + 1) == #[c]) = (l[i] == c) := by
  have key : (l.toArray.extract i (i + 1)) = #[l[i]] := by
    apply Array.ext'
    simp only [Array.toList_extract, List.extract_eq_drop_take', List.toList_toArray]
    rw [List.drop_take, Nat.add_sub_cancel_left, List.drop_eq_getElem_cons hi]; rfl
  rw [key]
  generalize l[i] = x
  by_cases hc : x = c
  · subst hc; simp
  · simp
theorem findFrom_idx (l : List UInt8) (c : UInt8) (i : Nat) : findFrom l c i = ((l.drop i).findIdx? (· == c)).map (i + ·) := by
  unfold findFrom
  rw [show (List.map (· + i) (List.range (l.length + 1 - (i + 1)))) = List.range' i (l.length - i) by
    rw [List.range_eq_range', show (fun x : Nat => x + i) = (fun x => i + x) from funext fun x => Nat.add_comm _ _, List.map_add_range']; congr 1; lia]
  have go : ∀ n i, i + n = l.length → (List.range' i n).find? (fun j => l.toArray.extract j (j + 1) == #[c]) = ((l.drop i).findIdx? (· == c)).map (i + ·) := fun n => by
    induction n with
    | zero => intro i hi; rw [List.drop_of_length_le (by lia)]; rfl
    | succ n ih =>
      intro i hi
      have hil : i < l.length := by lia
      rw [List.range'_succ, List.find?_cons, ext1 l c hil, List.drop_eq_getElem_cons hil, List.findIdx?_cons, ih (i + 1) (by lia)]
      cases h : l[i] == c with
      | true => simp
      | false =>
        simp only [Bool.false_eq_true, if_false, Option.map_map]
        congr 1
        funext x
        exact Nat.add_right_comm i 1 x
  by_cases hi : i ≤ l.length
  · exact go _ i (Nat.add_sub_of_le hi)
  · have hi := Nat.le_of_lt (Nat.not_le.mp hi)
    rw [Nat.sub_eq_zero_of_le hi, List.drop_of_length_le hi]; rfl
theorem idx_app {c : UInt8} {Y rest : List UInt8} (h : c ∉ Y) : (Y ++ c :: rest).findIdx? (· == c) = some Y.length := by
  induction Y with
  | nil =>
    show (c :: rest).findIdx? _ = _
    rw [List.findIdx?_cons, if_pos (by simp)]; rfl
  | cons y Y ih =>
    have h1 : ¬ (y == c) = true := fun e => h (by rw [beq_iff_eq.mp e]; exact .head _)
    rw [List.cons_append, List.findIdx?_cons, if_neg h1, ih fun m => h (.tail _ m)]; rfl
theorem idx_some {c : UInt8} : ∀ {x : List UInt8} {k : Nat}, x.findIdx? (· == c) = some k → ∃ Y rest, x = Y ++ c :: rest ∧ c ∉ Y ∧ k = Y.length
  | [], k, h => by simp at h
  | y :: x, k, h => by
    rw [List.findIdx?_cons] at h
    split at h
    · rename_i e
      cases h
      exact ⟨[], x, by rw [beq_iff_eq.mp e]; rfl, (fun m => nomatch m), rfl⟩
    · rename_i e
      cases hx : x.findIdx? (· == c) with
      | none => rw [hx] at h; cases h
      | some k' =>
        rw [hx] at h; cases h
        obtain ⟨Y, rest, e1, e2, e3⟩ := idx_some hx
        refine ⟨y :: Y, rest, by rw [e1]; rfl, fun m => ?_, by rw [e3]; rfl⟩
        rcases List.mem_cons.mp m with rfl | m
        · exact e (by simp)
        · exact e2 m
theorem find_app {l : List UInt8} {c : UInt8} {i : Nat} {Y rest : List UInt8} (h : l.drop i = Y ++ c :: rest) (hn : c ∉ Y) : findInt l c i = (i + Y.length : Nat) := by
  unfold findInt; rw [findFrom_idx, h, idx_app hn]; rfl
theorem find_some {l : List UInt8} {c : UInt8} {i : Nat} (h : 0 ≤ findInt l c i) : ∃ Y rest, l.drop i = Y ++ c :: rest ∧ c ∉ Y ∧ findInt l c i = (i + Y.length : Nat) := by
  unfold findInt at h ⊢
  rw [findFrom_idx] at h ⊢
  cases hx : (l.drop i).findIdx? (· == c) with
  | none => rw [hx] at h; simp at h
  | some k =>
    obtain ⟨Y, rest, e1, e2, rfl⟩ := idx_some hx
    exact ⟨Y, rest, e1, e2, rfl⟩
theorem splitB_app {c : UInt8} {a b : List UInt8} (h : c ∉ a) : splitB c (a ++ b) = match splitB c b with | [] => [] | p :: ps => (a ++ p) :: ps := by
  induction a with
  | nil => rw [List.nil_append]; cases splitB c b <;> rfl
  | cons x a ih =>
    rw [List.cons_append, splitB, if_neg fun e => h (by rw [e]; exact .head _), ih fun m => h (.tail _ m)]
    have := splitB_ne (c := c) b
    cases hs : splitB c b with
    | nil => exact (this hs).elim
    | cons p ps => rfl
theorem splitB_one {c : UInt8} : ∀ {K p : List UInt8}, splitB c K = [p] → K = p
  | [], p, h => by simp [splitB] at h; exact h.symm
  | x :: r, p, h => by
    unfold splitB at h
    split at h
    · exact absurd (List.cons.inj h).2 (splitB_ne r)
    · split at h
      · rename_i hs; exact (splitB_ne r hs).elim
      · rename_i q qs hs
        obtain ⟨h1, h2⟩ := List.cons.inj h
        subst h2
        rw [splitB_one hs]; exact h1
theorem splitB_two {c : UInt8} : ∀ {K p q : List UInt8}, splitB c K = [p, q] → K = p ++ c :: q
  | [], p, q, h => by simp [splitB] at h
  | x :: r, p, q, h => by
    unfold splitB at h
    split at h
    · rename_i e
      obtain ⟨h1, h2⟩ := List.cons.inj h
      rw [← h1, splitB_one h2, e]; rfl
    · split at h
      · rename_i hs; exact (splitB_ne r hs).elim
      · rename_i q' qs hs
        obtain ⟨h1, h2⟩ := List.cons.inj h
        subst h2
        rw [splitB_two hs, ← h1]; rfl
theorem figs_ok {p : List UInt8} (h : ¬ figs p < 0) : p ≠ [] ∧ p.all digB = true ∧ figs p = (vals p 0 : Nat) := by
  unfold figs at h ⊢
  split at h
  · lia
  · rename_i hn
    rw [if_neg hn]
    refine ⟨fun e => hn (.inl e), ?_, rfl⟩
    cases hp : p.all digB with
    | true => rfl
    | false => exact (hn (.inr hp)).elim
theorem figs_of {p : List UInt8} (h1 : p ≠ []) (h2 : p.all digB = true) : figs p = (vals p 0 : Nat) := by
  unfold figs
  rw [if_neg]
  rintro (e | e)
  · exact h1 e
  · rw [h2] at e; cases e
theorem rs_app {K T : List UInt8} (hT : T.all starB = true) (hK : ∀ x, K.getLast? = some x → starB x = false) : rs (K ++ T) = K.length := by
  unfold rs
  rw [List.reverse_append]
  have hT' : T.reverse.all starB = true := by rw [List.all_reverse]; exact hT
  have : (T.reverse ++ K.reverse).dropWhile starB = K.reverse := by
    generalize T.reverse = t at hT'
    induction t with
    | nil =>
      rw [List.nil_append]
      cases hk : K.reverse with
      | nil => rfl
      | cons x r =>
        have : K.getLast? = some x := by rw [List.getLast?_eq_head?_reverse, hk]; rfl
        rw [List.dropWhile_cons, hK x this, if_neg (by decide)]
    | cons y t ih =>
      rw [List.all_cons, Bool.and_eq_true] at hT'
      rw [List.cons_append, List.dropWhile_cons, if_pos hT'.1, ih hT'.2]
  rw [this, List.length_reverse]
theorem all_tw (p : UInt8 → Bool) (l : List UInt8) : (l.takeWhile p).all p = true := by
  induction l with
  | nil => rfl
  | cons x r ih => rw [List.takeWhile_cons]; split <;> simp_all
theorem rs_tail (Y : List UInt8) : (Y.drop (rs Y)).all starB = true := by
  unfold rs
  have h1 := List.takeWhile_append_dropWhile (p := starB) (l := Y.reverse)
  have h2 : Y = (Y.reverse.dropWhile starB).reverse ++ (Y.reverse.takeWhile starB).reverse := by
    rw [← List.reverse_append, h1, List.reverse_reverse]
  have h3 : Y.drop (Y.reverse.dropWhile starB).length = (Y.reverse.takeWhile starB).reverse := by
    conv => lhs; rw [h2]
    have : (List.dropWhile starB ((Y.reverse.dropWhile starB).reverse ++ (Y.reverse.takeWhile starB).reverse).reverse).length = ((Y.reverse.dropWhile starB).reverse).length := by rw [← h2, List.length_reverse]
    rw [this, List.drop_left]
  rw [h3, List.all_reverse]
  exact all_tw _ _
theorem cut2 {l : List UInt8} {i : Nat} (h : cut l i (i + 2) = [36, 60]) : l.drop i = 36 :: 60 :: l.drop (i + 2) := by
  unfold cut at h
  rw [Nat.add_sub_cancel_left] at h
  rw [← List.drop_drop]
  generalize l.drop i = x at h
  match x, h with
  | a :: b :: r, h => simp at h; rw [h.1, h.2]; rfl
noncomputable def upD (x : Nat × Bool × Bool × Nat) : Int × Bool × Bool × Int := (x.1, x.2.1, x.2.2.1, x.2.2.2)
theorem no_in {p : UInt8 → Bool} {c : UInt8} {a : List UInt8} (ha : a.all p = true) (hc : p c = false) : c ∉ a := fun m => by
  have := List.all_eq_true.mp ha c m
  rw [hc] at this; cases this
theorem lawD_form {l : List UInt8} {i : Nat} {a f T rest : List UInt8} (F : Form l i a f T rest) : lawD l i = (dAt l i).map upD := by
  rw [dAt_form F]
  obtain ⟨at0, is, ne, ad, fr, st⟩ := F
  have c0 := cut2 at0
  rw [is] at c0
  have hf62 : (62 : UInt8) ∉ f := by
    rcases fr with rfl | ⟨c, rfl, hc⟩
    · exact fun m => nomatch m
    · intro m
      rcases List.mem_cons.mp m with e | m
      · cases e
      · obtain rfl := List.mem_singleton.mp m; exact absurd hc (by decide +kernel)
  have hY : l.drop i = (36 :: 60 :: (a ++ (f ++ T))) ++ 62 :: rest := by rw [c0]; simp
  have hn : (62 : UInt8) ∉ (36 :: 60 :: (a ++ (f ++ T)) : List UInt8) := by
    have h1 := no_in ad (c := 62) (by decide +kernel)
    have h2 := no_in st (c := 62) (by decide +kernel)
    simp [h1, h2, hf62]
  have hfind := find_app hY hn
  have hI : lInner l i = a ++ (f ++ T) := by
    unfold lInner
    rw [hfind, Int.toNat_natCast]
    unfold cut
    rw [is, show a ++ (f ++ (T ++ 62 :: rest)) = (a ++ (f ++ T)) ++ 62 :: rest by simp]
    rw [show i + (36 :: 60 :: (a ++ (f ++ T)) : List UInt8).length - (i + 2) = (a ++ (f ++ T)).length from (Nat.add_sub_add_left i _ 2).trans (Nat.add_sub_cancel (n := (a ++ (f ++ T)).length) (m := 2)), List.take_left]
  have hlast : ∀ x, (a ++ f).getLast? = some x → starB x = false := fun x hx => by
    have : digB x = true := by
      rcases fr with rfl | ⟨c, rfl, hc⟩
      · rw [List.append_nil] at hx
        exact List.all_eq_true.mp ad x (List.mem_of_getLast? hx)
      · simp at hx; rw [← hx]; exact hc
    cases hs : starB x with
    | false => rfl
    | true => rw [dig_star hs] at this; cases this
  have hrs : rs (lInner l i) = (a ++ f).length := by rw [hI, ← List.append_assoc]; exact rs_app st hlast
  have hT : lTail l i = T := by unfold lTail; rw [hrs, hI, ← List.append_assoc, List.drop_left]
  have h46 : (46 : UInt8) ∉ a := no_in ad (by decide +kernel)
  have hPs : lPs l i = splitB 46 (a ++ f) := by unfold lPs; rw [hrs, hI, ← List.append_assoc, List.take_left]
  have hval := figs_of ne ad
  unfold lawD
  rw [if_pos ⟨at0, by rw [hfind]; lia⟩, hPs, splitB_app h46, hT, hfind]
  rcases fr with rfl | ⟨c, rfl, hc⟩
  · simp [splitB, hval, upD, frV]
    lia
  · have e : splitB 46 [46, c] = [[], [c]] := by
      have : c ≠ 46 := fun e => by rw [e] at hc; exact absurd hc (by decide +kernel)
      simp [splitB, this]
    rw [e]
    have hvc : figs [c] = (vals [c] 0 : Nat) := figs_of (by simp) (by simpa using hc)
    have := digB_lo hc
    simp [hval, hvc, upD, frV, vals]
    lia
theorem two_head {Y rest r : List UInt8} (h : Y ++ 62 :: rest = 36 :: 60 :: r) : ∃ Y', Y = 36 :: 60 :: Y' ∧ r = Y' ++ 62 :: rest := by
  rcases Y with _ | ⟨x, _ | ⟨y, Y'⟩⟩
  · cases h
  · cases h
  · injection h with a h
    injection h with b h
    exact ⟨Y', by rw [a, b], h.symm⟩
theorem form_lawD {l : List UInt8} {i : Nat} {x} (h : lawD l i = some x) : ∃ a f T rest, Form l i a f T rest := by
  unfold lawD at h
  split at h
  · rename_i h0
    split at h
    · cases h
    · rename_i h1
      split at h
      · cases h
      · rename_i h2
        obtain ⟨Y, rest, e1, e2, e3⟩ := find_some h0.2
        have c0 := cut2 h0.1
        rw [e1] at c0
        obtain ⟨Y', rfl, e4⟩ : ∃ Y', Y = 36 :: 60 :: Y' ∧ l.drop (i + 2) = Y' ++ 62 :: rest := two_head c0
        have hI : lInner l i = Y' := by
          unfold lInner
          rw [e3, Int.toNat_natCast]
          unfold cut
          rw [e4, show i + (36 :: 60 :: Y' : List UInt8).length - (i + 2) = Y'.length from (Nat.add_sub_add_left i _ 2).trans (Nat.add_sub_cancel (n := Y'.length) (m := 2)), List.take_left]
        have hKT : Y' = Y'.take (rs Y') ++ Y'.drop (rs Y') := (List.take_append_drop _ _).symm
        have hPs : lPs l i = splitB 46 (Y'.take (rs Y')) := by unfold lPs; rw [hI]
        rw [hPs] at h1 h2
        generalize hK : Y'.take (rs Y') = K at h1 h2 hKT
        have fin : ∀ a f, K = a ++ f → a ≠ [] → a.all digB = true → (f = [] ∨ ∃ c, f = [46, c] ∧ digB c = true) → ∃ a f T rest, Form l i a f T rest := fun a f e h3 h4 h5 =>
          ⟨a, f, Y'.drop (rs Y'), rest, h0.1, by rw [e4]; conv => lhs; rw [hKT, e]
                                                 simp, h3, h4, h5, rs_tail Y'⟩
        match hs : splitB 46 K with
        | [] => exact (splitB_ne _ hs).elim
        | [p] =>
          rw [hs] at h1
          obtain ⟨f1, f2, _⟩ := figs_ok (p := p) fun e => h1 (.inr e)
          exact fin p [] (by rw [splitB_one hs]; simp) f1 f2 (.inl rfl)
        | [p, q] =>
          rw [hs] at h1 h2
          obtain ⟨f1, f2, _⟩ := figs_ok (p := p) fun e => h1 (.inr e)
          have hq1 : q.length = 1 := Decidable.byContradiction fun e => h2 ⟨rfl, .inl e⟩
          obtain ⟨g1, g2, _⟩ := figs_ok (p := q) fun e => h2 ⟨rfl, .inr e⟩
          obtain ⟨c, rfl⟩ := List.length_eq_one_iff.mp hq1
          exact fin p [46, c] (splitB_two hs) f1 f2 (.inr ⟨c, rfl, by simpa using g2⟩)
        | p :: q :: r :: rs =>
          rw [hs] at h1
          exact (h1 (.inl (by simp))).elim
  · cases h
/- the law's own cutting is the program's -/
theorem lawD_dAt (l : List UInt8) (i : Nat) : lawD l i = (dAt l i).map upD := by
  cases hd : dAt l i with
  | some x =>
    obtain ⟨a, f, T, rest, F⟩ := form_dAt hd
    rw [lawD_form F, hd]
  | none =>
    cases hl : lawD l i with
    | none => rfl
    | some x =>
      obtain ⟨a, f, T, rest, F⟩ := form_lawD hl
      rw [lawD_form F, hd] at hl
      cases hl

end
section
open PySem PySem.W PyProof.Rows PySem.Calls PySem.Spec PySem.SeqAt LCg
set_option Elab.async false
set_option linter.unusedVariables false
set_option maxRecDepth 100000
set_option maxHeartbeats 4000000

/- a written tuple of the heap, checked item by item -/
noncomputable def tupP (o : Obj) : Option { vs : List Value // OTup o vs } := match o with
  | ⟨.type "tuple", none, .seq items _, ⟨[]⟩⟩ => some ⟨items.toList, _, rfl⟩
  | _ => none
noncomputable def tupL (o : Obj) : Option (List Value) := (tupP o).map (·.1)
theorem tupL_of {o : Obj} {vs : List Value} (h : tupL o = some vs) : OTup o vs := by
  obtain ⟨x, _, e⟩ := Option.map_eq_some_iff.mp h
  exact e ▸ x.2
theorem any_some {α : Type} {o : Option α} {f : α → Bool} (e : o.any f = true) : ∃ x, o = some x ∧ f x = true := by
  cases o with
  | none => cases e
  | some x => exact ⟨x, rfl, e⟩
theorem at_tup {K : Frag} {a : Addr} {h : Heap} {f : List Value → Bool} (X : K.In h) (e : ((K.lookup a).bind tupL).any f = true) : ∃ o vs, K.lookup a = some o ∧ h.get? a = some o ∧ OTup o vs ∧ f vs = true := by
  obtain ⟨vs, e1, e2⟩ := any_some e
  obtain ⟨o, e3, e4⟩ := Option.bind_eq_some_iff.mp e1
  exact ⟨o, vs, e3, X _ _ e3, tupL_of e4, e2⟩
noncomputable def tupAll (K : Frag) (a : Addr) (n : Nat) (f : Value → Bool) : Bool := ((K.lookup a).bind tupL).any fun vs => vs.length == n && vs.all f
theorem tupAll_of {K : Frag} {a : Addr} {n : Nat} {f : Value → Bool} {h : Heap} (X : K.In h) (e : tupAll K a n f = true) : ∃ o vs, h.get? a = some o ∧ OTup o vs ∧ vs.length = n ∧ ∀ v ∈ vs, f v = true := by
  obtain ⟨o, vs, _, h1, h2, e⟩ := at_tup X e
  rw [Bool.and_eq_true] at e
  exact ⟨o, vs, h1, h2, beq_iff_eq.mp e.1, List.all_eq_true.mp e.2⟩
noncomputable def bytesIn (ls : List (List UInt8)) : Value → Bool
  | .bytes b _ => ls.contains b.toList
  | _ => false
theorem bytesIn_of {ls : List (List UInt8)} {v : Value} (h : bytesIn ls v = true) : ∃ b t, v = .bytes b.toArray t ∧ b ∈ ls := by
  unfold bytesIn at h
  split at h
  · rename_i b t
    exact ⟨b.toList, t, by simp, List.contains_iff_mem.mp h⟩
  · cases h
noncomputable def pieces : List (List UInt8) := [[97], [36, 60, 53, 62], [36, 60, 49, 50, 46, 53, 42, 62], [36, 60, 48, 48, 55, 42, 47, 62], [36, 60, 51, 47, 47, 42, 42, 62], [36], [60, 53, 62], [36, 60], [36, 60, 46, 53, 62], [36, 60, 53, 46, 62], [36, 60, 53, 46, 50, 53, 62], [36, 60, 62], [53, 62], [36, 60, 57, 47, 120, 62], [37, 112, 49], [36, 60, 48, 46, 48, 62], [42, 62]]
theorem k_pieces (P : Params) : tupAll (KF P) 222 17 (bytesIn pieces) = true := by kernel_rfl
/- figures stand in short rows -/
noncomputable def Oct (l : List UInt8) : Prop := (digs l 0).length ≤ 1 ∧ ∀ i, (digs l i).length ≤ 3
theorem digs_shift (p l : List UInt8) (i : Nat) (hi : p.length ≤ i) : digs (p ++ l) i = digs l (i - p.length) := by
  unfold digs
  rw [List.drop_append, List.drop_of_length_le hi]; rfl
theorem oct_nil : Oct [] := ⟨by simp [digs], fun i => by simp [digs]⟩
theorem digs_pre (p l : List UInt8) (i : Nat) (hi : i < p.length) : digs (p ++ l) i = if (p.drop i).all digB then p.drop i ++ digs l 0 else digs p i := by
  unfold digs
  rw [List.drop_append_of_le_length (Nat.le_of_lt hi), List.drop_zero]
  generalize p.drop i = x
  induction x with
  | nil => simp
  | cons y r ih =>
    rw [List.cons_append, List.takeWhile_cons, List.takeWhile_cons, List.all_cons]
    cases hy : digB y with
    | false => simp
    | true =>
      rw [if_pos rfl, if_pos rfl, ih, Bool.true_and]
      split <;> rfl
noncomputable def pieceOk (p : List UInt8) : Bool := (List.range p.length).all fun i => if (p.drop i).all digB then decide ((p.drop i).length ≤ 2 ∧ 0 < i) else decide ((digs p i).length ≤ 3 ∧ (i = 0 → (digs p i).length ≤ 1))
theorem pieces_ok : ∀ p ∈ pieces, pieceOk p = true ∧ p.length ≤ 8 := by decide +kernel
theorem oct_app {p l : List UInt8} (hp : pieceOk p = true) (hl : Oct l) : Oct (p ++ l) := by
  have key : ∀ i, (digs (p ++ l) i).length ≤ 3 ∧ (i = 0 → (digs (p ++ l) i).length ≤ 1) := fun i => by
    by_cases hi : i < p.length
    · have := List.all_eq_true.mp hp i (List.mem_range.mpr hi)
      rw [digs_pre p l i hi]
      by_cases ha : (p.drop i).all digB = true
      · rw [if_pos ha] at this ⊢
        have := of_decide_eq_true this
        have := hl.1
        rw [List.length_append]
        lia
      · rw [if_neg ha] at this ⊢
        exact of_decide_eq_true this
    · rw [digs_shift p l i (by lia)]
      refine ⟨hl.2 _, fun e => ?_⟩
      subst e
      rw [Nat.zero_sub]
      exact hl.1
  exact ⟨(key 0).2 rfl, fun i => (key i).1⟩
theorem oct_flat : ∀ {ls : List (List UInt8)}, (∀ p ∈ ls, p ∈ pieces) → Oct ls.flatten ∧ ls.flatten.length ≤ 8 * ls.length
  | [], _ => ⟨oct_nil, by simp⟩
  | p :: ls, h => by
    obtain ⟨h1, h2⟩ := oct_flat (ls := ls) fun q hq => h q (.tail _ hq)
    obtain ⟨h3, h4⟩ := pieces_ok p (h p (.head _))
    refine ⟨oct_app h3 h1, ?_⟩
    rw [List.flatten_cons, List.length_append, List.length_cons]
    lia
theorem vals_lt : ∀ (ds : List UInt8) (acc : Nat), ds.all digB = true → vals ds acc + 1 ≤ (acc + 1) * 10 ^ ds.length
  | [], acc, _ => by simp [vals]
  | x :: ds, acc, h => by
    rw [List.all_cons, Bool.and_eq_true] at h
    have hx := digB_lo h.1
    have := vals_lt ds (acc * 10 + x.toNat - 48) h.2
    show vals ds (acc * 10 + x.toNat - 48) + 1 ≤ _
    refine Nat.le_trans this ?_
    rw [List.length_cons, Nat.pow_succ]
    have e : (acc + 1) * (10 ^ ds.length * 10) = ((acc + 1) * 10) * 10 ^ ds.length := by rw [Nat.mul_assoc, Nat.mul_comm (10 ^ ds.length) 10]
    rw [e]
    refine Nat.mul_le_mul_right _ ?_
    rw [Nat.add_sub_assoc hx.1, Nat.add_mul acc 1 10]
    exact Nat.add_le_add_left (Nat.succ_le_succ (Nat.sub_le_sub_right hx.2 48)) _
theorem dAt_small {l : List UInt8} (hl : Oct l) {i n : Nat} {e k : Bool} {p : Nat} (h : dAt l i = some (n, e, k, p)) : n ≤ 10000 := by
  obtain ⟨a, f, T, rest, F⟩ := form_dAt h
  rw [dAt_form F] at h
  cases h
  have hd : digs l (i + 2) = a := by
    have h1 : ∀ x r, f ++ (T ++ 62 :: rest) = x :: r → digB x = false := fun x r e => by
      rcases F.fr with rfl | ⟨c, rfl, hc⟩
      · cases hT : T with
        | nil => rw [hT] at e; cases e; decide +kernel
        | cons y T' =>
          rw [hT] at e; cases e
          have := F.st
          rw [hT, List.all_cons, Bool.and_eq_true] at this
          exact dig_star this.1
      · cases e; decide +kernel
    unfold digs; rw [F.is]; exact takeWhile_app F.ad h1
  have hlen := hl.2 (i + 2)
  rw [hd] at hlen
  have hv := vals_lt a 0 F.ad
  have hp : 10 ^ a.length ≤ 10 ^ 3 := Nat.pow_le_pow_right (by decide) hlen
  have hf : frV f ≤ 9 := by
    rcases F.fr with rfl | ⟨c, rfl, hc⟩
    · exact Nat.zero_le _
    · exact Nat.sub_le_sub_right (digB_lo hc).2 48
  have : vals a 0 + 1 ≤ 1000 := by
    have := Nat.le_trans hv (Nat.mul_le_mul_left _ hp)
    simpa using this
  lia

end
section
theorem c_plain {w : World} {hw h : Heap} {A : Around} {Q : Value → Heap → Prop} {E : Value → Heap → Prop} {l : List UInt8} {t : Tok}
    (D : Wo w hw h) (r : Rm A 1) (q : ∀ h', h.StaysIn h' → Q (.bool (!(l.contains 37))) h') : Wp (MM w) A (call (.ref 164) [.bytes l.toArray t] []) Q E h := by
  refine enter0 (body := bodyOf (stAt 14)) (binds := [("octets", .bytes l.toArray t)]) D r.dep (kf164 _) (kc164 _) (fun s hs => BindsTo.of_eq (by rfl)) rfl [("octets", .bytes l.toArray t)] rfl (fun h₁ S => ?_) (locs rfl) (by decide +kernel) rfl rfl rfl
  refine st_Return ?_
  walk_at "w"
  refine y_notin (by decide) (by decide) ?_
  have := q _ S.stay
  show Q (Value.bool _) h₁
  simpa using this

theorem const_out {w : World} {hw h₀ h : Heap} {L : Addr} {m : Loc} {l k : Led} {T : Addr} {oT : Obj} (S : St w hw h₀ L h m (l ++ k)) (hT : hw.get? T = some oT) : T ∉ adr l := fun hm => by
  obtain ⟨p, hp, rfl⟩ := List.mem_map.mp hm
  rw [(S.own' p hp).2] at hT; cases hT
theorem cells296 {n : Nat} : cellsFrom (n + 1) fd296.scope.names [] = ([("many", n + 1 + 1), ("well", n + 1)] : List (Str × Addr)) := by with_unfolding_all rfl

end
section
noncomputable def rowDv (r : Row4) : Dv := .tup [.int (r.1 : Nat), .int (r.2.1 : Nat), .bool r.2.2.1, .bool r.2.2.2]
theorem rd_tup4 {h : Heap} {a : Addr} {o : Obj} {v₁ v₂ v₃ v₄ : Value} {d₁ d₂ d₃ d₄ : Dv} (ho : h.get? a = some o) (hv : OTup o [v₁, v₂, v₃, v₄]) (r₁ : Rd h v₁ d₁) (r₂ : Rd h v₂ d₂) (r₃ : Rd h v₃ d₃) (r₄ : Rd h v₄ d₄) : Rd h (.ref a) (.tup [d₁, d₂, d₃, d₄]) :=
  .tup ho hv rfl fun j v d h1 h2 => by
    match j with
    | 0 => cases h1; cases h2; exact r₁
    | 1 => cases h1; cases h2; exact r₂
    | 2 => cases h1; cases h2; exact r₃
    | 3 => cases h1; cases h2; exact r₄
    | j + 4 => cases h1
theorem rd_tup2 {h : Heap} {a : Addr} {o : Obj} {v₁ v₂ : Value} {d₁ d₂ : Dv} (ho : h.get? a = some o) (hv : OTup o [v₁, v₂]) (r₁ : Rd h v₁ d₁) (r₂ : Rd h v₂ d₂) : Rd h (.ref a) (.tup [d₁, d₂]) :=
  .tup ho hv rfl fun j v d h1 h2 => by
    match j with
    | 0 => cases h1; cases h2; exact r₁
    | 1 => cases h1; cases h2; exact r₂
    | j + 2 => cases h1
theorem rd_rows {h : Heap} {a : Addr} {o : Obj} {tl : Led} {rs : List Row4} (ho : h.get? a = some o) (hv : OLst o (refs tl)) (hr : Each RowIs tl rs) (hm : ∀ p ∈ tl, h.get? p.1 = some p.2) : Rd h (.ref a) (.lst (rs.map rowDv)) :=
  .lst ho hv (by rw [refs, List.length_map, List.length_map, hr.len]) fun j v d h1 h2 => by
    refine gh fun CC kk => ?_
    obtain ⟨p, r, hp, _, hrj, rfl, t₁, t₂, hrow⟩ := hr.at h1
    refine kk ?_
    clear kk CC
    rw [List.getElem?_map, hrj] at h2
    cases h2
    exact rd_tup4 (hm p hp) hrow (.int _ _) (.int _ _) (.bool _) (.bool _)
theorem eqv_self4 (n p : Int) (e k : Bool) : (Dv.tup [.int n, .bool e, .bool k, .int p]).eqv (.tup [.int n, .bool e, .bool k, .int p]) = true := by
  show (n == n && (e == e && (k == k && (p == p && true)))) = true
  rw [beq_self_eq_true, beq_self_eq_true, beq_self_eq_true, beq_self_eq_true]
  rfl

noncomputable abbrev drEnv (L : Addr) : Env := callEnvC fd296 L 296
theorem dr_loop {w : World} {hw h₀ h : Heap} {A : Around} {Q : Value → Heap → Prop} {l : List UInt8} {t : Tok} {L : Addr} {led : Led}
    (r : Rm A 6) (hz : l.length ≤ 48) (S : St w hw h₀ L h [("octets", .bytes l.toArray t)] led)
    (k : ∀ h' ra ro tl ex tj tf, OLst ro (refs tl) → Each RowIs tl (dOf l).2 → (ex = [] ∨ ∃ v, ex = ([("found", v)] : Loc)) →
      St w hw h₀ L h' (([("octets", .bytes l.toArray t), ("at", .int l.length tj), ("rows", .ref ra), ("left", .bytes (dOf l).1.toArray tf)] : Loc) ++ ex) ((ra, ro) :: (tl ++ led)) →
      Wp (MM w) A (execs ((bodyOf (stAt 31)).drop 3) (drEnv L)) (fun fl h' => Q (flv fl) h') (fun _ _ => False) h') :
    Wp (MM w) A (execs ((bodyOf (stAt 31)).drop 1) (drEnv L)) (fun fl h' => Q (flv fl) h') (fun _ _ => False) h := by
  refine st_AssignSwap r.hd ?_
  walk_at "w"
  refine s_list S (Nat.le_of_ble_eq_true rfl) fun ra ro h₂ hro S₂ => ?_
  walk_at "w"
  refine s_tuple S₂ (Nat.le_of_ble_eq_true rfl) fun a o h₃ hO S₃ => ?_
  refine ⟨a, o, _, rfl, S₃.get (.head _), hO, rfl, fun h₄ k₄ => ?_⟩
  have S₄ := (S₃.grow k₄).sub (List.sublist_cons_self _ _)
  show Wp _ _ (assignInOrder ((["at", "rows", "left"] : List Str).map fun n => bindName (drEnv L) n) [.int 0 _, .ref ra, .bytes _ _]) _ _ _
  refine b_cons ?_
  walk_at "w"
  refine b_cons ?_
  walk_at "w"
  refine b_cons ?_
  walk_at "w"
  refine b_nil ?_
  walk_at "w"
  rename St _ _ _ _ _ _ _ => S₅
  refine st_While (I := fun (x : List UInt8 × List Row4 × Nat) h' => (∃ tj tf ro tl ex, St w hw h₀ L h' (([("octets", .bytes l.toArray t), ("at", .int x.2.2 tj), ("rows", .ref ra), ("left", .bytes x.1.toArray tf)] : Loc) ++ ex) ((ra, ro) :: (tl ++ led)) ∧ (ex = [] ∨ ∃ v, ex = ([("found", v)] : Loc)) ∧ OLst ro (refs tl) ∧ Each RowIs tl x.2.1) ∧
      dGo l (l.length - x.2.2) x.2.2 x.1 x.2.1 = dOf l ∧ x.1.length ≤ x.2.2 ∧ x.2.1.length ≤ x.2.2 ∧ x.2.2 ≤ l.length)
    (μ := fun x => l.length - x.2.2) (x₀ := ([], [], 0)) ⟨⟨_, _, ro, [], [], S₅, .inl rfl, hro, .nil⟩, rfl, Nat.le_refl _, Nat.le_refl _, Nat.zero_le _⟩ ?_
  rintro ⟨f, rs, j⟩ J hJ h₆ qq1
  refine gh fun CC kk => ?_
  obtain ⟨⟨tj, tf, ro, tl, ex, S₆, hex, hro, hrs⟩, hg, hf, hr, hj⟩ := qq1
  refine kk ?_
  clear kk CC
  dsimp only at S₆ hrs hg hf hr hj ⊢
  have hput : ∀ v, put "found" v (([("octets", .bytes l.toArray t), ("at", .int j tj), ("rows", .ref ra), ("left", .bytes f.toArray tf)] : Loc) ++ ex) = ([("octets", .bytes l.toArray t), ("at", .int j tj), ("rows", .ref ra), ("left", .bytes f.toArray tf)] : Loc) ++ ([("found", v)] : Loc) := fun v => put_opt (by kernel_rfl) hex
  walk_at "w"
  refine y_len (by simp; lia) fun _ => ?_
  walk_at "w"
  refine ⟨fun hlt => ?_, fun hlt => ?_⟩
  · have hlt : j < l.length := by simpa using hlt
    have hx := List.getElem?_eq_getElem hlt
    have hLD := lawD_dAt l j
    walk_at "w"
    refine c_law_delay S₆.wd (r.mono (by decide)) (by lia) rfl (fun h₇ k₇ hd => ?_) fun h₇ a₇ o₇ t₁ t₂ n e kp p X₇ hd hO₇ => ?_
    · have S₇ := S₆.grow k₇
      have hdA : dAt l j = none := by
        rw [hLD] at hd
        cases hc : dAt l j with
        | none => rfl
        | some x => rw [hc] at hd; cases hd
      walk_at "w"
      rename St _ _ _ _ _ _ _ => S₈
      rw [hput] at S₈
      refine st_If ?_
      walk_at "w"
      refine c_delay_at S₈.wd (r.mono (by decide)) (by lia) rfl (fun h₉ k₉ _ => ?_) fun h₉ a₉ o₉ _ _ n e kp p _ hd' _ => by rw [hdA] at hd'; cases hd'
      have S₉ := S₈.grow k₉
      walk_at "w"
      refine d_ne (n := 0) .none .none rfl rfl (by have := r.un; lia) ?_
      rw [show Dv.none.eqv .none = true from rfl, Bool.not_true]
      walk_at "w"
      refine st_If ?_
      walk_at "w"
      refine y_cut (i := j) (j := j + 1) S₉ (by lia) rfl rfl fun h₁₀ _ S₁₀ => ?_
      have hc1 : cut l j (j + 1) = [l[j]] := by rw [cut1, hx]
      rw [hc1]
      walk_at "w"
      refine y_add (by simp; lia) fun tf' => ?_
      walk_at "w"
      rename St _ _ _ _ _ _ _ => S₁₁
      refine hJ (f ++ [l[j]], rs, j + 1) _ (Nat.sub_succ_lt_self l.length j hlt) ⟨⟨_, _, ro, tl, [("found", .none)], S₁₁, .inr ⟨_, rfl⟩, hro, hrs⟩, ?_, by simp; lia, by dsimp only; lia, by dsimp only; lia⟩
      dsimp only
      rw [← dGo_none hx hdA]; exact hg
    · have S₇ := S₆.call0 X₇
      obtain ⟨⟨n, e, kp, p⟩, hdA, he⟩ : ∃ x, dAt l j = some x ∧ upD x = (n, e, kp, p) := by
        rw [hLD] at hd
        cases hc : dAt l j with
        | none => rw [hc] at hd; cases hd
        | some x => rw [hc] at hd; exact ⟨x, rfl, Option.some.inj hd⟩
      cases he
      have hb := dAt_bound hdA
      walk_at "w"
      rename St _ _ _ _ _ _ _ => S₈
      rw [hput] at S₈
      refine st_If ?_
      walk_at "w"
      refine c_delay_at S₈.wd (r.mono (by decide)) (by lia) rfl (fun h₉ k₉ hn => by rw [hdA] at hn; cases hn) fun h₉ a₉ o₉ t₃ t₄ n' e' kp' p' X₉ hd' hO₉ => ?_
      rw [hdA] at hd'
      cases hd'
      have S₉ := S₈.call0 X₉
      walk_at "w"
      refine d_ne (n := 1) (rd_tup4 (S₉.get (.head _)) hO₉ (.int _ _) (.bool _) (.bool _) (.int _ _)) (rd_tup4 (S₉.get (.tail _ (.head _))) hO₇ (.int _ _) (.bool _) (.bool _) (.int _ _)) rfl rfl (by have := r.un; lia) ?_
      rw [eqv_self4, Bool.not_true]
      have S₉ : St w hw h₀ L h₉ _ ((a₇, o₇) :: (ra, ro) :: (tl ++ led)) := S₉.sub (List.sublist_cons_self _ _)
      walk_at "w"
      refine st_If ?_
      walk_at "w"
      have g₉ := S₉.get (.head _)
      refine s_mappend hro (S₉.get (.tail _ (.head _))) ?_
      walk_at "w"
      refine y_len (by simp; lia) fun _ => ?_
      walk_at "w"
      refine s_titem (k := 0) hO₇ g₉ rfl (Nat.le_of_ble_eq_true rfl) ?_
      walk_at "w"
      refine s_titem (k := 1) hO₇ g₉ rfl (Nat.le_of_ble_eq_true rfl) ?_
      walk_at "w"
      refine s_titem (k := 2) hO₇ g₉ rfl (Nat.le_of_ble_eq_true rfl) ?_
      walk_at "w"
      refine s_tuple S₉ (Nat.le_of_ble_eq_true rfl) fun a₁₀ o₁₀ h₁₀ hO₁₀ S₁₀ => ?_
      walk_at "w"
      refine s_append S₁₀ hro (.tail _ (.tail _ (.head _))) (by rw [refs, List.length_map, hrs.len]; lia) fun ro' h₁₁ hro' u₁₁ => ?_
      have S₁₁ := u₁₁ _ (.tail (.tail .head))
      walk_at "w"
      refine s_titem (k := 3) hO₇ (S₁₁.get (.tail _ (.head _))) rfl (Nat.le_of_ble_eq_true rfl) ?_
      walk_at "w"
      rename St _ _ _ _ _ _ _ => S₁₂
      have S₁₃ := (S₁₂.sub (l' := (a₁₀, o₁₀) :: (ra, ro') :: (tl ++ led)) (.cons_cons _ (List.sublist_cons_self _ _))).perm (l' := (ra, ro') :: ((tl ++ [(a₁₀, o₁₀)]) ++ led)) (by
        refine (List.Perm.swap _ _ _).trans (List.Perm.cons _ ?_)
        rw [List.append_assoc]
        exact List.perm_middle.symm)
      refine hJ (f, rs ++ [(f.length, n, e, kp)], p) _ (Nat.sub_lt_sub_left hlt hb.1) ⟨⟨_, _, ro', tl ++ [(a₁₀, o₁₀)], [("found", .ref a₇)], S₁₃, .inr ⟨_, rfl⟩, by rw [refs_snoc]; exact hro', hrs.snoc ⟨_, _, by simpa using hO₁₀⟩⟩, ?_, by dsimp only; lia, by simp; lia, by dsimp only; lia⟩
      dsimp only
      rw [← dGo_some hdA]; exact hg
  · have hlt : ¬ j < l.length := by simpa using hlt
    obtain rfl : j = l.length := by lia
    rw [dGo_end (by lia)] at hg
    refine execs_nil ?_
    refine Seq_next ?_
    refine k _ ra ro tl ex tj tf hro ?_ hex ?_
    · rw [← hg]; exact hrs
    · rw [← hg]; exact S₆

end
section
theorem inlong_sum {is : List Int} (h : ∀ x ∈ is, 0 ≤ x ∧ x ≤ 1000000) (hl : is.length ≤ 1000) : (∀ j, j ≤ is.length → InLong (is.take j).sum) ∧ ∀ x ∈ is, InLong x := by
  have key : ∀ (l : List Int), (∀ x ∈ l, 0 ≤ x ∧ x ≤ 1000000) → 0 ≤ l.sum ∧ l.sum ≤ 1000000 * l.length := fun l => by
    induction l with
    | nil => intro _; simp
    | cons y l ih =>
      intro hy
      have h1 := ih fun x hx => hy x (.tail _ hx)
      have h2 := hy y (.head _)
      rw [List.sum_cons, List.length_cons]
      lia
  refine ⟨fun j hj => ?_, fun x hx => ?_⟩
  · have := key (is.take j) fun x hx => h x (List.mem_of_mem_take hx)
    have hlen : (is.take j).length ≤ 1000 := by rw [List.length_take]; lia
    unfold InLong
    lia
  · have := h x hx
    unfold InLong
    lia
noncomputable def rowT (n : Nat) (r : Row4) : Int := ((r.2.1 * (if r.2.2.1 then n else 1) : Nat) : Int)
theorem tot_sum (n : Nat) : ∀ rs : List Row4, (rs.map (rowT n)).sum = (totOf n rs : Nat)
  | [] => rfl
  | r :: rs => by
    rw [List.map_cons, List.sum_cons, tot_sum n rs, totOf, rowT]
    split <;> simp
noncomputable def rowU (r : Row4) : Int := (r.2.1 : Nat)
theorem tot_one : ∀ rs : List Row4, (rs.map rowU).sum = (totOf 1 rs : Nat)
  | [] => rfl
  | r :: rs => by
    rw [List.map_cons, List.sum_cons, tot_one rs, totOf, rowU]
    split <;> simp
theorem dGo_small {l : List UInt8} (hl : Oct l) : ∀ n i f rs, (∀ r ∈ rs, r.2.1 ≤ 10000) → ∀ r ∈ (dGo l n i f rs).2, r.2.1 ≤ 10000 := fun n => by
  induction n with
  | zero => intro i f rs h; exact h
  | succ n ih =>
    intro i f rs h
    unfold dGo
    split
    · cases hd : dAt l i with
      | none => exact ih _ _ _ h
      | some x =>
        obtain ⟨t, e, k, p⟩ := x
        refine ih _ _ _ fun r hr => ?_
        rcases List.mem_append.mp hr with hr | hr
        · exact h r hr
        · obtain rfl := List.mem_singleton.mp hr
          exact dAt_small hl hd
    · exact h
theorem dOf_small {l : List UInt8} (hl : Oct l) : ∀ r ∈ (dOf l).2, r.2.1 ≤ 10000 := dGo_small hl _ _ _ _ (fun _ h => nomatch h)
theorem dGo_len {l : List UInt8} : ∀ n i f rs, f.length ≤ i → rs.length ≤ i → i ≤ l.length → (dGo l n i f rs).1.length ≤ l.length ∧ (dGo l n i f rs).2.length ≤ l.length := fun n => by
  induction n with
  | zero => intro i f rs h1 h2 h3; exact ⟨by show f.length ≤ _; lia, by show rs.length ≤ _; lia⟩
  | succ n ih =>
    intro i f rs h1 h2 h3
    unfold dGo
    split
    · cases hd : dAt l i with
      | none => exact ih _ _ _ (by simp; lia) (by lia) (by lia)
      | some x =>
        obtain ⟨t, e, k, p⟩ := x
        have := dAt_bound hd
        exact ih _ _ _ (by lia) (by simp; lia) (by lia)
    · exact ⟨by show f.length ≤ _; lia, by show rs.length ≤ _; lia⟩
theorem dOf_len (l : List UInt8) : (dOf l).1.length ≤ l.length ∧ (dOf l).2.length ≤ l.length := dGo_len _ _ _ _ (Nat.le_refl _) (Nat.le_refl _) (Nat.zero_le _)
theorem Up.app {a : Addr} {o o' : Obj} {l l' k : Led} (u : Up a o o' l l') : Up a o o' (k ++ l) (k ++ l') := by
  induction k with
  | nil => exact u
  | cons p k ih => exact .tail ih
theorem IL.row {vs : List Value} {rs : List Row4} {i : Nat} {r : Row4} {g : Row4 → Int} {t : Tok} (x : IL vs ((rs.take i).map g)) (h : rs[i]? = some r) : IL (vs ++ [.int (g r) t]) ((rs.take (i + 1)).map g) := by
  rw [List.take_add_one, h, List.map_append]
  exact x.snoc
/- sum([... for place, tenths, is_each, is_kept in rows]) -/
theorem dr_total {w : World} {hw h₀ h : Heap} {A : Around} {Q : Value → Heap → Prop} {l : List UInt8} {L : Addr} {n : Nat} {tm : Tok} {ra cm : Addr} {ro o2 : Obj} {tl k : Led} {m : Loc}
    (r : Rm A 6) (hn : n ≤ 30) (hol : Oct l) (hz : l.length ≤ 48) (hro : OLst ro (refs tl)) (hrs : Each RowIs tl (dOf l).2) (hcm : o2.data = .cell (some (.int n tm))) (S : St w hw h₀ L h m ([(ra, ro)] ++ (tl ++ (cm, o2) :: k))) (hL : cm = L + 1 + 1)
    (hra : lk m "rows" = some (.ref ra))
    (q : ∀ h' t', St w hw h₀ L h' m ([(ra, ro)] ++ (tl ++ (cm, o2) :: k)) → Q (.int (totOf n (dOf l).2 : Nat) t') h') :
    ∀ st, ((bodyOf (stAt 31)).drop 4).head? = some st → ∀ x p e pp, st = .Assign [.Name x p] e pp → Wp (MM w) A (eval e (drEnv L)) Q (fun _ _ => False) h := by
  intro st hst x p e pp he
  subst he
  cases hst
  walk_at "w"
  refine e_ListComp (hw := hw) (h₀ := h₀) (L := L) (m := m) (cl := [("many", L + 1 + 1)]) ?_ (hclos := by with_unfolding_all rfl)
  refine nc_local S hra ?_
  refine compOn_l r.hd (fun i ys l' => l' = tl ++ (cm, o2) :: k ∧ IL ys (((dOf l).2.take i).map (rowT n))) S hro (.head _) (by rw [refs, List.length_map, hrs.len]; have := (dOf_len l).2; lia) ⟨rfl, .nil⟩ ?_ ?_
  · rintro i v ys l' I o C oC Dd oD mc h₂ hv ⟨rfl, hys⟩ hit hD hC S₂
    obtain ⟨pr, row, hp, hpi, hri, rfl, t₁, t₂, hrow⟩ := hrs.at hv
    refine go_list hit ?_
    refine u_tuple r.hd (S₂.get (.tail _ (.tail _ (.tail _ (.tail _ (List.mem_append_left _ hp)))))) hrow fun h₃ k₃ => ?_
    have S₃ := S₂.grow k₃
    walk_at "w"
    refine c_store S₃ (.tail _ (.tail _ (.head _))) hC fun oC1 h₄ hC1 u₄ => ?_
    have S₄ := u₄ _ (.tail (.tail .head))
    walk_at "w"
    refine c_store S₄ (.tail _ (.tail _ (.head _))) hC1 fun oC2 h₅ hC2 u₅ => ?_
    have S₅ := u₅ _ (.tail (.tail .head))
    walk_at "w"
    refine c_store S₅ (.tail _ (.tail _ (.head _))) hC2 fun oC3 h₆ hC3 u₆ => ?_
    have S₆ := u₆ _ (.tail (.tail .head))
    walk_at "w"
    refine c_store S₆ (.tail _ (.tail _ (.head _))) hC3 fun oC4 h₇ hC4 u₇ => ?_
    have S₇ := u₇ _ (.tail (.tail .head))
    clear S₃ S₄ S₅ S₆ hC hC1 hC2 hC3
    walk_at "w"
    refine Wp_here (J := fun v => ∃ tv, v = .int ((if row.2.2.1 then n else 1 : Nat) : Int) tv) ?_ ?_
    · refine e_IfExp ?_
      walk_at "w"
      refine ⟨fun hb => ?_, fun hb => ?_⟩
      · rw [if_pos hb]
        refine c_cell (c := L + 1 + 1) S₇ (by rw [← hL]; simp) hcm ?_
        exact ⟨rfl, _, rfl⟩
      · rw [if_neg (by rw [hb]; decide)]
        walk_at "w"
        exact ⟨rfl, _, rfl⟩
    rintro v ⟨tv, rfl⟩
    refine i_mul (IntMulOk.of_right (bits_small (by split <;> lia))) fun tv' => ?_
    refine ⟨oC4, _, _, hC4, S₇, rfl, ?_⟩
    have e : ((row.2.1 : Nat) : Int) * ((if row.2.2.1 then n else 1 : Nat) : Int) = rowT n row := by unfold rowT; push_cast; rfl
    rw [e]
    exact hys.row hri
  · rintro Dd oD ys l' h₂ hD hys ⟨rfl, hil⟩ S₂
    have hlen : (refs tl).length = (dOf l).2.length := by rw [refs, List.length_map, hrs.len]
    rw [hlen, List.take_length] at hil
    have hb := inlong_sum (is := (dOf l).2.map (rowT n)) (fun x hx => by
      obtain ⟨row, hr, rfl⟩ := List.mem_map.mp hx
      have := dOf_small hol row hr
      unfold rowT
      have h1 : (if row.2.2.1 = true then n else 1) ≤ 30 := by split <;> lia
      have h2 : row.2.1 * (if row.2.2.1 = true then n else 1) ≤ 10000 * 30 := Nat.mul_le_mul this h1
      lia) (by rw [List.length_map]; have := (dOf_len l).2; lia)
    walk_at "w"
    refine s_sum r.hd (S₂.get (.head _)) hD hil hb.1 hb.2 fun h₃ t₃ k₃ => ?_
    rw [tot_sum]
    exact q _ _ ((S₂.grow k₃).sub (List.sublist_cons_self _ _))

end
section
theorem cmp_rows : ∀ rs : List Row4, Dv.cmpOkL (rs.map rowDv) (rs.map rowDv) = true
  | [] => rfl
  | r :: rs => by
    show (true && Dv.cmpOkL (rs.map rowDv) (rs.map rowDv)) = true
    rw [cmp_rows rs]; rfl
theorem flat_rows : ∀ rs : List Row4, Dv.flatL (rs.map rowDv) 1 = true
  | [] => rfl
  | r :: rs => by
    show (true && Dv.flatL (rs.map rowDv) 1) = true
    rw [flat_rows rs]; rfl
noncomputable def drDv (f : List UInt8) (rs : List Row4) : Dv := .tup [.bytes f, .lst (rs.map rowDv)]
theorem cmp_dr (f : List UInt8) (rs : List Row4) : (drDv f rs).cmpOk (drDv f rs) = true := by
  show (true && (Dv.cmpOkL (rs.map rowDv) (rs.map rowDv) && true)) = true
  rw [cmp_rows]; rfl
theorem flat_dr (f : List UInt8) (rs : List Row4) : (drDv f rs).flat 3 = true := by
  show (true && (Dv.flatL (rs.map rowDv) 1 && true)) = true
  rw [flat_rows]; rfl
theorem dr_rest {w : World} {hw h₀ h : Heap} {A : Around} {Q : Value → Heap → Prop} {l : List UInt8} {t tj tf : Tok} {L wa ca cm cw ra : Addr} {ow oc o1 o2 ro : Obj} {tl : Led} {ex : Loc}
    (r : Rm A 6) (hol : Oct l) (hz : l.length ≤ 48) (hW : WellAt ow oc ca) (hcw : o1.data = .cell (some (.ref wa))) (hcm : o2.data = .cell none) (e1 : cw = L + 1) (e2 : cm = L + 1 + 1) (hex : ex = [] ∨ ∃ v, ex = ([("found", v)] : Loc))
    (hro : OLst ro (refs tl)) (hrs : Each RowIs tl (dOf l).2)
    (S : St w hw h₀ L h (([("octets", .bytes l.toArray t), ("at", .int l.length tj), ("rows", .ref ra), ("left", .bytes (dOf l).1.toArray tf)] : Loc) ++ ex) ((ra, ro) :: (tl ++ [(wa, ow), (ca, oc), (cm, o2), (cw, o1)])))
    (q : ∀ h' ow' m k, WellAt ow' oc ca → St w hw h₀ L h' m ([(wa, ow'), (ca, oc)] ++ k) → Q (.bool true) h') :
    Wp (MM w) A (execs ((bodyOf (stAt 31)).drop 3) (drEnv L)) (fun fl h' => Q (flv fl) h') (fun _ _ => False) h := by
  obtain ⟨hfl, hrl⟩ := dOf_len l
  have S := S.perm (pf_app (p := (ra, ro) :: tl) (l := [(wa, ow), (ca, oc)]) (k := [(cm, o2), (cw, o1)]) (.refl _))
  refine st_Assign ?_
  walk_at "w"
  refine nc_cell (c := L + 1) S (by rw [← e1]; simp) hcw ?_
  walk_at "w"
  refine c_draw (n := 30) S.wd (r.mono (by decide)) S.own' S.nd' hW (by decide) (by decide) fun h₂ ow₂ d t₂ hd hW₂ X₂ => ?_
  have S₂ := St.call S X₂
  walk_at "w"
  rw [show (1 : Int) + (d : Int) = ((1 + d : Nat) : Int) by lia]
  generalize hn : 1 + d = n
  have hn : n ≤ 30 := by lia
  refine nc_cellset (c := L + 1 + 1) (oc := o2) S₂ (by rw [← e2]; simp) hcm fun o2 h₃ hcm u₃ => ?_
  rw [← e2] at u₃
  have S₃ := u₃ _ (Up.app (Up.app (k := (ra, ro) :: tl) .head))
  have S₃ : St w hw h₀ L h₃ _ ([(ra, ro)] ++ (tl ++ (cm, o2) :: [(cw, o1), (wa, ow₂), (ca, oc)])) := S₃.perm (by
    refine List.perm_append_comm.trans ?_
    simp)
  refine st_Assign ?_
  refine dr_total (cm := cm) (o2 := o2) (l := l) (n := n) r hn hol hz hro hrs hcm S₃ e2 rfl (fun h₄ t₄ S₄ => ?_) _ rfl _ _ _ _ rfl
  refine nc_store (fd := fd296) S₄ fun h₅ S₅ => ?_
  have own : ∀ {h' m}, St w hw h₀ L h' m ([(ra, ro)] ++ (tl ++ (cm, o2) :: [(cw, o1), (wa, ow₂), (ca, oc)])) → ∀ p ∈ tl, h'.get? p.1 = some p.2 := fun S p hp => S.get (List.mem_append_right _ (List.mem_append_left _ hp))
  have rdR : ∀ {h' m}, St w hw h₀ L h' m ([(ra, ro)] ++ (tl ++ (cm, o2) :: [(cw, o1), (wa, ow₂), (ca, oc)])) → Rd h' (.ref ra) (.lst ((dOf l).2.map rowDv)) := fun S => rd_rows (S.get (.head _)) hro hrs (own S)
  refine st_If_cut (fun h' => ∃ m', St w hw h₀ L h' (put "total" (.int (totOf n (dOf l).2 : Nat) t₄) m') ([(ra, ro)] ++ (tl ++ (cm, o2) :: [(cw, o1), (wa, ow₂), (ca, oc)])) ∧ m' = ([("octets", .bytes l.toArray t), ("at", .int l.length tj), ("rows", .ref ra), ("left", .bytes (dOf l).1.toArray tf)] : Loc) ++ ex) ?_ ?_
  · walk_at "w"
    refine c_delays_of S₅.wd (r.mono (by decide)) (by lia) fun h₆ a₆ o₆ da₆ od₆ tl₆ t₆ X₆ hO₆ hod₆ hrs₆ => ?_
    have S₆ := S₅.call0 X₆
    walk_at "w"
    refine s_tuple S₆ (Nat.le_of_ble_eq_true rfl) fun a₇ o₇ h₇ hO₇ S₇ => ?_
    have rA : Rd h₇ (.ref a₆) (drDv (dOf l).1 (dOf l).2) := rd_tup2 (S₇.get (.tail _ (.head _))) hO₆ (.bytes _ _) (rd_rows (S₇.get (.tail _ (.tail _ (.head _)))) hod₆ hrs₆ fun p hp => S₇.get (.tail _ (.tail _ (.tail _ (List.mem_append_left _ hp)))))
    have rB : Rd h₇ (.ref a₇) (drDv (dOf l).1 (dOf l).2) := rd_tup2 (S₇.get (.head _)) hO₇ (.bytes _ _) (rd_rows (S₇.get (.tail _ (List.mem_append_right _ (.head _)))) hro hrs fun p hp => S₇.get (.tail _ (List.mem_append_right _ (List.mem_append_right _ (List.mem_append_left _ hp)))))
    refine d_ne (n := 3) rA rB (cmp_dr _ _) (flat_dr _ _) (by have := r.un; lia) ?_
    rw [rA.det rA, Bool.not_true]
    have S₈ : St w hw h₀ L h₇ _ ([(ra, ro)] ++ (tl ++ (cm, o2) :: [(cw, o1), (wa, ow₂), (ca, oc)])) := S₇.sub (List.Sublist.cons _ (List.sublist_append_right _ _))
    walk_at "w"
    refine c_without S₈.wd (r.mono (by decide)) (by lia) fun h₉ _ k₉ => ?_
    have S₉ := S₈.grow k₉
    walk_at "w"
    rw [show ((dOf l).1.toArray.toList != (dOf l).1.toArray.toList) = false by simp]
    walk_at "w"
    exact ⟨_, S₉, rfl⟩
  rintro h₆ qq1
  refine gh fun CC kk => ?_
  obtain ⟨m', S₆, rfl⟩ := qq1
  refine kk ?_
  clear kk CC
  refine st_If_cut (fun h' => ∃ m', St w hw h₀ L h' (put "total" (.int (totOf n (dOf l).2 : Nat) t₄) m') ([(ra, ro)] ++ (tl ++ (cm, o2) :: [(cw, o1), (wa, ow₂), (ca, oc)])) ∧ m' = ([("octets", .bytes l.toArray t), ("at", .int l.length tj), ("rows", .ref ra), ("left", .bytes (dOf l).1.toArray tf)] : Loc) ++ ex) ?_ ?_
  · walk_at "w"
    refine c_plain S₆.wd (r.mono (by decide)) fun h₇ k₇ => ?_
    have S₇ := S₆.grow k₇
    walk_at "w"
    refine y_notin (by decide) (by decide) ?_
    rw [show l.toArray.contains ((37 : Int).toNat.toUInt8) = l.contains 37 by simp]
    refine d_ne (n := 0) (.bool _) (.bool _) rfl rfl (by have := r.un; lia) ?_
    rw [show (Dv.bool (!l.contains 37)).eqv (.bool (!l.contains 37)) = true from beq_self_eq_true (!l.contains 37), Bool.not_true]
    walk_at "w"
    exact ⟨_, S₇, rfl⟩
  rintro h₇ qq1
  refine gh fun CC kk => ?_
  obtain ⟨m', S₇, rfl⟩ := qq1
  refine kk ?_
  clear kk CC
  walk_at "w"
  refine nc_cell (c := L + 1 + 1) S₇ (by rw [← e2]; simp) hcm ?_
  walk_at "w"
  refine c_total S₇.wd (r.mono (by decide)) (by lia) (by lia) fun h₈ _ k₈ => ?_
  have S₈ := S₇.grow k₈
  walk_at "w"
  rw [beq_self_eq_true]
  walk_at "w"
  refine c_total1 S₈.wd (r.mono (by decide)) (by lia) fun h₉ _ k₉ => ?_
  have S₉ := S₈.grow k₉
  walk_at "w"
  refine e_ListComp (hw := hw) (h₀ := h₀) (L := L) (m := put "total" (.int (totOf n (dOf l).2 : Nat) t₄) (([("octets", .bytes l.toArray t), ("at", .int l.length tj), ("rows", .ref ra), ("left", .bytes (dOf l).1.toArray tf)] : Loc) ++ ex)) (cl := []) ?_ (hclos := by with_unfolding_all rfl)
  walk_at "w"
  refine compOn_l r.hd (fun i ys l' => l' = tl ++ (cm, o2) :: [(cw, o1), (wa, ow₂), (ca, oc)] ∧ IL ys (((dOf l).2.take i).map rowU)) S₉ hro (.head _) (by rw [refs, List.length_map, hrs.len]; lia) ⟨rfl, .nil⟩ ?_ ?_
  · rintro i v ys l' I o C oC Dd oD mc h₂ hv ⟨rfl, hys⟩ hit hD hC S₂
    refine gh fun CC kk => ?_
    obtain ⟨pr, row, hp, hpi, hri, rfl, t₁, t₂, hrow⟩ := hrs.at hv
    refine kk ?_
    clear kk CC
    refine go_name ?_
    refine as_name ?_
    refine c_store S₂ (.tail _ (.tail _ (.head _))) hC fun oC1 h₄ hC1 u₄ => ?_
    have S₄ := u₄ _ (.tail (.tail .head))
    clear S₂ hC
    walk_at "w"
    refine s_titem (k := 1) hrow (S₄.get (.tail _ (.tail _ (.tail _ (.tail _ (List.mem_append_left _ hp)))))) rfl (Nat.le_of_ble_eq_true rfl) ?_
    exact ⟨oC1, _, _, hC1, S₄, rfl, hys.row (g := rowU) hri⟩
  · rintro Dd oD ys l' h₂ hD hys ⟨rfl, hil⟩ S₂
    have hlen : (refs tl).length = (dOf l).2.length := by rw [refs, List.length_map, hrs.len]
    rw [hlen, List.take_length] at hil
    have hb := inlong_sum (is := (dOf l).2.map rowU) (fun x hx => by
      refine gh fun CC kk => ?_
      obtain ⟨row, hr, rfl⟩ := List.mem_map.mp hx
      refine kk ?_
      clear kk CC
      have := dOf_small hol row hr
      unfold rowU
      lia) (by rw [List.length_map]; lia)
    walk_at "w"
    refine s_sum r.hd (S₂.get (.head _)) hD hil hb.1 hb.2 fun h₃ t₃ k₃ => ?_
    rw [tot_one]
    have S₃ := S₂.grow k₃
    walk_at "w"
    rw [beq_self_eq_true]
    have S₄ : St w hw h₀ L h₃ _ ([(wa, ow₂), (ca, oc)] ++ ([(ra, ro)] ++ tl ++ [(cm, o2), (cw, o1)])) := (S₃.sub (List.sublist_cons_self _ _)).perm (by
      show ([(ra, ro)] ++ (tl ++ ((cm, o2) :: [(cw, o1), (wa, ow₂), (ca, oc)]))).Perm _
      refine List.Perm.trans ?_ List.perm_append_comm
      simp)
    exact q _ ow₂ _ _ hW₂ S₄

end
section
theorem c_delays_right {w : World} {hw h : Heap} {A : Around} {Q : Value → Heap → Prop} {E : Value → Heap → Prop} {wa ca : Addr} {ow oc : Obj}
    (D : Wo w hw h) (r : Rm A 8) (hl : ∀ p ∈ ([(wa, ow), (ca, oc)] : Led), h.get? p.1 = some p.2 ∧ hw.get? p.1 = none) (nd : (adr [(wa, ow), (ca, oc)]).Nodup) (hW : WellAt ow oc ca)
    (q : ∀ h' ow', WellAt ow' oc ca → Step h [(wa, ow), (ca, oc)] h' [(wa, ow'), (ca, oc)] → Q (.bool true) h') :
    Wp (MM w) A (call (.ref 296) [.ref wa] []) Q E h := by
  refine enter_c (body := bodyOf (stAt 31)) (binds := [("well", .ref wa)]) D [(wa, ow), (ca, oc)] hl nd (kf296 _) (kc296 _) r.dep rfl rfl rfl [] (by with_unfolding_all rfl) (fun x hx => by obtain rfl := List.mem_singleton.mp hx; exact .inr ⟨by with_unfolding_all rfl, by with_unfolding_all rfl⟩) ?_ ?_ rfl rfl rfl
  · rw [cells296]; exact look_two (by decide +kernel)
  intro h₁ cl e1 e2 S
  rw [cells296] at e1 e2
  obtain ⟨o2, o1, rfl, hcm, hcw⟩ := led_two (Nat.succ_ne_self _) e1 (e2 "many" (h.objs.size + 1 + 1) rfl) (e2 "well" (h.objs.size + 1) rfl)
  have hcw : o1.data = .cell (some (.ref wa)) := hcw
  have hcm : o2.data = .cell none := hcm
  have r7 := (r : Rm A (7 + 1)).deeper (env := callEnvC fd296 h.objs.size 296)
  have S : St w hw (hideAll h (adr [(wa, ow), (ca, oc)])) h.objs.size h₁ [] ([(wa, ow), (ca, oc)] ++ [(h.objs.size + 1 + 1, o2), (h.objs.size + 1, o1)]) := St.perm S (pf_app (p := [(h.objs.size + 1 + 1, o2), (h.objs.size + 1, o1)]) (k := []) (.refl _))
  generalize hcme : h.objs.size + 1 + 1 = cm at S
  generalize hcwe : h.objs.size + 1 = cw at S
  obtain ⟨oT, vT, hoT, hvT, hnT, hfT⟩ := tupAll_of D.1.X (k_pieces _)
  refine st_Assign ?_
  walk_at "w"
  refine y_meth slot_bytes_join type_bytes_join ?_
  walk_at "w"
  refine e_ListComp (hw := hw) (h₀ := hideAll h (adr [(wa, ow), (ca, oc)])) (L := h.objs.size) (m := []) (cl := [("well", h.objs.size + 1)]) ?_ (hclos := by with_unfolding_all rfl)
  walk_at "w"
  refine nc_cell (c := h.objs.size + 1) S (by rw [hcwe]; simp) hcw ?_
  walk_at "w"
  refine c_draw (n := 6) S.wd (r7.mono (by decide)) S.own' S.nd' hW (by decide) (by decide) fun h₂ ow₂ d t₂ hd hW₂ X₂ => ?_
  have S₂ := St.call S X₂
  walk_at "w"
  refine call_range S₂ fun rg tr t' h₃ hrg S₃ => ?_
  rw [show (1 : Int) + (d : Int) = ((1 + d : Nat) : Int) by lia] at hrg
  refine compOn_r (n := 1 + d) r7.hd (fun i ys l => ∃ ow_i ls, l = [(wa, ow_i), (ca, oc), (cm, o2), (cw, o1)] ∧ WellAt ow_i oc ca ∧ BL ys ls ∧ ls.length = i ∧ ∀ p ∈ ls, p ∈ pieces) S₃ hrg (by lia) ⟨_, [], rfl, hW₂, .nil, rfl, fun _ h => nomatch h⟩ ?_ ?_
  · rintro i tk ys l I o C oC Dd oD mc h₄ hi ⟨ow₄, ls, rfl, hW₄, hBL, hlen, hpc⟩ hD hC S₄
    refine go_name ?_
    refine as_name ?_
    refine c_store S₄ (.tail _ (.head _)) hC fun oC' h₅ hC' u₅ => ?_
    have S₅ := u₅ _ (.tail .head)
    walk_at "w"
    refine c_cell (c := h.objs.size + 1) S₅ (by rw [hcwe]; simp) hcw ?_
    walk_at "w"
    have S₆ := S₅.perm (pf_app (p := [(I, o), (C, oC'), (Dd, oD)]) (l := [(wa, ow₄), (ca, oc)]) (k := [(cm, o2), (cw, o1)]) (.refl _))
    refine c_pick S₆.wd (r7.mono (by decide)) S₆.own' S₆.nd' hW₄ (S₆.wd.2 _ _ hoT) hvT (const_out S₆ hoT) (by rw [hnT]; decide) (by rw [hnT]; decide) fun h₆ ow₆ v hv hW₆ X₆ => ?_
    have S₇ := (St.call S₆ X₆).perm (pf_app (p := [(I, o), (C, oC'), (Dd, oD)]) (l := [(wa, ow₆), (ca, oc)]) (k := [(cm, o2), (cw, o1)]) (.refl _)).symm
    obtain ⟨b, tb, rfl, hb⟩ := bytesIn_of (hfT v hv)
    exact ⟨oC', _, _, hC', S₇, _, ls ++ [b], rfl, hW₆, hBL.snoc ⟨_, rfl⟩, by simp [hlen], fun p hp => by
      rcases List.mem_append.mp hp with hp | hp
      · exact hpc p hp
      · obtain rfl := List.mem_singleton.mp hp; exact hb⟩
  · rintro Dd oD ys l h₄ hD hys ⟨ow₄, ls, rfl, hW₄, hBL, hlen, hpc⟩ S₄
    obtain ⟨hoct, hlen8⟩ := oct_flat hpc
    walk_at "w"
    refine y_join (S₄.get (.head _)) hD hBL (by lia) fun tO => ?_
    have S₄ := S₄.sub (l' := [(wa, ow₄), (ca, oc), (cm, o2), (cw, o1)]) (List.sublist_cons_self _ _)
    have hz : ls.flatten.length ≤ 48 := by lia
    generalize ls.flatten = oct at hoct hz
    refine nc_store (fd := fd296) S₄ fun h₅ S₅ => ?_
    refine dr_loop (r7.mono (by decide)) hz S₅ fun h₆ ra ro tl ex tj tf hro hrs hex S₆ => ?_
    refine dr_rest (r7.mono (by decide)) hoct hz hW₄ hcw hcm hcwe.symm hcme.symm hex hro hrs S₆ fun h₇ ow₇ m k hW₇ S₇ => ?_
    exact q _ ow₇ hW₇ (St.step (S₇.sub (by simp)))

end
section
open PySem PySem.W PyProof.Rows PySem.Calls PySem.Spec PySem.SeqAt LCg
set_option Elab.async false
set_option linter.unusedVariables false
set_option maxRecDepth 100000
set_option maxHeartbeats 4000000

/- a row of a program: is it a parameter's, and which -/
noncomputable def StrRow (p : Addr × Obj) (r : Option Nat) : Prop := ∃ (s : Str) (t : Tok) (rest : List Value), OTup p.2 (.str s t :: rest) ∧ match r with | some n => s = "param" ∧ ∃ u, rest = [.int n u] | none => s ≠ "param"
noncomputable abbrev Fr2 := (Addr × Obj) × (Addr × Obj)
noncomputable def frL (fs : List Fr2) : Led := fs.flatMap fun p => [p.1, p.2]
/- an if that stands open: what its frame holds -/
noncomputable def FrIs (rows : List (Option Nat)) (p : Fr2) (b : Bool) : Prop := ∃ (v : Value) (is : List Int), OLst p.1.2 [v, .ref p.2.1] ∧ (∃ js, OLst p.2.2 js ∧ IL js is) ∧ (∀ i ∈ is, ∃ n : Nat, i = n ∧ rows[n]? = some none) ∧ is.length ≤ rows.length ∧
  (b = false → v = .none) ∧ (b = true → ∃ (k : Nat) (t : Tok), v = .int k t ∧ rows[k]? = some none)
inductive EachF (rows : List (Option Nat)) : List Fr2 → List Bool → Prop where
  | nil : EachF rows [] []
  | cons {p b fs st} : FrIs rows p b → EachF rows fs st → EachF rows (p :: fs) (b :: st)
theorem FrIs.grow {rows : List (Option Nat)} {p : Fr2} {b : Bool} (x : FrIs rows p b) (r : List (Option Nat)) : FrIs (rows ++ r) p b := by
  obtain ⟨v, is, h1, h2, h3, h4, h5, h6⟩ := x
  have up : ∀ n : Nat, rows[n]? = some none → (rows ++ r)[n]? = some none := fun n h => by
    rw [List.getElem?_append_left (List.getElem?_eq_some_iff.mp h).1]; exact h
  exact ⟨v, is, h1, h2, fun i hi => let ⟨n, e, hn⟩ := h3 i hi; ⟨n, e, up n hn⟩, by simp; lia, h5, fun hb => let ⟨k, t, e, hk⟩ := h6 hb; ⟨k, t, e, up k hk⟩⟩
theorem EachF.grow {rows : List (Option Nat)} {fs : List Fr2} {st : List Bool} (x : EachF rows fs st) (r : List (Option Nat)) : EachF (rows ++ r) fs st := by
  induction x with
  | nil => exact .nil
  | cons h _ ih => exact .cons (h.grow r) ih
structure RD where
  dx : Addr
  ra : Addr
  ta : Addr
  oa : Addr
  od : Obj
  ro : Obj
  oo : Obj
  tx : List UInt8
  rowTl : Led
  fs : List Fr2
  rows : List (Option Nat)
noncomputable def RD.led (d : RD) (x : Addr) : Led := (x, instObj 141 d.dx) :: (d.dx, d.od) :: (d.ra, d.ro) :: (d.ta, baObj d.tx) :: (d.oa, d.oo) :: (d.rowTl ++ frL d.fs)
noncomputable abbrev rdLoc (l : List UInt8) (a : Nat) (ra ta oa : Addr) (t₁ t₂ : Tok) : Loc := [("octets", .bytes l.toArray t₁), ("at", .int a t₂), ("rows", .ref ra), ("text", .ref ta), ("opened", .ref oa)]
structure RD.Ok (d : RD) (l : List UInt8) (a B : Nat) (st : List Bool) (ps : List Nat) : Prop where
  hI : ∃ t₁ t₂, IObj d.od (rdLoc l a d.ra d.ta d.oa t₁ t₂)
  hro : OLst d.ro (refs d.rowTl)
  hrows : Each StrRow d.rowTl d.rows
  hps : d.rows.filterMap id = ps
  hoo : OLst d.oo (d.fs.map fun p => .ref p.1.1)
  hfs : EachF d.rows d.fs.reverse st
  hB : d.rowTl.length + d.tx.length + d.fs.length ≤ B
  hz : l.length ≤ 1000000 ∧ B ≤ 2000000

section
variable {w : World} {A : Around} {E : Value → Heap → Prop} {hw h₀ h : Heap} {L x : Addr} {m : Loc} {k : Led} {d : RD} {l : List UInt8} {a B : Nat} {st : List Bool} {ps : List Nat} {expr : Bool}
theorem r_octets {Q : Value → Heap → Prop} (S : St w hw h₀ L h m (d.led x ++ k)) (R : d.Ok l a B st ps) (q : ∀ t, Q (.bytes l.toArray t) h) : Wp (MM w) A (getAttr (.ref x) "octets" expr) Q E h := by
  obtain ⟨t₁, t₂, hI⟩ := R.hI
  exact o_get S.wd (cl_octets _) (S.get (.head _)) (S.get (.tail _ (.head _))) hI rfl rfl (q _)
theorem r_at {Q : Value → Heap → Prop} (S : St w hw h₀ L h m (d.led x ++ k)) (R : d.Ok l a B st ps) (q : ∀ t, Q (.int a t) h) : Wp (MM w) A (getAttr (.ref x) "at" expr) Q E h := by
  obtain ⟨t₁, t₂, hI⟩ := R.hI
  exact o_get S.wd (cl_at _) (S.get (.head _)) (S.get (.tail _ (.head _))) hI rfl rfl (q _)
theorem r_rows {Q : Value → Heap → Prop} (S : St w hw h₀ L h m (d.led x ++ k)) (R : d.Ok l a B st ps) (q : Q (.ref d.ra) h) : Wp (MM w) A (getAttr (.ref x) "rows" expr) Q E h := by
  obtain ⟨t₁, t₂, hI⟩ := R.hI
  exact o_get S.wd (cl_rows _) (S.get (.head _)) (S.get (.tail _ (.head _))) hI rfl rfl q
theorem r_text {Q : Value → Heap → Prop} (S : St w hw h₀ L h m (d.led x ++ k)) (R : d.Ok l a B st ps) (q : Q (.ref d.ta) h) : Wp (MM w) A (getAttr (.ref x) "text" expr) Q E h := by
  obtain ⟨t₁, t₂, hI⟩ := R.hI
  exact o_get S.wd (cl_text _) (S.get (.head _)) (S.get (.tail _ (.head _))) hI rfl rfl q
theorem r_opened {Q : Value → Heap → Prop} (S : St w hw h₀ L h m (d.led x ++ k)) (R : d.Ok l a B st ps) (q : Q (.ref d.oa) h) : Wp (MM w) A (getAttr (.ref x) "opened" expr) Q E h := by
  obtain ⟨t₁, t₂, hI⟩ := R.hI
  exact o_get S.wd (cl_opened _) (S.get (.head _)) (S.get (.tail _ (.head _))) hI rfl rfl q
theorem r_setat {a' : Nat} {i : Int} {t : Tok} {Q : Unit → Heap → Prop} (S : St w hw h₀ L h m (d.led x ++ k)) (R : d.Ok l a B st ps) (hi : i = a') (q : ∀ h' (d' : RD), d'.Ok l a' B st ps → St w hw h₀ L h' m (d'.led x ++ k) → Q () h') : Wp (MM w) A (setAttr (.ref x) "at" (.int i t)) Q E h := by
  subst hi
  obtain ⟨t₁, t₂, hI⟩ := R.hI
  refine o_set S (cl_at _) (.head _) (.tail _ (.head _)) hI (Nat.le_of_ble_eq_true rfl) fun od' h' hI' u => ?_
  exact q h' { d with od := od' } ⟨⟨t₁, t, hI'⟩, R.hro, R.hrows, R.hps, R.hoo, R.hfs, R.hB, R.hz⟩ (u _ (.tail .head))
theorem r_settext {b : Addr} {Q : Unit → Heap → Prop} (S : St w hw h₀ L h m ((b, baObj []) :: (d.led x ++ k))) (R : d.Ok l a B st ps) (q : ∀ h' (d' : RD), d'.Ok l a B st ps → d'.tx = [] → d'.rowTl = d.rowTl → d'.fs = d.fs → St w hw h₀ L h' m (d'.led x ++ k) → Q () h') : Wp (MM w) A (setAttr (.ref x) "text" (.ref b)) Q E h := by
  obtain ⟨t₁, t₂, hI⟩ := R.hI
  refine o_set S (cl_text _) (.tail _ (.head _)) (.tail _ (.tail _ (.head _))) hI (Nat.le_of_ble_eq_true rfl) fun od' h' hI' u => ?_
  have S' := u _ (.tail (.tail .head))
  refine q h' { d with od := od', ta := b, tx := [] } ⟨⟨t₁, t₂, hI'⟩, R.hro, R.hrows, R.hps, R.hoo, R.hfs, by have := R.hB; show d.rowTl.length + 0 + d.fs.length ≤ B; lia, R.hz⟩ rfl rfl rfl ?_
  refine (S'.perm (l' := (x, instObj 141 d.dx) :: (d.dx, od') :: (d.ra, d.ro) :: (b, baObj []) :: (d.ta, baObj d.tx) :: (d.oa, d.oo) :: ((d.rowTl ++ frL d.fs) ++ k)) ?_).sub ?_
  · refine (List.Perm.swap _ _ _).trans (List.Perm.cons _ ?_)
    refine (List.Perm.swap _ _ _).trans (List.Perm.cons _ ?_)
    exact (List.Perm.swap _ _ _)
  · exact .cons_cons _ (.cons_cons _ (.cons_cons _ (.cons_cons _ (List.sublist_cons_self _ _))))
/- a row laid behind the rows -/
theorem r_addrow {T : Addr} {oT : Obj} {r : Option Nat} {Q : Value → Heap → Prop} (S : St w hw h₀ L h m ((T, oT) :: (d.led x ++ k))) (R : d.Ok l a B st ps) (hr : StrRow (T, oT) r) (hB1 : d.rowTl.length + d.tx.length + d.fs.length + 1 ≤ B)
    (q : ∀ h' (d' : RD), d'.Ok l a B st (ps ++ r.toList) → d'.tx = d.tx → d'.rowTl.length = d.rowTl.length + 1 → d'.fs = d.fs → d'.rows = d.rows ++ [r] → d'.ta = d.ta → d'.oa = d.oa → d'.oo = d.oo → St w hw h₀ L h' m (d'.led x ++ k) → Q .none h') : Wp (MM w) A (call (.builtin "list.append") [.ref d.ra, .ref T] []) Q E h := by
  refine s_append S R.hro (.tail _ (.tail _ (.tail _ (.head _)))) (by have := R.hB; have := R.hz; rw [refs, List.length_map]; lia) fun ro' h' hro' u => ?_
  have S' := u _ (.tail (.tail (.tail .head)))
  refine q h' { d with ro := ro', rowTl := d.rowTl ++ [(T, oT)], rows := d.rows ++ [r] } ⟨R.hI, by rw [refs_snoc]; exact hro', R.hrows.snoc hr, ?_, R.hoo, R.hfs.grow _, by simp; lia, R.hz⟩ rfl (by simp) rfl rfl rfl rfl rfl ?_
  · rw [List.filterMap_append, R.hps]
    cases r <;> rfl
  · refine S'.perm ?_
    show ((T, oT) :: (x, instObj 141 d.dx) :: (d.dx, d.od) :: (d.ra, ro') :: (d.ta, baObj d.tx) :: (d.oa, d.oo) :: ((d.rowTl ++ frL d.fs) ++ k)).Perm ((x, instObj 141 d.dx) :: (d.dx, d.od) :: (d.ra, ro') :: (d.ta, baObj d.tx) :: (d.oa, d.oo) :: (((d.rowTl ++ [(T, oT)]) ++ frL d.fs) ++ k))
    refine (List.Perm.swap _ _ _).trans (List.Perm.cons _ ?_)
    refine (List.Perm.swap _ _ _).trans (List.Perm.cons _ ?_)
    refine (List.Perm.swap _ _ _).trans (List.Perm.cons _ ?_)
    refine (List.Perm.swap _ _ _).trans (List.Perm.cons _ ?_)
    refine (List.Perm.swap _ _ _).trans (List.Perm.cons _ ?_)
    rw [List.append_assoc, List.append_assoc, List.append_assoc]
    exact List.perm_middle.symm
theorem r_textlen {Q : Value → Heap → Prop} (S : St w hw h₀ L h m (d.led x ++ k)) (R : d.Ok l a B st ps) (q : ∀ t, Q (.int d.tx.length t) h) : Wp (MM w) A (call (.builtin "len") [.ref d.ta] []) Q E h :=
  ba_len (S.get (.tail _ (.tail _ (.tail _ (.head _))))) (by have := R.hB; have := R.hz; lia) q
theorem r_textbytes {Q : Value → Heap → Prop} (S : St w hw h₀ L h m (d.led x ++ k)) (R : d.Ok l a B st ps) (q : ∀ t, Q (.bytes d.tx.toArray t) h) : Wp (MM w) A (call (.type "bytes") [.ref d.ta] []) Q E h :=
  ba_bytes (S.get (.tail _ (.tail _ (.tail _ (.head _))))) (by have := R.hB; have := R.hz; lia) q
theorem r_textmeth {pl : Sem Bool} {Q : Value × List Value → Heap → Prop} (S : St w hw h₀ L h m (d.led x ++ k)) (q : Q (.builtin "bytearray.append", [.ref d.ta]) h) : Wp (MM w) A (getMethod (.ref d.ta) "append" pl) Q E h := ba_meth (S.get (.tail _ (.tail _ (.tail _ (.head _))))) q
theorem r_textapp {c : UInt8} {i : Int} {u : Tok} {Q : Value → Heap → Prop} (hg : A.guards = some []) (S : St w hw h₀ L h m (d.led x ++ k)) (R : d.Ok l a B st ps) (hi : i = c.toNat) (hB1 : B + 1 ≤ 2000000)
    (q : ∀ h' (d' : RD), d'.Ok l a (B + 1) st ps → St w hw h₀ L h' m (d'.led x ++ k) → Q .none h') : Wp (MM w) A (call (.builtin "bytearray.append") [.ref d.ta, .int i u] []) Q E h := by
  subst hi
  refine ba_append hg S (.tail _ (.tail _ (.tail _ (.head _)))) (by have := R.hB; have := R.hz; lia) fun h' u => ?_
  have S' := u _ (.tail (.tail (.tail .head)))
  exact q h' { d with tx := d.tx ++ [c] } ⟨R.hI, R.hro, R.hrows, R.hps, R.hoo, R.hfs, by have := R.hB; simp; lia, R.hz.1, hB1⟩ S'
theorem RD.Ok.wider {B' : Nat} (R : d.Ok l a B st ps) (h : B ≤ B') (h' : B' ≤ 2000000) : d.Ok l a B' st ps := ⟨R.hI, R.hro, R.hrows, R.hps, R.hoo, R.hfs, Nat.le_trans R.hB h, R.hz.1, h'⟩
theorem RD.Ok.tight {B' : Nat} (R : d.Ok l a B st ps) (h : d.rowTl.length + d.tx.length + d.fs.length ≤ B') (h' : B' ≤ 2000000) : d.Ok l a B' st ps := ⟨R.hI, R.hro, R.hrows, R.hps, R.hoo, R.hfs, h, R.hz.1, h'⟩
/- a method of the reader's own -/
theorem r_meth {f : Addr} {name : Str} {pl : Sem Bool} {Q : Value × List Value → Heap → Prop} (S : St w hw h₀ L h m (d.led x ++ k)) (R : d.Ok l a B st ps) (hf : findIn (KF w.params) (.ref 141) name = some (some (.ref f))) (ht : typeIn (KF w.params) (.ref f) = some (.type "function"))
    (hn : ∀ t₁ t₂, lk (rdLoc l a d.ra d.ta d.oa t₁ t₂) name = none) (q : Q (.ref f, [.ref x]) h) : Wp (MM w) A (getMethod (.ref x) name pl) Q E h := by
  obtain ⟨t₁, t₂, hI⟩ := R.hI
  exact o_meth S.wd (clean141 _).1 (S.get (.head _)) (S.get (.tail _ (.head _))) hI (hn _ _) hf ht q
end

end
section
theorem m_refuse (P : Params) : findIn (KF P) (.ref 141) "refuse" = some (some (.ref 82)) := by kernel_rfl
theorem m_end_text (P : Params) : findIn (KF P) (.ref 141) "end_text" = some (some (.ref 89)) := by kernel_rfl
theorem m_put (P : Params) : findIn (KF P) (.ref 141) "put" = some (some (.ref 96)) := by kernel_rfl
theorem m_program (P : Params) : findIn (KF P) (.ref 141) "program" = some (some (.ref 103)) := by kernel_rfl
theorem m_read_one (P : Params) : findIn (KF P) (.ref 141) "read_one" = some (some (.ref 110)) := by kernel_rfl
theorem m_read_named (P : Params) : findIn (KF P) (.ref 141) "read_named" = some (some (.ref 117)) := by kernel_rfl
theorem m_read_constant (P : Params) : findIn (KF P) (.ref 141) "read_constant" = some (some (.ref 124)) := by kernel_rfl
theorem m_read_branch (P : Params) : findIn (KF P) (.ref 141) "read_branch" = some (some (.ref 131)) := by kernel_rfl
theorem m_read_writer (P : Params) : findIn (KF P) (.ref 141) "read_writer" = some (some (.ref 138)) := by kernel_rfl
theorem tf (P : Params) {a : Addr} {fd : FuncData} (h : (KF P).lookup a = some { cls := .type "function", data := .func fd }) : typeIn (KF P) (.ref a) = some (.type "function") := by show Option.map _ (List.lookup a (KF P)) = _; rw [show List.lookup a (KF P) = _ from h]; rfl

theorem row_none {T : Addr} {o : Obj} {s : Str} {t : Tok} {rest : List Value} (hT : OTup o (.str s t :: rest)) (h : s ≠ "param") : StrRow (T, o) none := ⟨s, t, rest, hT, h⟩
theorem row_param {T : Addr} {o : Obj} {n : Nat} {t u : Tok} (hT : OTup o [.str "param" t, .int n u]) : StrRow (T, o) (some n) := ⟨_, t, _, hT, rfl, u, rfl⟩
theorem c_end_text {w : World} {hw h : Heap} {A : Around} {Q : Value → Heap → Prop} {E : Value → Heap → Prop} {x : Addr} {d : RD} {l : List UInt8} {a B : Nat} {st : List Bool} {ps : List Nat}
    (D : Wo w hw h) (r : Rm A 3) (own : ∀ p ∈ d.led x, h.get? p.1 = some p.2 ∧ hw.get? p.1 = none) (nd : (adr (d.led x)).Nodup) (R : d.Ok l a B st ps) (hB : B + 1 ≤ 2000000)
    (q : ∀ h' (d' : RD), d'.Ok l a B st ps → d'.tx = [] → Step h (d.led x) h' (d'.led x) → Q .none h') : Wp (MM w) A (call (.ref 89) [.ref x] []) Q E h := by
  refine enter_ret (body := bodyOf (mAt 11 2)) (binds := [("self", .ref x)]) D _ own nd (kf89 _) (kc89 _) r.dep (fun s hs => BindsTo.of_eq (by rfl)) rfl (fun h₁ S => ?_) (locs rfl) (by decide +kernel) rfl rfl rfl
  have r2 := (r : Rm A (2 + 1)).deeper (env := callEnv fd89 h.objs.size 89)
  have S : St w hw (hideAll h (adr (d.led x))) h.objs.size h₁ [("self", .ref x)] (d.led x ++ []) := by rw [List.append_nil]; exact S
  refine st_If ?_
  walk_at "w"
  refine r_text S R ?_
  walk_at "w"
  refine r_textlen S R fun _ => ?_
  walk_at "w"
  refine ⟨fun hb => ?_, fun hb => ?_⟩
  · walk_at "w"
    refine r_rows S R ?_
    refine s_mappend R.hro (S.get (.tail _ (.tail _ (.head _)))) ?_
    walk_at "w"
    refine r_text S R ?_
    walk_at "w"
    refine r_textbytes S R fun tb => ?_
    walk_at "w"
    refine s_tuple S (Nat.le_of_ble_eq_true rfl) fun T oT h₂ hT S₂ => ?_
    walk_at "w"
    refine r_addrow S₂ (R.wider (Nat.le_succ B) hB) (r := none) (row_none hT (by decide)) (by have := R.hB; lia) fun h₃ d₃ R₃ e1 e2 e3 _ _ _ _ S₃ => ?_
    walk_at "w"
    refine ba_new r2.gd S₃ fun b h₄ S₄ => ?_
    walk_at "w"
    refine r_settext S₄ R₃ fun h₅ d₅ R₅ f1 f2 f3 S₅ => ?_
    walk_at "w"
    have hpos := of_decide_eq_true hb
    have R₆ : d₅.Ok l a B st ps := by
      have R₅ : d₅.Ok l a (B + 1) st ps := by simpa using R₅
      exact R₅.tight (by rw [f1, f2, f3, e2, e3]; have := R.hB; simp; lia) R.hz.2
    refine q _ d₅ R₆ f1 ?_
    have := S₅.step
    rw [List.append_nil] at this
    exact this
  · walk_at "w"
    have hn : d.tx = [] := by
      have := of_decide_eq_false hb
      exact List.length_eq_zero_iff.mp (by lia)
    refine q _ d R hn ?_
    have := S.step
    rw [List.append_nil] at this
    exact this

theorem c_put {w : World} {hw h : Heap} {A : Around} {Q : Value → Heap → Prop} {E : Value → Heap → Prop} {x T : Addr} {oT : Obj} {ro : Option Nat} {d : RD} {l : List UInt8} {a B : Nat} {st : List Bool} {ps : List Nat}
    (D : Wo w hw h) (r : Rm A 4) (own : ∀ p ∈ (T, oT) :: d.led x, h.get? p.1 = some p.2 ∧ hw.get? p.1 = none) (nd : (adr ((T, oT) :: d.led x)).Nodup) (R : d.Ok l a B st ps) (hB : B + 1 ≤ 2000000) (hr : StrRow (T, oT) ro)
    (q : ∀ h' (d' : RD), d'.Ok l a (B + 1) st (ps ++ ro.toList) → Step h ((T, oT) :: d.led x) h' (d'.led x) → Q .none h') : Wp (MM w) A (call (.ref 96) [.ref x, .ref T] []) Q E h := by
  refine enter_ret (body := bodyOf (mAt 11 3)) (binds := [("self", .ref x), ("row", .ref T)]) D _ own nd (kf96 _) (kc96 _) r.dep (fun s hs => BindsTo.of_eq (by rfl)) rfl (fun h₁ S => ?_) (locs rfl) (by decide +kernel) rfl rfl rfl
  have r3 := (r : Rm A (3 + 1)).deeper (env := callEnv fd96 h.objs.size 96)
  have S : St w hw (hideAll h (adr ((T, oT) :: d.led x))) h.objs.size h₁ [("row", .ref T), ("self", .ref x)] (d.led x ++ [(T, oT)]) := S.perm (List.perm_append_singleton (T, oT) (d.led x)).symm
  refine st_Expr ?_
  walk_at "w"
  refine r_meth S R (m_end_text _) (tf _ (kf89 _)) (fun _ _ => rfl) ?_
  walk_at "w"
  refine c_end_text S.wd r3 S.own' S.nd' R hB fun h₂ d₂ R₂ e₂ X₂ => ?_
  have S₂ := St.call S X₂
  walk_at "w"
  refine r_rows S₂ R₂ ?_
  refine s_mappend R₂.hro (S₂.get (.tail _ (.tail _ (.head _)))) ?_
  walk_at "w"
  have S₃ := S₂.perm (l' := (T, oT) :: (d₂.led x ++ [])) (by rw [List.append_nil]; exact List.perm_append_singleton (T, oT) (d₂.led x))
  refine r_addrow S₃ (R₂.wider (Nat.le_succ B) hB) hr (by have := R₂.hB; lia) fun h₄ d₄ R₄ _ _ _ _ _ _ _ S₄ => ?_
  walk_at "w"
  refine q _ d₄ R₄ ?_
  have := S₄.step
  rw [List.append_nil] at this
  exact this

end
section
noncomputable def isLet (x : UInt8) : Bool := (decide (97 ≤ x.toNat) && decide (x.toNat ≤ 122)) || (decide (65 ≤ x.toNat) && decide (x.toNat ≤ 90))
noncomputable def namedS (c : UInt8) (r : List UInt8) : Option (Option Nat) := match r with
  | [] => none
  | nm :: _ => if c = 112 then (if 49 ≤ nm.toNat ∧ nm.toNat ≤ 57 then some (some (nm.toNat - 48)) else none) else if isLet nm then some none else none
theorem fly_b {H : Heap} {W : List Addr} {A : Around} {P : Int → Prop} {fd : FuncData} {L f : Addr} {e : Value} {h : Heap} (hf : ∃ l, A.frames = some l) (x : Fly H W (A.deeper (callEnv fd L f)) P e h) : FlyB H W (A.deeper (callEnv fd L f)) P e h :=
  let ⟨l, hf⟩ := hf; Fly.b (L := L) (Around.frames_deeper hf) rfl x

theorem c_read_named {w : World} {H h : Heap} {W : List Addr} {A : Around} {Q : Value → Heap → Prop} {E : Value → Heap → Prop} {x : Addr} {d : RD} {l : List UInt8} {a B b : Nat} {st : List Bool} {ps : List Nat} {c : UInt8} {tb tc : Tok}
    (D : Wo w H h) (r : Rm A 6) (own : ∀ p ∈ d.led x, h.get? p.1 = some p.2 ∧ H.get? p.1 = none) (nd : (adr (d.led x)).Nodup) (R : d.Ok l a B st ps) (hB : B + 1 ≤ 2000000) (z : Rz H W A (hideAll h (adr (d.led x))))
    (hE : ∀ e h', Fly H W A (fun i => i = b ∧ namedS c (l.drop a) = none) e h' → E e h')
    (q : ∀ h' (d' : RD) p, namedS c (l.drop a) = some p → d'.Ok l (a + 1) (B + 1) st (ps ++ p.toList) → Step h (d.led x) h' (d'.led x) → Q .none h') :
    Wp (MM w) A (call (.ref 117) [.ref x, .int b tb, .int c.toNat tc] []) Q E h := by
  refine enter_rg (n := 5) (P := fun i => i = b ∧ namedS c (l.drop a) = none) (body := bodyOf (mAt 11 6)) (binds := [("self", .ref x), ("begin", .int b tb), ("letter", .int c.toNat tc)]) D (r : Rm A (5 + 1)) (d.led x) own nd z (kf117 _) (kc117 _) (fun s hs => BindsTo.of_eq (by rfl)) rfl [("letter", .int c.toNat tc), ("begin", .int b tb), ("self", .ref x)] rfl hE (fun L h₀ A' E' h₁ r5 here sub fb stp S => ?_) (locs rfl) (by decide +kernel) rfl rfl rfl
  have refuse : ∀ {Q' : Value → Heap → Prop} {h' : Heap} {m' : Loc} {d' : RD} {t' : Tok}, St w H h₀ L h' m' (d'.led x ++ []) → namedS c (l.drop a) = none → Wp (MM w) A' (call (.ref 82) [.ref x, .int b t'] []) Q' E' h' :=
    fun S' hn => c_refuse S'.wd (r5.mono (by decide)) (here S') ⟨rfl, hn⟩ fun e h' x => fb x
  refine st_If_cut (fun h' => a < l.length ∧ St w H h₀ L h' [("letter", .int c.toNat tc), ("begin", .int b tb), ("self", .ref x)] (d.led x ++ [])) ?_ ?_
  · walk_at "w"
    refine r_at S R fun _ => ?_
    walk_at "w"
    refine r_octets S R fun _ => ?_
    walk_at "w"
    refine y_len (by have := R.hz; simp; lia) fun _ => ?_
    walk_at "w"
    refine ⟨fun hb => ?_, fun hb => ?_⟩
    · walk_at "w"
      refine r_meth S R (m_refuse _) (tf _ (kf82 _)) (fun _ _ => rfl) ?_
      walk_at "w"
      refine refuse S ?_
      rw [List.drop_of_length_le (by have := of_decide_eq_true hb; simp at this; lia)]; rfl
    · walk_at "w"
      exact ⟨by have := of_decide_eq_false hb; simp at this; lia, S⟩
  rintro h₂ ⟨hlt, S₂⟩
  have hx := List.getElem?_eq_getElem hlt
  have hdrop : l.drop a = l[a] :: l.drop (a + 1) := List.drop_eq_getElem_cons hlt
  walk_at "w"
  refine r_octets S₂ R fun _ => ?_
  walk_at "w"
  refine r_at S₂ R fun _ => ?_
  refine y_at hx (by have := R.hz; lia) rfl fun tn => ?_
  walk_at "w"
  rename St _ _ _ _ _ _ _ => S₃
  refine r_at S₃ R fun _ => ?_
  walk_at "w"
  refine r_setat (a' := a + 1) S₃ R (by lia) fun h₄ d₄ R₄ S₄ => ?_
  have fin : ∀ {h'} {d' : RD} {m'} p, namedS c (l.drop a) = some p → d'.Ok l (a + 1) (B + 1) st (ps ++ p.toList) → St w H h₀ L h' m' (d'.led x ++ []) → Q .none h' := fun {h' d' m'} p hp R' S' => by
    refine q h' d' p hp R' ?_
    exact stp S'
  refine st_If ?_
  walk_at "w"
  refine ⟨fun hb => ?_, fun hb => ?_⟩
  · have hc : c = 112 := by
      have := beq_iff_eq.mp hb
      exact UInt8.toNat_inj.mp (by exact_mod_cast this)
    have hn : namedS c (l.drop a) = if 49 ≤ l[a].toNat ∧ l[a].toNat ≤ 57 then some (some (l[a].toNat - 48)) else none := by rw [hdrop]; exact if_pos hc
    refine st_If_cut (fun h' => (49 ≤ l[a].toNat ∧ l[a].toNat ≤ 57) ∧ St w H h₀ L h' [("letter", .int c.toNat tc), ("begin", .int b tb), ("self", .ref x), ("name", .int l[a].toNat tn)] (d₄.led x ++ [])) ?_ ?_
    rotate_left 1
    · rintro h₅ ⟨hdig, S₅⟩
      walk_at "w"
      refine r_meth S₅ R₄ (m_put _) (tf _ (kf96 _)) (fun _ _ => rfl) ?_
      walk_at "w"
      refine s_tuple S₅ (Nat.le_of_ble_eq_true rfl) fun T oT h₆ hT S₆ => ?_
      walk_at "w"
      have e : (l[a].toNat : Int) - 48 = ((l[a].toNat - 48 : Nat) : Int) := (Int.ofNat_sub (Nat.le_trans (Nat.le_succ 48) hdig.1)).symm
      rw [e] at hT
      have S₆ : St w H h₀ L h₆ _ (((T, oT) :: d₄.led x) ++ []) := S₆
      refine c_put S₆.wd (r5.mono (by decide)) S₆.own' S₆.nd' R₄ hB (row_param hT) fun h₇ d₇ R₇ X₇ => ?_
      have S₇ := St.call S₆ X₇
      walk_at "w"
      exact fin (some (l[a].toNat - 48)) (by rw [hn, if_pos hdig]) R₇ S₇
    · walk_at "w"
      refine ⟨fun hb => ?_, fun hb => ?_⟩
      · walk_at "w"
        refine ⟨fun hb' => ?_, fun hb' => ?_⟩
        · walk_at "w"
          refine r_meth S₄ R₄ (m_refuse _) (tf _ (kf82 _)) (fun _ _ => rfl) ?_
          walk_at "w"
          refine refuse S₄ ?_
          rw [hn, if_neg]
          have := of_decide_eq_true hb
          simp at hb' this ⊢
          intro _
          lia
        · walk_at "w"
          refine ⟨?_, S₄⟩
          have := of_decide_eq_true hb
          simp at hb' this ⊢
          lia
      · walk_at "w"
        refine ⟨fun hb' => ?_, fun hb' => by cases hb'⟩
        walk_at "w"
        refine r_meth S₄ R₄ (m_refuse _) (tf _ (kf82 _)) (fun _ _ => rfl) ?_
        walk_at "w"
        refine refuse S₄ ?_
        rw [hn, if_neg]
        have := of_decide_eq_false hb
        simp at this ⊢
        lia
  · have hc : c ≠ 112 := fun e => by
      subst e
      cases hb
    have hn : namedS c (l.drop a) = if isLet l[a] = true then some none else none := by rw [hdrop]; exact if_neg hc
    refine st_If_cut (fun h' => isLet l[a] = true ∧ St w H h₀ L h' [("letter", .int c.toNat tc), ("begin", .int b tb), ("self", .ref x), ("name", .int l[a].toNat tn)] (d₄.led x ++ [])) ?_ ?_
    · walk_at "w"
      refine ⟨fun h1 => ?_, fun h1 => ?_⟩
      · walk_at "w"
        refine ⟨fun h2 => ?_, fun h2 => ?_⟩
        · skip
          walk_at "w"
          refine ⟨fun h3 => ?_, fun h3 => ?_⟩
          · walk_at "w"
            refine ⟨fun h4 => ?_, fun h4 => ?_⟩
            · walk_at "w"
              refine r_meth S₄ R₄ (m_refuse _) (tf _ (kf82 _)) (fun _ _ => rfl) ?_
              walk_at "w"
              refine refuse S₄ ?_
              rw [hn, if_neg]
              rw [Bool.not_eq_true]
              unfold isLet
              simp at h1 h2 h3 h4 ⊢
              lia
            · walk_at "w"
              refine ⟨?_, S₄⟩
              unfold isLet
              simp at h1 h2 h3 h4 ⊢
              lia
          · walk_at "w"
            refine ⟨fun h4 => ?_, fun h4 => by cases h4⟩
            walk_at "w"
            refine r_meth S₄ R₄ (m_refuse _) (tf _ (kf82 _)) (fun _ _ => rfl) ?_
            walk_at "w"
            refine refuse S₄ ?_
            rw [hn, if_neg]
            rw [Bool.not_eq_true]
            unfold isLet
            simp at h1 h2 h3 ⊢
            lia
        · walk_at "w"
          refine ⟨?_, S₄⟩
          unfold isLet
          simp at h1 h2 ⊢
          lia
      · walk_at "w"
        refine ⟨fun h2 => ?_, fun h2 => by cases h2⟩
        walk_at "w"
        refine ⟨fun h3 => ?_, fun h3 => ?_⟩
        · walk_at "w"
          refine ⟨fun h4 => ?_, fun h4 => ?_⟩
          · walk_at "w"
            refine r_meth S₄ R₄ (m_refuse _) (tf _ (kf82 _)) (fun _ _ => rfl) ?_
            walk_at "w"
            refine refuse S₄ ?_
            rw [hn, if_neg]
            rw [Bool.not_eq_true]
            unfold isLet
            simp at h1  h3 h4 ⊢
            lia
          · walk_at "w"
            refine ⟨?_, S₄⟩
            unfold isLet
            simp at h1  h3 h4 ⊢
            lia
        · walk_at "w"
          refine ⟨fun h4 => ?_, fun h4 => by cases h4⟩
          walk_at "w"
          refine r_meth S₄ R₄ (m_refuse _) (tf _ (kf82 _)) (fun _ _ => rfl) ?_
          walk_at "w"
          refine refuse S₄ ?_
          rw [hn, if_neg]
          rw [Bool.not_eq_true]
          unfold isLet
          simp at h1  h3 ⊢
          lia
    rintro h₅ ⟨hlet, S₅⟩
    walk_at "w"
    refine r_meth S₅ R₄ (m_put _) (tf _ (kf96 _)) (fun _ _ => rfl) ?_
    walk_at "w"
    refine Wp_here (J := fun v => ∃ (s : Str) (t : Tok), v = .str s t ∧ s ≠ "param") ?_ ?_
    · refine e_IfExp ?_
      walk_at "w"
      refine ⟨fun hb => ?_, fun hb => ?_⟩
      · walk_at "w"
        exact ⟨rfl, _, _, rfl, by decide⟩
      · walk_at "w"
        exact ⟨rfl, _, _, rfl, by decide⟩
    rintro v ⟨s, ts, rfl, hs⟩
    walk_at "w"
    refine s_tuple S₅ (Nat.le_of_ble_eq_true rfl) fun T oT h₆ hT S₆ => ?_
    walk_at "w"
    have S₆ : St w H h₀ L h₆ _ (((T, oT) :: d₄.led x) ++ []) := S₆
    refine c_put S₆.wd (r5.mono (by decide)) S₆.own' S₆.nd' R₄ hB (row_none hT hs) fun h₇ d₇ R₇ X₇ => ?_
    have S₇ := St.call S₆ X₇
    walk_at "w"
    exact fin none (by rw [hn, if_pos hlet]) R₇ S₇

end
section
theorem cut_drop (l : List UInt8) (a i j : Nat) : cut (l.drop a) i j = cut l (a + i) (a + j) := by unfold cut; rw [List.drop_drop, show a + j - (a + i) = j - i by lia]
theorem digs_drop (l : List UInt8) (a i : Nat) : digs (l.drop a) i = digs l (a + i) := by unfold digs; rw [List.drop_drop]
theorem dig_drop (l : List UInt8) (a i : Nat) : dig (l.drop a) i = dig l (a + i) := by unfold dig; rw [List.getElem?_drop]
noncomputable def sgn (r : List UInt8) : Nat := if cut r 0 1 = [45] then 1 else 0
noncomputable def constS (c : UInt8) (r : List UInt8) : Option Nat :=
  if c = 39 then (if cut r 1 2 = [39] then some 2 else none)
  else if dig r (sgn r) = true then (if cut r (sgn r + (digs r (sgn r)).length) (sgn r + (digs r (sgn r)).length + 1) = [125] then some (sgn r + (digs r (sgn r)).length + 1) else none) else none
theorem lt_of_cut {l : List UInt8} {i : Nat} {x : UInt8} (h : cut l i (i + 1) = [x]) : l[i]? = some x := by
  rw [cut1] at h
  cases hx : l[i]? with
  | none => rw [hx] at h; cases h
  | some y => rw [hx] at h; cases h; rfl

theorem c_read_constant {w : World} {H h : Heap} {W : List Addr} {A : Around} {Q : Value → Heap → Prop} {E : Value → Heap → Prop} {x : Addr} {d : RD} {l : List UInt8} {a B b : Nat} {st : List Bool} {ps : List Nat} {c : UInt8} {tb tc : Tok}
    (D : Wo w H h) (r : Rm A 6) (own : ∀ p ∈ d.led x, h.get? p.1 = some p.2 ∧ H.get? p.1 = none) (nd : (adr (d.led x)).Nodup) (R : d.Ok l a B st ps) (hB : B + 1 ≤ 2000000) (z : Rz H W A (hideAll h (adr (d.led x))))
    (hE : ∀ e h', Fly H W A (fun i => i = b ∧ constS c (l.drop a) = none) e h' → E e h')
    (q : ∀ h' (d' : RD) n, constS c (l.drop a) = some n → d'.Ok l (a + n) (B + 1) st ps → Step h (d.led x) h' (d'.led x) → Q .none h') :
    Wp (MM w) A (call (.ref 124) [.ref x, .int b tb, .int c.toNat tc] []) Q E h := by
  refine enter_rg (n := 5) (P := fun i => i = b ∧ constS c (l.drop a) = none) (body := bodyOf (mAt 11 7)) (binds := [("self", .ref x), ("begin", .int b tb), ("letter", .int c.toNat tc)]) D (r : Rm A (5 + 1)) (d.led x) own nd z (kf124 _) (kc124 _) (fun s hs => BindsTo.of_eq (by rfl)) rfl [("letter", .int c.toNat tc), ("begin", .int b tb), ("self", .ref x)] rfl hE (fun L h₀ A' E' h₁ r5 here sub fb stp S => ?_) (locs rfl) (by decide +kernel) rfl rfl rfl
  have hz := R.hz.1
  have refuse : ∀ {Q' : Value → Heap → Prop} {h' : Heap} {m' : Loc} {d' : RD} {t' : Tok}, St w H h₀ L h' m' (d'.led x ++ []) → constS c (l.drop a) = none → Wp (MM w) A' (call (.ref 82) [.ref x, .int b t'] []) Q' E' h' :=
    fun S' hn => c_refuse S'.wd (r5.mono (by decide)) (here S') ⟨rfl, hn⟩ fun e h' x => fb x
  have fin : ∀ {h'} {d' : RD} {m'} n, constS c (l.drop a) = some n → d'.Ok l (a + n) (B + 1) st ps → St w H h₀ L h' m' (d'.led x ++ []) → Q .none h' := fun {h' d' m'} n hp R' S' => by
    refine q h' d' n hp R' ?_
    exact stp S'
  refine st_If_cut (fun h' => c ≠ 39 ∧ St w H h₀ L h' [("letter", .int c.toNat tc), ("begin", .int b tb), ("self", .ref x)] (d.led x ++ [])) ?_ ?_
  · walk_at "w"
    refine ⟨fun hb => ?_, fun hb => ?_⟩
    · have hc : c = 39 := by
        have := beq_iff_eq.mp hb
        exact UInt8.toNat_inj.mp (by exact_mod_cast this)
      have hn : constS c (l.drop a) = if cut l (a + 1) (a + 2) = [39] then some 2 else none := by unfold constS; rw [if_pos hc, cut_drop]
      refine st_If_cut (fun h' => cut l (a + 1) (a + 2) = [39] ∧ St w H h₀ L h' [("letter", .int c.toNat tc), ("begin", .int b tb), ("self", .ref x)] (d.led x ++ [])) ?_ ?_
      · walk_at "w"
        refine r_octets S R fun _ => ?_
        walk_at "w"
        refine r_at S R fun _ => ?_
        walk_at "w"
        refine r_at S R fun _ => ?_
        walk_at "w"
        refine y_cut (i := a + 1) (j := a + 2) S (by lia) (by lia) (by lia) fun h₂ _ S₂ => ?_
        walk_at "w"
        refine ⟨fun hb => ?_, fun hb => ?_⟩
        · have hq : cut l (a + 1) (a + 2) ≠ [39] := by simpa using hb
          walk_at "w"
          refine r_meth S₂ R (m_refuse _) (tf _ (kf82 _)) (fun _ _ => rfl) ?_
          walk_at "w"
          refine refuse S₂ ?_
          rw [hn, if_neg hq]
        · walk_at "w"
          exact ⟨by simpa using hb, S₂⟩
      rintro h₂ ⟨hq, S₂⟩
      have h39 := lt_of_cut hq
      have hx : l[a]? = some (l[a]'(by have := (List.getElem?_eq_some_iff.mp h39).1; lia)) := List.getElem?_eq_getElem _
      walk_at "w"
      refine r_meth S₂ R (m_put _) (tf _ (kf96 _)) (fun _ _ => rfl) ?_
      walk_at "w"
      refine r_octets S₂ R fun _ => ?_
      walk_at "w"
      refine r_at S₂ R fun _ => ?_
      refine y_at hx (by lia) rfl fun _ => ?_
      walk_at "w"
      refine s_tuple S₂ (Nat.le_of_ble_eq_true rfl) fun T oT h₃ hT S₃ => ?_
      walk_at "w"
      have S₃ : St w H h₀ L h₃ _ (((T, oT) :: d.led x) ++ []) := S₃
      refine c_put S₃.wd (r5.mono (by decide)) S₃.own' S₃.nd' R hB (row_none hT (by decide)) fun h₄ d₄ R₄ X₄ => ?_
      have S₄ := St.call S₃ X₄
      have R₄ : d₄.Ok l a (B + 1) st ps := by simpa using R₄
      walk_at "w"
      refine r_at S₄ R₄ fun _ => ?_
      walk_at "w"
      refine r_setat (a' := a + 2) S₄ R₄ (by lia) fun h₅ d₅ R₅ S₅ => ?_
      walk_at "w"
      exact fin 2 (by rw [hn, if_pos hq]) R₅ S₅
    · walk_at "w"
      exact ⟨fun e => (by subst e; cases hb), S⟩
  rintro h₂ ⟨hc, S₂⟩
  have hn : constS c (l.drop a) = if dig l (a + sgn (l.drop a)) = true then (if cut l (a + (sgn (l.drop a) + (digs l (a + sgn (l.drop a))).length)) (a + (sgn (l.drop a) + (digs l (a + sgn (l.drop a))).length + 1)) = [125] then some (sgn (l.drop a) + (digs l (a + sgn (l.drop a))).length + 1) else none) else none := by
    unfold constS; rw [if_neg hc, cut_drop, digs_drop, dig_drop]
  walk_at "w"
  rename St _ _ _ _ _ _ _ => S₃
  refine st_If_cut (fun h' => ∃ (d' : RD) (sg : Int) (t' : Tok), (sg = 1 ∨ sg = -1) ∧ d'.Ok l (a + sgn (l.drop a)) B st ps ∧ St w H h₀ L h' [("letter", .int c.toNat tc), ("begin", .int b tb), ("self", .ref x), ("sign", .int sg t')] (d'.led x ++ [])) ?_ ?_
  · walk_at "w"
    refine r_octets S₃ R fun _ => ?_
    walk_at "w"
    refine r_at S₃ R fun _ => ?_
    walk_at "w"
    refine r_at S₃ R fun _ => ?_
    walk_at "w"
    refine y_cut (i := a) (j := a + 1) S₃ (by lia) rfl (by lia) fun h₄ _ S₄ => ?_
    have e0 : cut (l.drop a) 0 1 = cut l a (a + 1) := cut_drop l a 0 1
    walk_at "w"
    refine ⟨fun hb => ?_, fun hb => ?_⟩
    · have hs : sgn (l.drop a) = 1 := by unfold sgn; rw [e0, if_pos (by simpa using hb)]
      walk_at "w"
      refine i_neg fun _ => ?_
      walk_at "w"
      rename St _ _ _ _ _ _ _ => S₅
      refine r_at S₅ R fun _ => ?_
      walk_at "w"
      refine r_setat (a' := a + sgn (l.drop a)) S₅ R (by rw [hs]; lia) fun h₆ d₆ R₆ S₆ => ?_
      walk_at "w"
      exact ⟨d₆, _, _, .inr rfl, R₆, S₆⟩
    · have hs : sgn (l.drop a) = 0 := by unfold sgn; rw [e0, if_neg (by simpa using hb)]
      walk_at "w"
      exact ⟨d, _, _, .inl rfl, by rw [hs]; exact R, S₄⟩
  rintro h₄ ⟨d₄, sg, t', hsg, R₄, S₄⟩
  generalize sgn (l.drop a) = n at hn R₄
  refine st_If_cut (fun h' => dig l (a + n) = true ∧ St w H h₀ L h' [("letter", .int c.toNat tc), ("begin", .int b tb), ("self", .ref x), ("sign", .int sg t')] (d₄.led x ++ [])) ?_ ?_
  · walk_at "w"
    refine r_octets S₄ R₄ fun _ => ?_
    walk_at "w"
    refine r_at S₄ R₄ fun _ => ?_
    walk_at "w"
    refine c_is_digit (i := a + n) S₄.wd (r5.mono (by decide)) (by lia) rfl fun h₅ k₅ => ?_
    have S₅ := S₄.grow k₅
    walk_at "w"
    refine ⟨fun hb => ?_, fun hb => ?_⟩
    · walk_at "w"
      refine r_meth S₅ R₄ (m_refuse _) (tf _ (kf82 _)) (fun _ _ => rfl) ?_
      walk_at "w"
      refine refuse S₅ ?_
      rw [hn, if_neg (by simpa using hb)]
    · walk_at "w"
      exact ⟨by simpa using hb, S₅⟩
  rintro h₅ ⟨hd, S₅⟩
  rw [if_pos hd] at hn
  walk_at "w"
  refine r_octets S₅ R₄ fun _ => ?_
  walk_at "w"
  refine r_at S₅ R₄ fun _ => ?_
  walk_at "w"
  refine c_number (i := a + n) S₅.wd (r5.mono (by decide)) (by lia) rfl fun h₆ a₆ o₆ t₁ t₂ X₆ hO₆ => ?_
  have S₆ := S₅.call0 X₆
  refine u_tuple r5.hd (S₆.get (.head _)) hO₆ fun h₇ k₇ => ?_
  have S₇ := (S₆.grow k₇).sub (List.sublist_cons_self _ _)
  have S₇ : St w H h₀ L h₇ _ (d₄.led x ++ []) := S₇
  walk_at "w"
  rename St _ _ _ _ _ _ _ => S₈
  refine as_attr ?_
  walk_at "w"
  refine r_setat (a' := a + n + (digs l (a + n)).length) S₈ R₄ rfl fun h₉ d₉ R₉ S₉ => ?_
  walk_at "w"
  refine st_If_cut (fun h' => cut l (a + n + (digs l (a + n)).length) (a + n + (digs l (a + n)).length + 1) = [125] ∧ ∃ m', St w H h₀ L h' m' (d₉.led x ++ []) ∧ m' = ([("letter", .int c.toNat tc), ("begin", .int b tb), ("self", .ref x), ("sign", .int sg t'), ("number", .int (vals (digs l (a + n)) 0 : Nat) t₁)] : Loc)) ?_ ?_
  · walk_at "w"
    refine r_octets S₉ R₉ fun _ => ?_
    walk_at "w"
    refine r_at S₉ R₉ fun _ => ?_
    walk_at "w"
    refine r_at S₉ R₉ fun _ => ?_
    walk_at "w"
    refine y_cut (i := a + n + (digs l (a + n)).length) (j := a + n + (digs l (a + n)).length + 1) S₉ (by lia) rfl (by lia) fun h₁₀ _ S₁₀ => ?_
    walk_at "w"
    refine ⟨fun hb => ?_, fun hb => ?_⟩
    · walk_at "w"
      refine r_meth S₁₀ R₉ (m_refuse _) (tf _ (kf82 _)) (fun _ _ => rfl) ?_
      walk_at "w"
      refine refuse S₁₀ ?_
      rw [hn, if_neg]
      rw [← Nat.add_assoc, ← Nat.add_assoc, ← Nat.add_assoc]
      simpa using hb
    · walk_at "w"
      exact ⟨by simpa using hb, _, S₁₀, rfl⟩
  rintro h₁₀ ⟨hcut, m', S₁₀, rfl⟩
  walk_at "w"
  refine r_at S₁₀ R₉ fun _ => ?_
  walk_at "w"
  refine r_setat (a' := a + (n + (digs l (a + n)).length + 1)) S₁₀ R₉ (by lia) fun h₁₁ d₁₁ R₁₁ S₁₁ => ?_
  walk_at "w"
  refine r_meth S₁₁ R₁₁ (m_put _) (tf _ (kf96 _)) (fun _ _ => rfl) ?_
  walk_at "w"
  refine i_mul ?_ fun _ => ?_
  · rcases hsg with rfl | rfl <;> exact IntMulOk.of_left (by decide)
  walk_at "w"
  refine s_tuple S₁₁ (Nat.le_of_ble_eq_true rfl) fun T oT h₁₂ hT S₁₂ => ?_
  walk_at "w"
  have S₁₂ : St w H h₀ L h₁₂ _ (((T, oT) :: d₁₁.led x) ++ []) := S₁₂
  refine c_put S₁₂.wd (r5.mono (by decide)) S₁₂.own' S₁₂.nd' R₁₁ hB (row_none hT (by decide)) fun h₁₃ d₁₃ R₁₃ X₁₃ => ?_
  have S₁₃ := St.call S₁₂ X₁₃
  walk_at "w"
  exact fin _ (by rw [hn, if_pos (by rw [← Nat.add_assoc, ← Nat.add_assoc, ← Nat.add_assoc]; exact hcut)]) (by simpa using R₁₃) S₁₃

end
section
noncomputable def wFlag (sg : Bool) (x : UInt8) : Bool := (#[35, 32, 48] : Array UInt8).contains x || (sg && (#[45, 43] : Array UInt8).contains x)
noncomputable def wSg (r : List UInt8) : Bool := cut r 0 1 == [58]
noncomputable def w1 (r : List UInt8) : Nat := if wSg r = true then 1 else 0
noncomputable def w2 (r : List UInt8) : Nat := w1 r + ((r.drop (w1 r)).takeWhile (wFlag (wSg r))).length
noncomputable def w3 (r : List UInt8) : Nat := w2 r + (digs r (w2 r)).length
noncomputable def w4 (r : List UInt8) : Nat := if cut r (w3 r) (w3 r + 1) = [46] then w3 r + 1 + (digs r (w3 r + 1)).length else w3 r
noncomputable def writerS (r : List UInt8) : Option Nat := match r[w4 r]? with
  | some x => if (#[100, 111, 120, 88, 115] : Array UInt8).contains x = true then some (w4 r + 1) else none
  | none => none
theorem tw_step {p : UInt8 → Bool} {l : List UInt8} {i : Nat} {x : UInt8} (hx : l[i]? = some x) (hd : p x = true) : (l.drop i).takeWhile p = x :: (l.drop (i + 1)).takeWhile p := by
  have hi : i < l.length := (List.getElem?_eq_some_iff.mp hx).1
  have e : l[i] = x := by have := List.getElem?_eq_getElem hi; rw [hx] at this; exact (Option.some.inj this).symm
  rw [List.drop_eq_getElem_cons hi, List.takeWhile_cons, e, hd, if_pos rfl]
theorem tw_end {p : UInt8 → Bool} {l : List UInt8} {i : Nat} (h : ∀ x, l[i]? = some x → p x = false) : (l.drop i).takeWhile p = [] := by
  by_cases hi : i < l.length
  · rw [List.drop_eq_getElem_cons hi, List.takeWhile_cons, h _ (List.getElem?_eq_getElem hi), if_neg (by decide)]
  · rw [List.drop_of_length_le (by lia)]; rfl

theorem c_read_writer {w : World} {H h : Heap} {W : List Addr} {A : Around} {Q : Value → Heap → Prop} {E : Value → Heap → Prop} {x : Addr} {d : RD} {l : List UInt8} {a B b : Nat} {st : List Bool} {ps : List Nat} {tb : Tok}
    (D : Wo w H h) (r : Rm A 6) (own : ∀ p ∈ d.led x, h.get? p.1 = some p.2 ∧ H.get? p.1 = none) (nd : (adr (d.led x)).Nodup) (R : d.Ok l a B st ps) (hB : B + 1 ≤ 2000000) (z : Rz H W A (hideAll h (adr (d.led x))))
    (hb1 : b + 1 ≤ l.length)
    (hE : ∀ e h', Fly H W A (fun i => i = b ∧ writerS (l.drop (b + 1)) = none) e h' → E e h')
    (q : ∀ h' (d' : RD) n, writerS (l.drop (b + 1)) = some n → d'.Ok l (b + 1 + n) (B + 1) st ps → Step h (d.led x) h' (d'.led x) → Q .none h') :
    Wp (MM w) A (call (.ref 138) [.ref x, .int b tb] []) Q E h := by
  refine enter_rg (n := 5) (P := fun i => i = b ∧ writerS (l.drop (b + 1)) = none) (body := bodyOf (mAt 11 9)) (binds := [("self", .ref x), ("begin", .int b tb)]) D (r : Rm A (5 + 1)) (d.led x) own nd z (kf138 _) (kc138 _) (fun s hs => BindsTo.of_eq (by rfl)) rfl [("begin", .int b tb), ("self", .ref x)] rfl hE (fun L h₀ A' E' h₁ r5 here sub fb stp S => ?_) (locs rfl) (by decide +kernel) rfl rfl rfl
  have hz := R.hz.1
  have refuse : ∀ {Q' : Value → Heap → Prop} {h' : Heap} {m' : Loc} {d' : RD} {t' : Tok}, St w H h₀ L h' m' (d'.led x ++ []) → writerS (l.drop (b + 1)) = none → Wp (MM w) A' (call (.ref 82) [.ref x, .int b t'] []) Q' E' h' :=
    fun S' hn => c_refuse S'.wd (r5.mono (by decide)) (here S') ⟨rfl, hn⟩ fun e h' x => fb x
  generalize hr : l.drop (b + 1) = rr at *
  have e0 : cut rr 0 1 = cut l (b + 1) (b + 2) := by rw [← hr, cut_drop]
  refine st_Assign ?_
  walk_at "w"
  refine r_octets S R fun to => ?_
  walk_at "w"
  rename St _ _ _ _ _ _ _ => S₂
  refine y_cut (i := b + 1) (j := b + 2) S₂ (by lia) (by lia) (by lia) fun h₃ _ S₃ => ?_
  walk_at "w"
  rename St _ _ _ _ _ _ _ => S₄
  have eS : ((cut l (b + 1) (b + 2)).toArray.toList == #[58].toList) = wSg rr := by unfold wSg; rw [e0]
  rw [eS] at S₄
  refine st_If_cut (fun h' => ∃ ta tf, St w H h₀ L h' [("begin", .int b tb), ("self", .ref x), ("octets", .bytes l.toArray to), ("at", .int (b + 1 + w1 rr : Nat) ta), ("flags", .bytes ([] : List UInt8).toArray tf), ("is_signed", .bool (wSg rr))] (d.led x ++ [])) ?_ ?_
  · walk_at "w"
    refine ⟨fun hb => ?_, fun hb => ?_⟩
    · have e1 : w1 rr = 1 := by unfold w1; rw [if_pos hb]
      walk_at "w"
      rename St _ _ _ _ _ _ _ => S₅
      rw [e1]
      rw [show ((b : Int) + 1 + 1) = ((b + 1 + 1 : Nat) : Int) by lia] at S₅
      exact ⟨_, _, S₅⟩
    · have e1 : w1 rr = 0 := by unfold w1; rw [if_neg (by rw [hb]; decide)]
      walk_at "w"
      rw [e1]
      rw [show ((b : Int) + 1) = ((b + 1 + 0 : Nat) : Int) by lia] at S₄
      exact ⟨_, _, S₄⟩
  rintro h₄ ⟨ta, tfg, S₄⟩
  have fin : ∀ {h'} {d' : RD} {m'} n, writerS rr = some n → d'.Ok l (b + 1 + n) (B + 1) st ps → St w H h₀ L h' m' (d'.led x ++ []) → Q .none h' := fun {h' d' m'} n hp R' S' => by
    refine q h' d' n hp R' ?_
    exact stp S'
  have hdl : ∀ n, rr.drop n = l.drop (b + 1 + n) := fun n => by rw [← hr, List.drop_drop]
  have hcl : ∀ i j, cut rr i j = cut l (b + 1 + i) (b + 1 + j) := fun i j => by rw [← hr, cut_drop]
  have hdg : ∀ i, digs rr i = digs l (b + 1 + i) := fun i => by unfold digs; rw [hdl]
  refine st_While (I := fun (j : Nat) h' => (∃ tj tfl fl, St w H h₀ L h' [("begin", .int b tb), ("self", .ref x), ("octets", .bytes l.toArray to), ("at", .int j tj), ("flags", .bytes (fl : List UInt8).toArray tfl), ("is_signed", .bool (wSg rr))] (d.led x ++ []) ∧ fl.length ≤ j) ∧ j + ((l.drop j).takeWhile (wFlag (wSg rr))).length = b + 1 + w2 rr ∧ j ≤ l.length)
    (μ := fun j => l.length - j) (x₀ := b + 1 + w1 rr) ⟨⟨_, _, [], S₄, Nat.zero_le _⟩, by unfold w2; rw [hdl]; lia, by
      unfold w1
      split
      · rename_i hs
        unfold wSg at hs
        rw [hcl] at hs
        have := lt_of_cut (l := l) (i := b + 1) (x := 58) (by simpa using hs)
        have := (List.getElem?_eq_some_iff.mp this).1
        lia
      · lia⟩ ?_
  rintro j J hJ h₅ ⟨⟨tj, tfl, fl, S₅, hfl⟩, hj, hjl⟩
  refine Wp_post (Q := fun c h' => h' = h₅ ∧ c = (match l[j]? with | some x => wFlag (wSg rr) x | none => false)) ?_ ?_
  · walk_at "w"
    refine y_len (by simp; lia) fun _ => ?_
    walk_at "w"
    refine ⟨fun hlt => ?_, fun hlt => ?_⟩
    · have hlt : j < l.length := by simpa using hlt
      have hx := List.getElem?_eq_getElem hlt
      rw [hx]
      walk_at "w"
      refine y_at hx (by lia) rfl fun _ => ?_
      walk_at "w"
      refine y_in (byte_lt _).1 (byte_lt _).2 ?_
      rw [byte_back]
      walk_at "w"
      refine ⟨fun h1 => ?_, fun h1 => ?_⟩
      · walk_at "w"
        exact ⟨rfl, by show _ = wFlag (wSg rr) l[j]; unfold wFlag; rw [h1]; rfl⟩
      · walk_at "w"
        refine ⟨fun h2 => ?_, fun h2 => ?_⟩
        · walk_at "w"
          refine y_at hx (by lia) rfl fun _ => ?_
          walk_at "w"
          refine y_in (byte_lt _).1 (byte_lt _).2 ?_
          rw [byte_back]
          refine truthy_bool ⟨fun h3 => ?_, fun h3 => ?_⟩
          · walk_at "w"
            exact ⟨rfl, by show _ = wFlag (wSg rr) l[j]; unfold wFlag; rw [h1, h2, h3]; rfl⟩
          · walk_at "w"
            exact ⟨rfl, by show _ = wFlag (wSg rr) l[j]; unfold wFlag; rw [h1, h2, h3]; rfl⟩
        · walk_at "w"
          exact ⟨rfl, by show _ = wFlag (wSg rr) l[j]; unfold wFlag; rw [h1, h2]; rfl⟩
    · have hlt : ¬ j < l.length := by simpa using hlt
      rw [List.getElem?_eq_none (by lia)]
      exact ⟨rfl, rfl⟩
  rintro _ _ ⟨rfl, rfl⟩
  refine ⟨fun hc => ?_, fun hc => ?_⟩
  · cases hx : l[j]? with
    | none => rw [hx] at hc; cases hc
    | some y =>
      rw [hx] at hc
      have hlt := (List.getElem?_eq_some_iff.mp hx).1
      walk_at "w"
      refine y_cut (i := j) (j := j + 1) S₅ (by lia) rfl rfl fun h₆ _ S₆ => ?_
      have hc1 : cut l j (j + 1) = [y] := by rw [cut1, hx]
      rw [hc1]
      walk_at "w"
      refine y_add (by simp; lia) fun tf' => ?_
      walk_at "w"
      rename St _ _ _ _ _ _ _ => S₇
      refine hJ (j + 1) _ (Nat.sub_succ_lt_self l.length j hlt) ⟨⟨_, _, fl ++ [y], S₇, by simp; lia⟩, ?_, by lia⟩
      rw [tw_step hx hc] at hj
      simp at hj
      lia
  · rw [tw_end (fun x hx => by rw [hx] at hc; exact hc)] at hj
    obtain rfl : j = b + 1 + w2 rr := by simpa using hj
    refine execs_nil (Seq_next ?_)
    walk_at "w"
    refine c_number (i := b + 1 + w2 rr) S₅.wd (r5.mono (by decide)) (by lia) rfl fun h₆ a₆ o₆ t₁ t₂ X₆ hO₆ => ?_
    have S₆ := S₅.call0 X₆
    refine u_tuple r5.hd (S₆.get (.head _)) hO₆ fun h₇ k₇ => ?_
    have S₇ := (S₆.grow k₇).sub (List.sublist_cons_self _ _)
    have S₇ : St w H h₀ L h₇ _ (d.led x ++ []) := S₇
    walk_at "w"
    rename St _ _ _ _ _ _ _ => S₈
    have e3 : b + 1 + w2 rr + (digs l (b + 1 + w2 rr)).length = b + 1 + w3 rr := by unfold w3; rw [hdg]; lia
    rw [e3] at S₈
    generalize (vals (digs l (b + 1 + w2 rr)) 0 : Nat) = wd at S₈
    have hcut : (cut l (b + 1 + w3 rr) (b + 1 + w3 rr + 1) = [46]) = (cut rr (w3 rr) (w3 rr + 1) = [46]) := by rw [hcl]; rfl
    refine st_If_cut (fun h' => ∃ ta v tw, St w H h₀ L h' [("begin", .int b tb), ("self", .ref x), ("octets", .bytes l.toArray to), ("at", .int (b + 1 + w4 rr : Nat) ta), ("flags", .bytes fl.toArray tfl), ("is_signed", .bool (wSg rr)), ("width", .int wd tw), ("precision", v)] (d.led x ++ [])) ?_ ?_
    · walk_at "w"
      refine y_cut (i := b + 1 + w3 rr) (j := b + 1 + w3 rr + 1) S₈ (by lia) rfl rfl fun h₉ _ S₉ => ?_
      walk_at "w"
      refine ⟨fun hb => ?_, fun hb => ?_⟩
      · have e4 : w4 rr = w3 rr + 1 + (digs rr (w3 rr + 1)).length := by unfold w4; rw [if_pos (hcut ▸ (by simpa using hb))]
        walk_at "w"
        refine c_number (i := b + 1 + w3 rr + 1) S₉.wd (r5.mono (by decide)) (by lia) (by lia) fun h₁₀ a₁₀ o₁₀ t₃ t₄ X₁₀ hO₁₀ => ?_
        have S₁₀ := S₉.call0 X₁₀
        refine u_tuple r5.hd (S₁₀.get (.head _)) hO₁₀ fun h₁₁ k₁₁ => ?_
        have S₁₁ := (S₁₀.grow k₁₁).sub (List.sublist_cons_self _ _)
        have S₁₁ : St w H h₀ L h₁₁ _ (d.led x ++ []) := S₁₁
        walk_at "w"
        rename St _ _ _ _ _ _ _ => S₁₂
        have e5 : b + 1 + w3 rr + 1 + (digs l (b + 1 + w3 rr + 1)).length = b + 1 + w4 rr := by rw [e4, hdg, ← Nat.add_assoc, ← Nat.add_assoc]
        rw [e5] at S₁₂
        exact ⟨_, _, _, S₁₂⟩
      · have e4 : w4 rr = w3 rr := by unfold w4; rw [if_neg (hcut ▸ (by simpa using hb))]
        walk_at "w"
        rw [e4]
        exact ⟨_, _, _, S₉⟩
    rintro h₉ ⟨ta, pv, tw, S₉⟩
    have hgx : rr[w4 rr]? = l[b + 1 + w4 rr]? := by rw [← hr, List.getElem?_drop]
    refine st_If_cut (fun h' => (∃ y, l[b + 1 + w4 rr]? = some y ∧ (#[100, 111, 120, 88, 115] : Array UInt8).contains y = true) ∧ h' = h₉) ?_ ?_
    · walk_at "w"
      refine y_len (by simp; lia) fun _ => ?_
      walk_at "w"
      refine ⟨fun hb => ?_, fun hb => ?_⟩
      · walk_at "w"
        refine r_meth S₉ R (m_refuse _) (tf _ (kf82 _)) (fun _ _ => rfl) ?_
        walk_at "w"
        refine refuse S₉ ?_
        have hb := of_decide_eq_true hb
        unfold writerS
        rw [hgx, List.getElem?_eq_none (by simp at hb; lia)]
      · have hb := of_decide_eq_false hb
        have hlt : b + 1 + w4 rr < l.length := by simp at hb; lia
        have hx := List.getElem?_eq_getElem hlt
        walk_at "w"
        refine y_at hx (by lia) rfl fun _ => ?_
        walk_at "w"
        refine y_notin (byte_lt _).1 (byte_lt _).2 ?_
        rw [byte_back]
        walk_at "w"
        refine ⟨fun hb => ?_, fun hb => ?_⟩
        · walk_at "w"
          refine r_meth S₉ R (m_refuse _) (tf _ (kf82 _)) (fun _ _ => rfl) ?_
          walk_at "w"
          refine refuse S₉ ?_
          unfold writerS
          rw [hgx, hx]
          dsimp only
          rw [if_neg (by simpa using hb)]
        · walk_at "w"
          exact ⟨⟨_, hx, by rw [Bool.not_eq_false'] at hb; exact hb⟩, rfl⟩
    rintro _ ⟨⟨y, hy, hyc⟩, rfl⟩
    walk_at "w"
    refine r_setat (a' := b + 1 + (w4 rr + 1)) S₉ R (by lia) fun h₁₀ d₁₀ R₁₀ S₁₀ => ?_
    walk_at "w"
    refine r_meth S₁₀ R₁₀ (m_put _) (tf _ (kf96 _)) (fun _ _ => rfl) ?_
    walk_at "w"
    refine y_at hy (by lia) rfl fun _ => ?_
    walk_at "w"
    refine s_tuple S₁₀ (Nat.le_of_ble_eq_true rfl) fun T oT h₁₁ hT S₁₁ => ?_
    walk_at "w"
    have S₁₁ : St w H h₀ L h₁₁ _ (((T, oT) :: d₁₀.led x) ++ []) := S₁₁
    refine c_put S₁₁.wd (r5.mono (by decide)) S₁₁.own' S₁₁.nd' R₁₀ hB (row_none hT (by decide)) fun h₁₂ d₁₂ R₁₂ X₁₂ => ?_
    have S₁₂ := St.call S₁₁ X₁₂
    walk_at "w"
    exact fin (w4 rr + 1) (by unfold writerS; rw [hgx, hy]; exact if_pos hyc) (by simpa using R₁₂) S₁₂

end
section
open PySem PySem.W PyProof.Rows PySem.Calls PySem.Spec PySem.SeqAt LCg
set_option Elab.async false
set_option linter.unusedVariables false
set_option maxRecDepth 100000
set_option maxHeartbeats 4000000

section
variable {w : World} {A : Around} {E : Value → Heap → Prop} {hw h₀ h : Heap} {L a : Addr} {m : Loc} {led : Led}
theorem s_last {value slice : Expr} {o : Obj} {items : List Value} {v : Value} {t : Tok} {Q : Value → Heap → Prop} (ho : OLst o (items ++ [v])) (e : h.get? a = some o) (q : Q v h)
    (hs : subscripted slice false (.ref a) (.int (-1) t) = operate [.ref a, .int (-1) t] (getItem (.ref a) (.int (-1) t)) := by with_unfolding_all rfl) :
    Wp (MM w) A (subscriptTail value slice (.ref a) (.int (-1) t)) Q E h := Wp_of fun g d tk os =>
  have hl : Heap.IsList h a (items ++ [v]).toArray := ho.at e
  tail_any hl.typeIs slot_list_getitem.lookup (wpAny_getItem_list_neg hl (by decide) (by simp; lia) (by decide) (by
    have e : (-1 + (((items ++ [v]).toArray.size : Nat) : Int)).toNat = items.length := by simp; lia
    rw [e]; simp) ⟨⟨rfl, rfl, rfl⟩, q⟩) hs
theorem s_mpop {o : Obj} {items : List Value} {pl : Sem Bool} {Q : Value × List Value → Heap → Prop} (ho : OLst o items) (e : h.get? a = some o) (q : Q (.builtin "list.pop", [.ref a]) h) : Wp (MM w) A (getMethod (.ref a) "pop" pl) Q E h := Wp_of fun g d tk os => by
  obtain ⟨n, rfl⟩ := ho
  exact getMethod_builtin ⟨_, e, rfl⟩ PySem.F.plainAttrs_list PySem.F.slot_list_pop PySem.F.type_list_pop (fun a e' => by cases e'; exact ⟨_, e, rfl⟩) ⟨⟨rfl, rfl, rfl⟩, q⟩
theorem erase_last (p : List Value) (y : Value) : ((p ++ [y]).toArray).eraseIdxIfInBounds ((p ++ [y]).toArray.size - 1) = p.toArray := by
  have h : (p ++ [y]).toArray.size - 1 < (p ++ [y]).toArray.size := by simp
  unfold Array.eraseIdxIfInBounds
  rw [dif_pos h]
  apply Array.toList_inj.mp
  rw [Array.toList_eraseIdx]
  simp [List.eraseIdx_append_of_length_le]
theorem s_pop {o : Obj} {items : List Value} {v : Value} {Q : Value → Heap → Prop} (S : St w hw h₀ L h m led) (ho : OLst o (items ++ [v])) (hm : (a, o) ∈ led) (hz : items.length < 16777216)
    (q : ∀ o' h', OLst o' items → (∀ l', Up a o o' led l' → St w hw h₀ L h' m l') → Q v h') : Wp (MM w) A (call (.builtin "list.pop") [.ref a] []) Q E h := Wp_of fun g d tk os => by
  obtain ⟨n, rfl⟩ := ho
  have e := S.get hm
  have hy : (items ++ [v]).toArray[(items ++ [v]).toArray.size - 1]? = some v := by simp
  refine call_meets PySem.F.slot_list_pop ⟨_, e, rfl⟩ PySem.F.entry_list_pop (PySem.F.args_list_pop_1 _) (PySem.MeetsSeq.list_pop_last a _ n v hy (by rw [List.size_toArray, sizeLine_eq]; simp; lia)) ⟨e, ⟨rfl, rfl, rfl⟩, ?_⟩
  have hl := PySem.IsL.update e (fun xs => xs.eraseIdxIfInBounds ((items ++ [v]).toArray.size - 1))
  rw [erase_last] at hl
  exact q _ _ ⟨_, rfl⟩ fun l' u => S.upd u (Heap.SameBut.update ..).extBut hl
end

end
section
open PySem PySem.W PyProof.Rows PySem.Calls PySem.Spec PySem.SeqAt LCg
set_option Elab.async false
set_option linter.unusedVariables false
set_option maxRecDepth 100000
set_option maxHeartbeats 4000000

theorem frL_snoc (fs : List Fr2) (p : Fr2) : frL (fs ++ [p]) = frL fs ++ [p.1, p.2] := by simp [frL]
theorem top_of {rows : List (Option Nat)} {fs : List Fr2} {b : Bool} {st : List Bool} (x : EachF rows fs.reverse (b :: st)) : ∃ fs' p, fs = fs' ++ [p] ∧ FrIs rows p b ∧ EachF rows fs'.reverse st := by
  generalize hr : fs.reverse = r at x
  cases x with
  | @cons p _ r' _ h t =>
    refine ⟨r'.reverse, p, ?_, h, by rw [List.reverse_reverse]; exact t⟩
    have := congrArg List.reverse hr
    simpa using this
theorem EachF.len {rows : List (Option Nat)} {fs : List Fr2} {st : List Bool} (x : EachF rows fs st) : fs.length = st.length := by
  induction x with
  | nil => rfl
  | cons _ _ ih => simp [ih]
theorem flat_il : ∀ (is : List Int) n, Dv.flatL (is.map Dv.int) n = true
  | [], _ => rfl
  | i :: is, n => by show (true && Dv.flatL (is.map Dv.int) n) = true; rw [flat_il is n]; rfl
theorem rd_il {h : Heap} {a : Addr} {o : Obj} {js : List Value} {is : List Int} (ho : h.get? a = some o) (hv : OLst o js) (hi : IL js is) : Rd h (.ref a) (.lst (is.map Dv.int)) :=
  .lst ho hv (by simp [hi.1]) fun j v d h1 h2 => by
    obtain ⟨t, rfl⟩ := hi.2 j v h1
    rw [List.getElem?_map] at h2
    cases hj : is[j]? with
    | none => rw [hj] at h2; cases h2
    | some i =>
      rw [hj] at h2; cases h2
      rw [List.getD_eq_getElem?_getD, hj]
      exact .int _ _
theorem rd_fr {h : Heap} {rows : List (Option Nat)} {p : Fr2} {b : Bool} (x : FrIs rows p b) (h1 : h.get? p.1.1 = some p.1.2) (h2 : h.get? p.2.1 = some p.2.2) : ∃ d, Rd h (.ref p.1.1) d ∧ d.flat 2 = true := by
  obtain ⟨v, is, g1, ⟨js, g2, g3⟩, _, _, g5, g6⟩ := x
  have hd : ∃ dv, Rd h v dv ∧ dv.flat 1 = true := by
    cases b with
    | false => exact ⟨.none, g5 rfl ▸ .none, rfl⟩
    | true => obtain ⟨k, t, e, _⟩ := g6 rfl; exact ⟨.int k, e ▸ .int _ _, rfl⟩
  obtain ⟨dv, r1, f1⟩ := hd
  refine ⟨.lst [dv, .lst (is.map Dv.int)], .lst h1 g1 rfl fun j v d e1 e2 => ?_, ?_⟩
  · match j with
    | 0 => cases e1; cases e2; exact r1
    | 1 => cases e1; cases e2; exact rd_il h2 g2 g3
    | j + 2 => cases e1
  · show (dv.flat 1 && (Dv.flatL (is.map Dv.int) 0 && true)) = true
    rw [f1, flat_il]; rfl
theorem rd_frs {h : Heap} {rows : List (Option Nat)} : ∀ {fs : List Fr2} {st : List Bool}, EachF rows fs st → (∀ p ∈ fs, h.get? p.1.1 = some p.1.2 ∧ h.get? p.2.1 = some p.2.2) →
    ∃ ds, ds.length = fs.length ∧ (∀ (j : Nat) (v : Value) (d : Dv), (fs.map fun p => Value.ref p.1.1)[j]? = some v → ds[j]? = some d → Rd h v d) ∧ Dv.flatL ds 2 = true := fun {fs st} x => by
  induction x with
  | nil => exact fun _ => ⟨[], rfl, fun j v d e1 e2 => by simp at e2, rfl⟩
  | @cons p b fs st hp _ ih =>
    intro hm
    obtain ⟨ds, h1, h2, h3⟩ := ih fun q hq => hm q (.tail _ hq)
    obtain ⟨d, r, f⟩ := rd_fr hp (hm p (.head _)).1 (hm p (.head _)).2
    refine ⟨d :: ds, by simp [h1], fun j v d' e1 e2 => ?_, by show (d.flat 2 && Dv.flatL ds 2) = true; rw [f, h3]; rfl⟩
    cases j with
    | zero => cases e1; cases e2; exact r
    | succ j => exact h2 j v d' e1 e2
theorem flatL_rev : ∀ (ds es : List Dv) n, Dv.flatL ds n = true → Dv.flatL es n = true → Dv.flatL (ds.reverseAux es) n = true
  | [], es, n, _, h => h
  | d :: ds, es, n, h1, h2 => by
    have h1 : (d.flat n && Dv.flatL ds n) = true := h1
    rw [Bool.and_eq_true] at h1
    exact flatL_rev ds (d :: es) n h1.2 (by show (d.flat n && Dv.flatL es n) = true; rw [h1.1, h2]; rfl)

section
variable {w : World} {A : Around} {E : Value → Heap → Prop} {hw h₀ h : Heap} {L x : Addr} {m : Loc} {k : Led} {d : RD} {l : List UInt8} {a B : Nat} {st : List Bool} {ps : List Nat}
theorem mem_fs (S : St w hw h₀ L h m (d.led x ++ k)) : ∀ p ∈ d.fs, h.get? p.1.1 = some p.1.2 ∧ h.get? p.2.1 = some p.2.2 := fun p hp => by
  have h1 : p.1 ∈ frL d.fs := List.mem_flatMap.mpr ⟨p, hp, .head _⟩
  have h2 : p.2 ∈ frL d.fs := List.mem_flatMap.mpr ⟨p, hp, .tail _ (.head _)⟩
  exact ⟨S.get (by simp [RD.led, h1]), S.get (by simp [RD.led, h2])⟩
theorem rd_opened (S : St w hw h₀ L h m (d.led x ++ k)) (R : d.Ok l a B st ps) : ∃ ds, Rd h (.ref d.oa) (.lst ds) ∧ ds.isEmpty = st.isEmpty ∧ (Dv.lst ds).flat 3 = true := by
  obtain ⟨ds, h1, h2, h3⟩ := rd_frs R.hfs (fun p hp => mem_fs S p (List.mem_reverse.mp hp))
  have hl := R.hfs.len
  refine ⟨ds.reverse, .lst (S.get (.tail _ (.tail _ (.tail _ (.tail _ (.head _)))))) R.hoo (by simp [h1]) fun j v e e1 e2 => ?_, ?_, flatL_rev ds [] 2 h3 rfl⟩
  · have hj : j < d.fs.length := by have := (List.getElem?_eq_some_iff.mp e1).1; simpa using this
    refine h2 (d.fs.length - 1 - j) v e ?_ ?_
    · rw [List.map_reverse, List.getElem?_reverse (by rw [List.length_map]; exact Nat.lt_of_le_of_lt (Nat.sub_le _ _) (Nat.sub_lt (Nat.zero_lt_of_lt hj) Nat.one_pos))]
      simp only [List.length_map]
      rw [show d.fs.length - 1 - (d.fs.length - 1 - j) = j from Nat.sub_sub_self (Nat.le_sub_one_of_lt hj)]
      exact e1
    · rw [List.getElem?_reverse (by rw [h1]; simpa using hj)] at e2
      rw [h1] at e2
      simpa using e2
  · rw [List.isEmpty_reverse]
    have hh := h1.trans hl
    cases st with
    | nil => cases ds with
      | nil => rfl
      | cons _ _ => cases hh
    | cons _ _ => cases ds with
      | nil => cases hh
      | cons _ _ => rfl
/- a row laid behind the rows, nothing asked of the frames -/
theorem r_addraw {T : Addr} {oT : Obj} {r : Option Nat} {Q : Value → Heap → Prop} (S : St w hw h₀ L h m ((T, oT) :: (d.led x ++ k))) (hro : OLst d.ro (refs d.rowTl)) (hz : d.rowTl.length ≤ 2000000)
    (q : ∀ h' ro', OLst ro' (refs (d.rowTl ++ [(T, oT)])) → St w hw h₀ L h' m (({ d with ro := ro', rowTl := d.rowTl ++ [(T, oT)], rows := d.rows ++ [r] } : RD).led x ++ k) → Q .none h') : Wp (MM w) A (call (.builtin "list.append") [.ref d.ra, .ref T] []) Q E h := by
  refine s_append S hro (.tail _ (.tail _ (.tail _ (.head _)))) (by rw [refs, List.length_map]; lia) fun ro' h' hro' u => ?_
  have S' := u _ (.tail (.tail (.tail .head)))
  refine q h' ro' (by rw [refs_snoc]; exact hro') ?_
  refine S'.perm ?_
  show ((T, oT) :: (x, instObj 141 d.dx) :: (d.dx, d.od) :: (d.ra, ro') :: (d.ta, baObj d.tx) :: (d.oa, d.oo) :: ((d.rowTl ++ frL d.fs) ++ k)).Perm ((x, instObj 141 d.dx) :: (d.dx, d.od) :: (d.ra, ro') :: (d.ta, baObj d.tx) :: (d.oa, d.oo) :: (((d.rowTl ++ [(T, oT)]) ++ frL d.fs) ++ k))
  refine (List.Perm.swap _ _ _).trans (List.Perm.cons _ ?_)
  refine (List.Perm.swap _ _ _).trans (List.Perm.cons _ ?_)
  refine (List.Perm.swap _ _ _).trans (List.Perm.cons _ ?_)
  refine (List.Perm.swap _ _ _).trans (List.Perm.cons _ ?_)
  refine (List.Perm.swap _ _ _).trans (List.Perm.cons _ ?_)
  rw [List.append_assoc, List.append_assoc, List.append_assoc]
  exact List.perm_middle.symm
theorem Each.setN {T : Addr} {oT : Obj} {tl : Led} {rows : List (Option Nat)} (x : Each StrRow tl rows) : ∀ {i : Nat}, rows[i]? = some none → StrRow (T, oT) none → Each StrRow (tl.set i (T, oT)) rows := by
  induction x with
  | nil => intro i h; cases h
  | cons hp hx ih =>
    intro i h hT
    cases i with
    | zero => cases h; exact .cons hT hx
    | succ i => exact .cons hp (ih h hT)
theorem perm_set {α : Type} : ∀ (tl : List α) (i : Nat) (p : α), i < tl.length → ∃ q, (p :: tl).Perm (q :: tl.set i p)
  | q :: tl, 0, p, _ => ⟨q, List.Perm.swap _ _ _⟩
  | q :: tl, i + 1, p, h => by
    obtain ⟨r, hr⟩ := perm_set tl i p (by simpa using h)
    exact ⟨r, (List.Perm.swap q p tl).trans ((hr.cons q).trans (List.Perm.swap r q _))⟩
/- a row laid in another's place -/
theorem r_setrow {T : Addr} {oT : Obj} {i : Nat} {t : Tok} {Q : Unit → Heap → Prop} (S : St w hw h₀ L h m ((T, oT) :: (d.led x ++ k))) (hro : OLst d.ro (refs d.rowTl)) (hz : d.rowTl.length ≤ 2000000) (hi : i < d.rowTl.length)
    (q : ∀ h' ro', OLst ro' (refs (d.rowTl.set i (T, oT))) → St w hw h₀ L h' m (({ d with ro := ro', rowTl := d.rowTl.set i (T, oT) } : RD).led x ++ k) → Q () h') : Wp (MM w) A (setItem (.ref d.ra) (.int i t) (.ref T)) Q E h := by
  refine s_setItem (k := i) S hro (.tail _ (.tail _ (.tail _ (.head _)))) (by rw [refs, List.length_map]; exact hi) (by rw [refs, List.length_map]; lia) fun ro' h' hro' u => ?_
  have S' := u _ (.tail (.tail (.tail .head)))
  refine q h' ro' (by rw [refs, List.map_set]; exact hro') ?_
  obtain ⟨p, hp⟩ := perm_set d.rowTl i (T, oT) hi
  refine (S'.perm (l' := p :: (({ d with ro := ro', rowTl := d.rowTl.set i (T, oT) } : RD).led x ++ k)) ?_).sub (List.sublist_cons_self _ _)
  show ((T, oT) :: (x, instObj 141 d.dx) :: (d.dx, d.od) :: (d.ra, ro') :: (d.ta, baObj d.tx) :: (d.oa, d.oo) :: ((d.rowTl ++ frL d.fs) ++ k)).Perm (p :: (x, instObj 141 d.dx) :: (d.dx, d.od) :: (d.ra, ro') :: (d.ta, baObj d.tx) :: (d.oa, d.oo) :: (((d.rowTl.set i (T, oT)) ++ frL d.fs) ++ k))
  refine (List.Perm.swap _ _ _).trans (List.Perm.trans (List.Perm.cons _ ?_) (List.Perm.swap _ _ _))
  refine (List.Perm.swap _ _ _).trans (List.Perm.trans (List.Perm.cons _ ?_) (List.Perm.swap _ _ _))
  refine (List.Perm.swap _ _ _).trans (List.Perm.trans (List.Perm.cons _ ?_) (List.Perm.swap _ _ _))
  refine (List.Perm.swap _ _ _).trans (List.Perm.trans (List.Perm.cons _ ?_) (List.Perm.swap _ _ _))
  refine (List.Perm.swap _ _ _).trans (List.Perm.trans (List.Perm.cons _ ?_) (List.Perm.swap _ _ _))
  rw [List.append_assoc, List.append_assoc]
  exact hp.append_right (frL d.fs ++ k)
/- the top frame, turned -/
theorem up_fs {T k : Led} {a : Addr} {o o' : Obj} {fs : List Fr2} {p p' : Fr2} (u : Up a o o' ([p.1, p.2] ++ k) ([p'.1, p'.2] ++ k)) : Up a o o' ((T ++ frL (fs ++ [p])) ++ k) ((T ++ frL (fs ++ [p'])) ++ k) := by
  have e : ∀ p : Fr2, (T ++ frL (fs ++ [p])) ++ k = (T ++ frL fs) ++ ([p.1, p.2] ++ k) := fun p => by rw [frL_snoc]; simp
  rw [e, e]
  exact Up.app u
theorem up_led {a : Addr} {o o' : Obj} {fs : List Fr2} {p p' : Fr2} (hfs : d.fs = fs ++ [p]) (u : Up a o o' ([p.1, p.2] ++ k) ([p'.1, p'.2] ++ k)) : Up a o o' (d.led x ++ k) (({ d with fs := fs ++ [p'] } : RD).led x ++ k) := by
  have := up_fs (T := d.rowTl) (fs := fs) u
  rw [← hfs] at this
  exact .tail (.tail (.tail (.tail (.tail this))))
theorem mem_top {fs : List Fr2} {p : Fr2} (hfs : d.fs = fs ++ [p]) : p.1 ∈ d.led x ++ k ∧ p.2 ∈ d.led x ++ k := by
  have h1 : p.1 ∈ frL d.fs := by rw [hfs, frL_snoc]; simp
  have h2 : p.2 ∈ frL d.fs := by rw [hfs, frL_snoc]; simp
  exact ⟨by simp [RD.led, h1], by simp [RD.led, h2]⟩
end

end
section
noncomputable def branchS (c : UInt8) (st : List Bool) : Option (List Bool) := if c = 63 then some (false :: st) else match st with
  | [] => none
  | b :: st' => if c = 116 then (if b then none else some (true :: st')) else if c = 101 then (if b then some (false :: st') else none) else some st'
theorem eq_byte {c : UInt8} {n : Nat} (h : ((c.toNat : Int) == (n : Int)) = true) : c.toNat = n := by
  have := beq_iff_eq.mp h
  exact_mod_cast this
theorem Wp_hereB {w : World} {A : Around} {E : Value → Heap → Prop} {h : Heap} {α : Type} {Q : α → Heap → Prop} {t : Sem α} {a : α} (x : Wp (MM w) A t (fun v h' => h' = h ∧ v = a) E h) (k : Q a h) : Wp (MM w) A t Q E h :=
  Wp_post x fun v h' q => by obtain ⟨rfl, rfl⟩ := q; exact k

theorem led_top {d : RD} {x : Addr} {fs : List Fr2} {p : Fr2} (hfs : d.fs = fs ++ [p]) : (d.led x ++ []).Perm ([p.2] ++ (({ d with fs := fs } : RD).led x ++ [p.1])) := by
  have e : d.led x ++ [] = (({ d with fs := fs } : RD).led x ++ [p.1]) ++ [p.2] := by simp [RD.led, hfs, frL_snoc]
  rw [e]
  exact List.perm_append_comm
theorem c_read_branch {w : World} {H h : Heap} {W : List Addr} {A : Around} {Q : Value → Heap → Prop} {E : Value → Heap → Prop} {x : Addr} {d : RD} {l : List UInt8} {a B b : Nat} {st : List Bool} {ps : List Nat} {c : UInt8} {tb tc : Tok}
    (D : Wo w H h) (r : Rm A 6) (own : ∀ p ∈ d.led x, h.get? p.1 = some p.2 ∧ H.get? p.1 = none) (nd : (adr (d.led x)).Nodup) (R : d.Ok l a B st ps) (hB : B + 2 ≤ 2000000) (z : Rz H W A (hideAll h (adr (d.led x))))
    (hE : ∀ e h', Fly H W A (fun i => i = b ∧ branchS c st = none) e h' → E e h')
    (q : ∀ h' (d' : RD) st', branchS c st = some st' → d'.Ok l a (B + 2) st' ps → Step h (d.led x) h' (d'.led x) → Q .none h') :
    Wp (MM w) A (call (.ref 131) [.ref x, .int b tb, .int c.toNat tc] []) Q E h := by
  refine enter_rg (n := 5) (P := fun i => i = b ∧ branchS c st = none) (body := bodyOf (mAt 11 8)) (binds := [("self", .ref x), ("begin", .int b tb), ("letter", .int c.toNat tc)]) D (r : Rm A (5 + 1)) (d.led x) own nd z (kf131 _) (kc131 _) (fun s hs => BindsTo.of_eq (by rfl)) rfl [("letter", .int c.toNat tc), ("begin", .int b tb), ("self", .ref x)] rfl hE (fun L h₀ A' E' h₁ r5 here sub fb stp S => ?_) (locs rfl) (by decide +kernel) rfl rfl rfl
  have hz := R.hz.1
  have refuse : ∀ {Q' : Value → Heap → Prop} {h' : Heap} {m' : Loc} {d' : RD} {t' : Tok}, St w H h₀ L h' m' (d'.led x ++ []) → branchS c st = none → Wp (MM w) A' (call (.ref 82) [.ref x, .int b t'] []) Q' E' h' :=
    fun S' hn => c_refuse S'.wd (r5.mono (by decide)) (here S') ⟨rfl, hn⟩ fun e h' x => fb x
  have fin : ∀ {h'} {d' : RD} {m'} st', branchS c st = some st' → d'.Ok l a (B + 2) st' ps → St w H h₀ L h' m' (d'.led x ++ []) → Q .none h' := fun {h' d' m'} n hp R' S' => by
    refine q h' d' n hp R' ?_
    exact stp S'
  refine st_Expr ?_
  walk_at "w"
  refine r_meth S R (m_end_text _) (tf _ (kf89 _)) (fun _ _ => rfl) ?_
  walk_at "w"
  refine c_end_text S.wd (r5.mono (by decide)) S.own' S.nd' R (by lia) fun h₂ d₂ R₂ e₂ X₂ => ?_
  have S₂ := St.call S X₂
  have hB₂ : d₂.rowTl.length + d₂.tx.length + d₂.fs.length ≤ B := R₂.hB
  clear S X₂
  refine st_If_cut (fun h' => c ≠ 63 ∧ h' = h₂) ?_ ?_
  · walk_at "w"
    refine ⟨fun hb => ?_, fun hb => ?_⟩
    · have hc : c = 63 := UInt8.toNat_inj.mp (eq_byte hb)
      walk_at "w"
      refine r_opened S₂ R₂ ?_
      refine s_mappend R₂.hoo (S₂.get (.tail _ (.tail _ (.tail _ (.tail _ (.head _)))))) ?_
      walk_at "w"
      refine s_list S₂ (Nat.le_of_ble_eq_true rfl) fun ja jo h₃ hjo S₃ => ?_
      walk_at "w"
      refine s_list S₃ (Nat.le_of_ble_eq_true rfl) fun fa fo h₄ hfo S₄ => ?_
      walk_at "w"
      refine s_append S₄ R₂.hoo (.tail _ (.tail _ (.tail _ (.tail _ (.tail _ (.tail _ (.head _))))))) (by rw [List.length_map]; lia) fun oo' h₅ hoo' u₅ => ?_
      have S₅ := u₅ _ (.tail (.tail (.tail (.tail (.tail (.tail .head))))))
      walk_at "w"
      refine fin (d' := { d₂ with oo := oo', fs := d₂.fs ++ [((fa, fo), (ja, jo))] }) (false :: st) (if_pos hc) ⟨R₂.hI, R₂.hro, R₂.hrows, R₂.hps, by rw [List.map_append]; exact hoo', ?_, ?_, hz, hB⟩ (S₅.perm ?_)
      · show EachF d₂.rows (d₂.fs ++ [((fa, fo), (ja, jo))]).reverse (false :: st)
        rw [List.reverse_append]
        exact .cons ⟨.none, [], hfo, ⟨[], hjo, .nil⟩, (fun i hi => nomatch hi), Nat.zero_le _, fun _ => rfl, fun h => nomatch h⟩ R₂.hfs
      · show d₂.rowTl.length + d₂.tx.length + (d₂.fs ++ [((fa, fo), (ja, jo))]).length ≤ B + 2
        rw [List.length_append]
        show _ + (_ + 1) ≤ _
        lia
      · have e : (({ d₂ with oo := oo', fs := d₂.fs ++ [((fa, fo), (ja, jo))] } : RD).led x ++ []) = (({ d₂ with oo := oo' } : RD).led x ++ []) ++ [(fa, fo), (ja, jo)] := by simp [RD.led, frL_snoc]
        rw [e]
        exact List.perm_append_comm (l₁ := [(fa, fo), (ja, jo)])
    · walk_at "w"
      exact ⟨fun e => (by subst e; cases hb), rfl⟩
  rintro _ ⟨hc63, rfl⟩
  refine st_If_cut (fun h' => st ≠ [] ∧ St w H h₀ L h' [("letter", .int c.toNat tc), ("begin", .int b tb), ("self", .ref x)] (d₂.led x ++ [])) ?_ ?_
  · walk_at "w"
    refine r_opened S₂ R₂ ?_
    walk_at "w"
    refine s_list S₂ (Nat.le_of_ble_eq_true rfl) fun na no h₃ hno S₃ => ?_
    have S₄ : St w H h₀ L h₃ _ (d₂.led x ++ []) := S₃.sub (List.sublist_cons_self _ _)
    refine gh fun CC kk => ?_
    obtain ⟨ds, rds, hdsE, hfl⟩ := rd_opened S₄ R₂
    refine kk ?_
    clear kk CC
    refine d_eq (n := 3) rds (rd_nil (S₃.get (.head _)) hno) (cmp_nil _) hfl (by have := r5.un; lia) ?_
    rw [eqv_nil, hdsE]
    walk_at "w"
    refine ⟨fun hb => ?_, fun hb => ?_⟩
    · walk_at "w"
      refine r_meth S₄ R₂ (m_refuse _) (tf _ (kf82 _)) (fun _ _ => rfl) ?_
      walk_at "w"
      refine refuse S₄ ?_
      rw [List.isEmpty_iff.mp hb]
      exact if_neg hc63
    · walk_at "w"
      exact ⟨fun e => (by subst e; cases hb), S₄⟩
  rintro h₃ ⟨hst, S₃⟩
  refine gh fun CC kk => ?_
  obtain ⟨b0, st0, rfl⟩ : ∃ b0 st0, st = b0 :: st0 := by cases st with | nil => exact (hst rfl).elim | cons b0 st0 => exact ⟨_, _, rfl⟩
  refine kk ?_
  clear kk CC
  have hbr : branchS c (b0 :: st0) = if c = 116 then (if b0 then none else some (true :: st0)) else if c = 101 then (if b0 then some (false :: st0) else none) else some st0 := if_neg hc63
  refine gh fun CC kk => ?_
  obtain ⟨fs', p, hfs, hF, hE'⟩ := top_of R₂.hfs
  obtain ⟨hp1m, hp2m⟩ := mem_top (x := x) (k := []) hfs
  refine kk ?_
  clear kk CC
  have hoo : OLst d₂.oo ((fs'.map fun p => Value.ref p.1.1) ++ [.ref p.1.1]) := by have := R₂.hoo; rw [hfs, List.map_append] at this; exact this
  clear S₂
  walk_at "w"
  refine r_opened S₃ R₂ ?_
  walk_at "w"
  refine i_neg fun _ => ?_
  refine s_last hoo (S₃.get (.tail _ (.tail _ (.tail _ (.tail _ (.head _)))))) ?_
  walk_at "w"
  rename Heap => h₄
  rename St _ _ _ _ _ _ _ => S₄
  refine gh fun CC kk => ?_
  obtain ⟨v, is, hp1, ⟨js, hp2, hil⟩, hin, hisl, hf0, ht0⟩ := id hF
  refine kk ?_
  clear kk CC
  have hrl := R₂.hrows.len
  refine gh fun CC kk => ?_
  obtain ⟨tI₁, tI₂, hI⟩ := id R₂.hI
  refine kk ?_
  clear kk CC
  have hfl : (fs' ++ [p]).length = d₂.fs.length := by rw [hfs]
  have hfl' : d₂.fs.length = fs'.length + 1 := by rw [hfs]; simp
  refine st_If ?_
  walk_at "w"
  refine ⟨fun hb => ?_, fun hb => ?_⟩
  · have hc : c = 116 := UInt8.toNat_inj.mp (eq_byte hb)
    rw [if_pos hc] at hbr
    refine st_If_cut (fun h' => b0 = false ∧ h' = h₄) ?_ ?_
    · walk_at "w"
      refine s_item (k := 0) hp1 (S₄.get hp1m) rfl (Nat.le_of_ble_eq_true rfl) ?_
      walk_at "w"
      cases b0 with
      | true =>
        refine gh fun CC kk => ?_
        obtain ⟨k, t, rfl, _⟩ := ht0 rfl
        refine kk ?_
        clear kk CC
        walk_at "w"
        refine r_meth S₄ R₂ (m_refuse _) (tf _ (kf82 _)) (fun _ _ => rfl) ?_
        walk_at "w"
        exact refuse S₄ hbr
      | false =>
        obtain rfl := hf0 rfl
        walk_at "w"
        exact ⟨rfl, rfl⟩
    rintro _ ⟨rfl, rfl⟩
    walk_at "w"
    refine r_rows S₄ R₂ ?_
    walk_at "w"
    refine s_len R₂.hro (S₄.get (.tail _ (.tail _ (.head _)))) (by rw [refs, List.length_map]; lia) fun tn => ?_
    walk_at "w"
    refine s_setItem (k := 0) S₄ hp1 hp1m (by simp) (Nat.le_of_ble_eq_true rfl) fun po' h₅ hpo' u₅ => ?_
    simp only [List.set] at hpo'
    have S₅ := u₅ _ (up_led (p' := ((p.1.1, po'), p.2)) hfs .head)
    walk_at "w"
    refine o_get S₅.wd (cl_rows _) (S₅.get (.head _)) (S₅.get (.tail _ (.head _))) hI rfl rfl ?_
    refine s_mappend R₂.hro (S₅.get (.tail _ (.tail _ (.head _)))) ?_
    walk_at "w"
    refine s_tuple S₅ (Nat.le_of_ble_eq_true rfl) fun T oT h₆ hT S₆ => ?_
    walk_at "w"
    refine r_addraw (d := { d₂ with fs := fs' ++ [((p.1.1, po'), p.2)] }) (r := none) S₆ R₂.hro (by show d₂.rowTl.length ≤ _; lia) fun h₇ ro' hro' S₇ => ?_
    walk_at "w"
    refine fin (d' := { d₂ with ro := ro', rowTl := d₂.rowTl ++ [(T, oT)], rows := d₂.rows ++ [none], fs := fs' ++ [((p.1.1, po'), p.2)] }) (true :: st0) (by rw [hbr]; rfl) ⟨R₂.hI, hro', R₂.hrows.snoc (row_none hT (by decide)), ?_, ?_, ?_, ?_, hz, hB⟩ S₇
    · show (d₂.rows ++ [none]).filterMap id = ps
      rw [List.filterMap_append, R₂.hps]; simp
    · show OLst d₂.oo ((fs' ++ [((p.1.1, po'), p.2)]).map _)
      rw [List.map_append]; exact hoo
    · show EachF (d₂.rows ++ [none]) (fs' ++ [((p.1.1, po'), p.2)]).reverse (true :: st0)
      rw [List.reverse_append]
      refine gh fun CC kk => ?_
      obtain ⟨_, _, _, _, g3, g4, _⟩ := hF.grow [none]
      refine kk ?_
      clear kk CC
      refine .cons ⟨_, is, hpo', ⟨js, hp2, hil⟩, fun i hi => ?_, by simp; lia, (fun h => nomatch h), fun _ => ⟨d₂.rowTl.length, tn, by rw [refs, List.length_map], by rw [hrl]; simp⟩⟩ (hE'.grow _)
      refine gh fun CC kk => ?_
      obtain ⟨n, e, hn⟩ := hin i hi
      refine kk ?_
      clear kk CC
      exact ⟨n, e, by rw [List.getElem?_append_left (List.getElem?_eq_some_iff.mp hn).1]; exact hn⟩
    · show (d₂.rowTl ++ [(T, oT)]).length + d₂.tx.length + (fs' ++ [((p.1.1, po'), p.2)]).length ≤ B + 2
      simp
      lia
  · have hc : c ≠ 116 := fun e => (by subst e; cases hb)
    rw [if_neg hc] at hbr
    refine st_If ?_
    walk_at "w"
    refine ⟨fun hb => ?_, fun hb => ?_⟩
    · have hc : c = 101 := UInt8.toNat_inj.mp (eq_byte hb)
      rw [if_pos hc] at hbr
      refine st_If_cut (fun h' => b0 = true ∧ h' = h₄) ?_ ?_
      · walk_at "w"
        refine s_item (k := 0) hp1 (S₄.get hp1m) rfl (Nat.le_of_ble_eq_true rfl) ?_
        walk_at "w"
        cases b0 with
        | false =>
          obtain rfl := hf0 rfl
          walk_at "w"
          refine r_meth S₄ R₂ (m_refuse _) (tf _ (kf82 _)) (fun _ _ => rfl) ?_
          walk_at "w"
          exact refuse S₄ hbr
        | true =>
          refine gh fun CC kk => ?_
          obtain ⟨k, t, rfl, _⟩ := ht0 rfl
          refine kk ?_
          clear kk CC
          walk_at "w"
          exact ⟨rfl, rfl⟩
      rintro _ ⟨rfl, rfl⟩
      refine gh fun CC kk => ?_
      obtain ⟨k, t, rfl, hk⟩ := ht0 rfl
      refine kk ?_
      clear kk CC
      walk_at "w"
      refine s_item (k := 1) hp1 (S₄.get hp1m) rfl (Nat.le_of_ble_eq_true rfl) ?_
      refine s_mappend hp2 (S₄.get hp2m) ?_
      walk_at "w"
      refine r_rows S₄ R₂ ?_
      walk_at "w"
      refine s_len R₂.hro (S₄.get (.tail _ (.tail _ (.head _)))) (by rw [refs, List.length_map]; lia) fun tn => ?_
      walk_at "w"
      refine s_append S₄ hp2 hp2m (by rw [hil.1]; lia) fun jo' h₅ hjo' u₅ => ?_
      have S₅ := u₅ _ (up_led (p' := (p.1, (p.2.1, jo'))) hfs (.tail .head))
      walk_at "w"
      refine o_get S₅.wd (cl_rows _) (S₅.get (.head _)) (S₅.get (.tail _ (.head _))) hI rfl rfl ?_
      refine s_mappend R₂.hro (S₅.get (.tail _ (.tail _ (.head _)))) ?_
      walk_at "w"
      refine s_tuple S₅ (Nat.le_of_ble_eq_true rfl) fun T oT h₆ hT S₆ => ?_
      walk_at "w"
      refine r_addraw (d := { d₂ with fs := fs' ++ [(p.1, (p.2.1, jo'))] }) (r := none) S₆ R₂.hro (by show d₂.rowTl.length ≤ _; lia) fun h₇ ro' hro' S₇ => ?_
      have hro' : OLst ro' (refs (d₂.rowTl ++ [(T, oT)])) := hro'
      have S₇ : St w H h₀ L h₇ _ (({ d₂ with ro := ro', rowTl := d₂.rowTl ++ [(T, oT)], rows := d₂.rows ++ [none], fs := fs' ++ [(p.1, (p.2.1, jo'))] } : RD).led x ++ []) := S₇
      have hrow' := R₂.hrows.snoc (row_none (T := T) hT (by decide))
      walk_at "w"
      refine o_get S₇.wd (cl_rows _) (S₇.get (.head _)) (S₇.get (.tail _ (.head _))) hI rfl rfl ?_
      walk_at "w"
      refine s_len hro' (S₇.get (.tail _ (.tail _ (.head _)))) (by rw [refs, List.length_map, List.length_append]; show _ + 1 ≤ _; lia) fun tn' => ?_
      walk_at "w"
      refine s_tuple S₇ (Nat.le_of_ble_eq_true rfl) fun T' oT' h₈ hT' S₈ => ?_
      walk_at "w"
      refine o_get S₈.wd (cl_rows _) (S₈.get (.tail _ (.head _))) (S₈.get (.tail _ (.tail _ (.head _)))) hI rfl rfl ?_
      walk_at "w"
      refine s_item (k := 0) hp1 (S₈.get (.tail _ (mem_top (d := { d₂ with ro := ro', rowTl := d₂.rowTl ++ [(T, oT)], rows := d₂.rows ++ [none], fs := fs' ++ [(p.1, (p.2.1, jo'))] }) rfl).1)) rfl (Nat.le_of_ble_eq_true rfl) ?_
      refine r_setrow (d := { d₂ with ro := ro', rowTl := d₂.rowTl ++ [(T, oT)], rows := d₂.rows ++ [none], fs := fs' ++ [(p.1, (p.2.1, jo'))] }) S₈ hro' (by show (d₂.rowTl ++ [(T, oT)]).length ≤ _; rw [List.length_append]; show _ + 1 ≤ _; lia) (by show _ < (d₂.rowTl ++ [(T, oT)]).length; rw [List.length_append]; have := (List.getElem?_eq_some_iff.mp hk).1; lia) fun h₉ ro₉ hro₉ S₉ => ?_
      walk_at "w"
      refine s_setItem (k := 0) S₉ hp1 (mem_top (d := { d₂ with ro := ro₉, rowTl := (d₂.rowTl ++ [(T, oT)]).set k (T', oT'), rows := d₂.rows ++ [none], fs := fs' ++ [(p.1, (p.2.1, jo'))] }) rfl).1 (by simp) (Nat.le_of_ble_eq_true rfl) fun po' h₁₀ hpo' u₁₀ => ?_
      simp only [List.set] at hpo'
      have S₁₀ := u₁₀ _ (up_led (d := { d₂ with ro := ro₉, rowTl := (d₂.rowTl ++ [(T, oT)]).set k (T', oT'), rows := d₂.rows ++ [none], fs := fs' ++ [(p.1, (p.2.1, jo'))] }) (p := (p.1, (p.2.1, jo'))) (p' := ((p.1.1, po'), (p.2.1, jo'))) rfl .head)
      walk_at "w"
      refine fin (d' := { d₂ with ro := ro₉, rowTl := (d₂.rowTl ++ [(T, oT)]).set k (T', oT'), rows := d₂.rows ++ [none], fs := fs' ++ [((p.1.1, po'), (p.2.1, jo'))] }) (false :: st0) (by rw [hbr]; rfl) ⟨R₂.hI, hro₉, hrow'.setN (by rw [List.getElem?_append_left (List.getElem?_eq_some_iff.mp hk).1]; exact hk) (row_none hT' (by decide)), ?_, ?_, ?_, ?_, hz, hB⟩ S₁₀
      · show (d₂.rows ++ [none]).filterMap id = ps
        rw [List.filterMap_append, R₂.hps]; simp
      · show OLst d₂.oo ((fs' ++ [((p.1.1, po'), (p.2.1, jo'))]).map _)
        rw [List.map_append]; exact hoo
      · show EachF (d₂.rows ++ [none]) (fs' ++ [((p.1.1, po'), (p.2.1, jo'))]).reverse (false :: st0)
        rw [List.reverse_append]
        refine .cons ⟨_, is ++ [((refs d₂.rowTl).length : Int)], hpo', ⟨_, hjo', hil.snoc⟩, fun i hi => ?_, by simp; lia, (fun _ => rfl), fun h => nomatch h⟩ (hE'.grow _)
        rcases List.mem_append.mp hi with hi | hi
        · refine gh fun CC kk => ?_
          obtain ⟨n, e, hn⟩ := hin i hi
          refine kk ?_
          clear kk CC
          exact ⟨n, e, by rw [List.getElem?_append_left (List.getElem?_eq_some_iff.mp hn).1]; exact hn⟩
        · obtain rfl := List.mem_singleton.mp hi
          exact ⟨_, rfl, by rw [refs, List.length_map, hrl]; simp⟩
      · show ((d₂.rowTl ++ [(T, oT)]).set k (T', oT')).length + d₂.tx.length + (fs' ++ [((p.1.1, po'), (p.2.1, jo'))]).length ≤ B + 2
        simp
        lia
    · have hc : c ≠ 101 := fun e => (by subst e; cases hb)
      rw [if_neg hc] at hbr
      have RW := R₂.wider (B' := B + 2) (by lia) hB
      refine st_If_cut (fun h' => ∃ (d₅ : RD), d₅.fs = fs' ++ [p] ∧ d₅.rows = d₂.rows ∧ d₅.Ok l a (B + 2) (b0 :: st0) ps ∧ St w H h₀ L h' [("letter", .int c.toNat tc), ("begin", .int b tb), ("self", .ref x), ("frame", .ref p.1.1)] (d₅.led x ++ [])) ?_ ?_
      · walk_at "w"
        refine s_item (k := 0) hp1 (S₄.get hp1m) rfl (Nat.le_of_ble_eq_true rfl) ?_
        walk_at "w"
        cases b0 with
        | false =>
          obtain rfl := hf0 rfl
          walk_at "w"
          exact ⟨d₂, hfs, rfl, RW, S₄⟩
        | true =>
          refine gh fun CC kk => ?_
          obtain ⟨k, t, rfl, hk⟩ := ht0 rfl
          refine kk ?_
          clear kk CC
          walk_at "w"
          refine r_rows S₄ R₂ ?_
          walk_at "w"
          refine s_len R₂.hro (S₄.get (.tail _ (.tail _ (.head _)))) (by rw [refs, List.length_map]; lia) fun tn => ?_
          walk_at "w"
          refine s_tuple S₄ (Nat.le_of_ble_eq_true rfl) fun T oT h₅ hT S₅ => ?_
          walk_at "w"
          refine o_get S₅.wd (cl_rows _) (S₅.get (.tail _ (.head _))) (S₅.get (.tail _ (.tail _ (.head _)))) hI rfl rfl ?_
          walk_at "w"
          refine s_item (k := 0) hp1 (S₅.get (.tail _ hp1m)) rfl (Nat.le_of_ble_eq_true rfl) ?_
          refine r_setrow S₅ R₂.hro (by lia) (by have := (List.getElem?_eq_some_iff.mp hk).1; lia) fun h₆ ro₆ hro₆ S₆ => ?_
          walk_at "w"
          exact ⟨{ d₂ with ro := ro₆, rowTl := d₂.rowTl.set k (T, oT) }, hfs, rfl, ⟨R₂.hI, hro₆, R₂.hrows.setN hk (row_none hT (by decide)), R₂.hps, R₂.hoo, R₂.hfs, by rw [List.length_set]; exact RW.hB, hz, hB⟩, S₆⟩
      rintro h₅ qq1
      refine gh fun CC kk => ?_
      obtain ⟨d₅, hfs5, hrw5, R₅, S₅⟩ := qq1
      refine kk ?_
      clear kk CC
      clear S₄ hI
      refine st_For ?_
      walk_at "w"
      refine s_item (k := 1) hp1 (S₅.get (mem_top hfs5).1) rfl (Nat.le_of_ble_eq_true rfl) ?_
      refine for_l (src := [p.2]) r5.hd (fun i m l' => ∃ (d' : RD) (ex : Loc), l' = ({ d' with fs := fs' } : RD).led x ++ [p.1] ∧ m = ([("letter", .int c.toNat tc), ("begin", .int b tb), ("self", .ref x), ("frame", .ref p.1.1)] : Loc) ++ ex ∧ (ex = [] ∨ ∃ v, ex = ([("number", v)] : Loc)) ∧ d'.Ok l a (B + 2) (b0 :: st0) ps ∧ d'.fs = fs' ++ [p] ∧ d'.rows = d₂.rows) (S₅.perm (led_top hfs5)) hp2 (.head _) ⟨d₅, [], rfl, rfl, .inl rfl, R₅, hfs5, hrw5⟩ ?_ ?_
      · rintro i v m l' I o h₆ hv ⟨d', ex, rfl, rfl, hex, R', hfs', hrw'⟩ hit S₆ J hJ
        obtain ⟨t, rfl⟩ := hil.2 i v hv
        have him : is.getD i 0 ∈ is := by
          have : i < is.length := by rw [← hil.1]; exact (List.getElem?_eq_some_iff.mp hv).1
          rw [List.getD_eq_getElem?_getD, List.getElem?_eq_getElem this]; exact List.getElem_mem this
        refine gh fun CC kk => ?_
        obtain ⟨n, hn, hnr⟩ := hin _ him
        refine kk ?_
        clear kk CC
        rw [hn]
        have hnl : n < d'.rowTl.length := by rw [R'.hrows.len, hrw']; exact (List.getElem?_eq_some_iff.mp hnr).1
        have hB' := R'.hB
        refine go_name ?_
        refine as_name ?_
        refine n_store S₆ fun h₇ S₇ => ?_
        rw [put_opt (by kernel_rfl) hex] at S₇
        have S₇ : St w H h₀ L h₇ _ (d'.led x ++ [(I, o)]) := S₇.perm (((led_top hfs').symm.cons (I, o)).trans (by rw [List.append_nil]; exact (List.perm_append_singleton _ _).symm))
        refine gh fun CC kk => ?_
        obtain ⟨tI₁, tI₂, hI'⟩ := id R'.hI
        refine kk ?_
        clear kk CC
        walk_at "w"
        refine r_rows S₇ R' ?_
        walk_at "w"
        refine s_len R'.hro (S₇.get (.tail _ (.tail _ (.head _)))) (by rw [refs, List.length_map]; lia) fun tn => ?_
        walk_at "w"
        refine s_tuple S₇ (Nat.le_of_ble_eq_true rfl) fun T oT h₈ hT S₈ => ?_
        walk_at "w"
        refine o_get S₈.wd (cl_rows _) (S₈.get (.tail _ (.head _))) (S₈.get (.tail _ (.tail _ (.head _)))) hI' rfl rfl ?_
        walk_at "w"
        refine r_setrow S₈ R'.hro (by lia) hnl fun h₉ ro₉ hro₉ S₉ => ?_
        walk_at "w"
        refine hJ _ _ _ (S₉.perm ((List.perm_append_singleton _ _).trans (List.Perm.cons _ ((List.Perm.of_eq (List.append_nil _).symm).trans (led_top (d := { d' with ro := ro₉, rowTl := d'.rowTl.set n (T, oT) }) hfs'))))) ⟨{ d' with ro := ro₉, rowTl := d'.rowTl.set n (T, oT) }, [("number", _)], rfl, rfl, .inr ⟨_, rfl⟩, ⟨R'.hI, hro₉, R'.hrows.setN (by rw [hrw']; exact hnr) (row_none hT (by decide)), R'.hps, R'.hoo, R'.hfs, by rw [List.length_set]; exact hB', hz, hB⟩, hfs', hrw'⟩
      · rintro m l' h₆ ⟨d', ex, rfl, rfl, hex, R', hfs', hrw'⟩ S₆
        have S₆ := S₆.perm (led_top hfs').symm
        have hoo' : OLst d'.oo ((fs'.map fun p => Value.ref p.1.1) ++ [.ref p.1.1]) := by have := R'.hoo; rw [hfs', List.map_append] at this; exact this
        have hB' := R'.hB
        have hl' : d'.fs.length = fs'.length + 1 := by rw [hfs']; simp
        refine Seq_next ?_
        refine st_Expr ?_
        walk_at "w"
        refine r_opened S₆ R' ?_
        refine s_mpop hoo' (S₆.get (.tail _ (.tail _ (.tail _ (.tail _ (.head _)))))) ?_
        walk_at "w"
        refine s_pop S₆ hoo' (.tail _ (.tail _ (.tail _ (.tail _ (.head _))))) (by rw [List.length_map]; lia) fun oo' h₇ hoo₇ u₇ => ?_
        have S₇ := u₇ _ (.tail (.tail (.tail (.tail .head))))
        walk_at "w"
        refine gh fun CC kk => ?_
        obtain ⟨fs₀, p₀, e₀, _, hE₀⟩ := top_of R'.hfs
        refine kk ?_
        clear kk CC
        rw [hfs'] at e₀
        obtain rfl : fs' = fs₀ := (List.append_inj' e₀ rfl).1
        refine fin (d' := { d' with oo := oo', fs := fs' }) st0 hbr ⟨R'.hI, R'.hro, R'.hrows, R'.hps, hoo₇, hE₀, by show d'.rowTl.length + d'.tx.length + fs'.length ≤ B + 2; lia, hz, hB⟩ (S₇.sub ?_)
        have e : (x, instObj 141 d'.dx) :: (d'.dx, d'.od) :: (d'.ra, d'.ro) :: (d'.ta, baObj d'.tx) :: (d'.oa, oo') :: ((d'.rowTl ++ frL d'.fs) ++ []) = (({ d' with oo := oo', fs := fs' } : RD).led x ++ []) ++ [p.1, p.2] := by simp [RD.led, hfs', frL_snoc]
        exact e ▸ List.sublist_append_left _ _

end
section
noncomputable def oneS (st : List Bool) (r : List UInt8) : Option (Nat × List Bool × Option Nat) := match r with
  | [] => none
  | c :: t =>
    if c = 37 then some (1, st, none)
    else if c = 99 then some (1, st, none)
    else if c = 108 then some (1, st, none)
    else if c = 105 then some (1, st, none)
    else if (#[112, 80, 103] : Array UInt8).contains c = true then (namedS c t).map fun p => (2, st, p)
    else if (#[39, 123] : Array UInt8).contains c = true then (constS c t).map fun n => (n + 1, st, none)
    else if (#[43, 45, 42, 47, 109, 38, 124, 94, 61, 62, 60, 65, 79] : Array UInt8).contains c = true then some (1, st, none)
    else if (#[33, 126] : Array UInt8).contains c = true then some (1, st, none)
    else if (#[63, 116, 101, 59] : Array UInt8).contains c = true then (branchS c st).map fun st' => (1, st', none)
    else (writerS (c :: t)).map fun n => (n, st, none)

theorem c_read_one {w : World} {H h : Heap} {W : List Addr} {A : Around} {Q : Value → Heap → Prop} {E : Value → Heap → Prop} {x : Addr} {d : RD} {l : List UInt8} {a B b : Nat} {st : List Bool} {ps : List Nat} {tb : Tok}
    (D : Wo w H h) (r : Rm A 7) (own : ∀ p ∈ d.led x, h.get? p.1 = some p.2 ∧ H.get? p.1 = none) (nd : (adr (d.led x)).Nodup) (R : d.Ok l a B st ps) (hB : B + 2 ≤ 2000000) (z : Rz H W A (hideAll h (adr (d.led x))))
    (hb : b < l.length)
    (hE : ∀ e h', Fly H W A (fun i => i = b ∧ oneS st (l.drop (b + 1)) = none) e h' → E e h')
    (q : ∀ h' (d' : RD) n st' p, oneS st (l.drop (b + 1)) = some (n, st', p) → d'.Ok l (b + 1 + n) (B + 2) st' (ps ++ p.toList) → Step h (d.led x) h' (d'.led x) → Q .none h') :
    Wp (MM w) A (call (.ref 110) [.ref x, .int b tb] []) Q E h := by
  refine enter_rg (n := 6) (P := fun i => i = b ∧ oneS st (l.drop (b + 1)) = none) (body := bodyOf (mAt 11 5)) (binds := [("self", .ref x), ("begin", .int b tb)]) D (r : Rm A (6 + 1)) (d.led x) own nd z (kf110 _) (kc110 _) (fun s hs => BindsTo.of_eq (by rfl)) rfl [("begin", .int b tb), ("self", .ref x)] rfl hE (fun L h₀ A' E' h₁ r6 here sub fb stp S => ?_) (locs rfl) (by decide +kernel) rfl rfl rfl
  have hz := R.hz.1
  have refuse : ∀ {Q' : Value → Heap → Prop} {h' : Heap} {m' : Loc} {d' : RD} {t' : Tok}, St w H h₀ L h' m' (d'.led x ++ []) → oneS st (l.drop (b + 1)) = none → Wp (MM w) A' (call (.ref 82) [.ref x, .int b t'] []) Q' E' h' :=
    fun S' hn => c_refuse S'.wd (r6.mono (by decide)) (here S') ⟨rfl, hn⟩ fun e h' x => fb x
  have fin : ∀ {h'} {d' : RD} {m'} n st' p B', oneS st (l.drop (b + 1)) = some (n, st', p) → d'.Ok l (b + 1 + n) B' st' (ps ++ p.toList) → B' ≤ B + 2 → St w H h₀ L h' m' (d'.led x ++ []) → Q .none h' := fun {h' d' m'} n st' p B' hp R' hB' S' => by
    refine q h' d' n st' p hp (R'.wider hB' hB) ?_
    exact stp S'
  refine st_If_cut (fun h' => b + 1 < l.length ∧ h' = h₁) ?_ ?_
  · walk_at "w"
    refine r_octets S R fun _ => ?_
    walk_at "w"
    refine y_len (by simp; lia) fun _ => ?_
    walk_at "w"
    refine ⟨fun hc => ?_, fun hc => ?_⟩
    · have hc := of_decide_eq_true hc
      walk_at "w"
      refine r_meth S R (m_refuse _) (tf _ (kf82 _)) (fun _ _ => rfl) ?_
      walk_at "w"
      refine refuse S ?_
      rw [List.drop_of_length_le (by simp at hc; lia)]; rfl
    · have hc := of_decide_eq_false hc
      walk_at "w"
      exact ⟨by simp at hc; lia, rfl⟩
  rintro _ ⟨hb1, rfl⟩
  have hx := List.getElem?_eq_getElem hb1
  have hdrop : l.drop (b + 1) = l[b + 1] :: l.drop (b + 2) := List.drop_eq_getElem_cons hb1
  have hone : oneS st (l.drop (b + 1)) = oneS st (l[b + 1] :: l.drop (b + 2)) := by rw [hdrop]
  walk_at "w"
  refine r_octets S R fun _ => ?_
  walk_at "w"
  refine y_at hx (by lia) (by lia) fun tc => ?_
  generalize l[b + 1] = c at *
  walk_at "w"
  rename St _ _ _ _ _ _ _ => S₂
  refine r_setat (a' := b + 2) S₂ R (by lia) fun h₃ d₃ R₃ S₃ => ?_
  have putc : ∀ {Q' : Value → Heap → Prop} {h' : Heap} {m' : Loc} {T : Addr} {oT : Obj} {s : Str} {t : Tok} {rest : List Value}, St w H h₀ L h' m' (((T, oT) :: d₃.led x) ++ []) → OTup oT (.str s t :: rest) → s ≠ "param" → 
      (∀ h'' (d' : RD), d'.Ok l (b + 2) (B + 1) st ps → St w H h₀ L h'' m' (d'.led x ++ []) → Q' .none h'') → Wp (MM w) A' (call (.ref 96) [.ref x, .ref T] []) Q' E' h' := fun S' hT hs q' =>
    c_put S'.wd (r6.mono (by decide)) S'.own' S'.nd' R₃ (by lia) (row_none hT hs) fun h'' d' R' X' => q' h'' d' (by simpa using R') (St.call S' X')
  refine st_If ?_
  walk_at "w"
  refine ⟨fun hb => ?_, fun hb => ?_⟩
  · have hc : c = 37 := UInt8.toNat_inj.mp (eq_byte hb)
    walk_at "w"
    refine r_text S₃ R₃ ?_
    refine r_textmeth S₃ ?_
    walk_at "w"
    refine r_textapp (c := 37) r6.gd S₃ R₃ rfl (by lia) fun h₄ d₄ R₄ S₄ => ?_
    walk_at "w"
    exact fin 1 st none (B + 1) (hone.trans (if_pos hc)) (by simpa using R₄) (by lia) S₄
  have hone := hone.trans (if_neg (fun e => (by subst e; cases hb) : c ≠ 37))
  clear hb
  refine st_If ?_
  walk_at "w"
  refine ⟨fun hb => ?_, fun hb => ?_⟩
  · have hc : c = 99 := UInt8.toNat_inj.mp (eq_byte hb)
    walk_at "w"
    refine r_meth S₃ R₃ (m_put _) (tf _ (kf96 _)) (fun _ _ => rfl) ?_
    walk_at "w"
    refine s_tuple S₃ (Nat.le_of_ble_eq_true rfl) fun T oT h₄ hT S₄ => ?_
    walk_at "w"
    refine putc S₄ hT (by decide) fun h₅ d₅ R₅ S₅ => ?_
    walk_at "w"
    exact fin 1 st none (B + 1) (hone.trans (if_pos hc)) (by simpa using R₅) (by lia) S₅
  have hone := hone.trans (if_neg (fun e => (by subst e; cases hb) : c ≠ 99))
  clear hb
  refine st_If ?_
  walk_at "w"
  refine ⟨fun hb => ?_, fun hb => ?_⟩
  · have hc : c = 108 := UInt8.toNat_inj.mp (eq_byte hb)
    walk_at "w"
    refine r_meth S₃ R₃ (m_put _) (tf _ (kf96 _)) (fun _ _ => rfl) ?_
    walk_at "w"
    refine s_tuple S₃ (Nat.le_of_ble_eq_true rfl) fun T oT h₄ hT S₄ => ?_
    walk_at "w"
    refine putc S₄ hT (by decide) fun h₅ d₅ R₅ S₅ => ?_
    walk_at "w"
    exact fin 1 st none (B + 1) (hone.trans (if_pos hc)) (by simpa using R₅) (by lia) S₅
  have hone := hone.trans (if_neg (fun e => (by subst e; cases hb) : c ≠ 108))
  clear hb
  refine st_If ?_
  walk_at "w"
  refine ⟨fun hb => ?_, fun hb => ?_⟩
  · have hc : c = 105 := UInt8.toNat_inj.mp (eq_byte hb)
    walk_at "w"
    refine r_meth S₃ R₃ (m_put _) (tf _ (kf96 _)) (fun _ _ => rfl) ?_
    walk_at "w"
    refine s_tuple S₃ (Nat.le_of_ble_eq_true rfl) fun T oT h₄ hT S₄ => ?_
    walk_at "w"
    refine putc S₄ hT (by decide) fun h₅ d₅ R₅ S₅ => ?_
    walk_at "w"
    exact fin 1 st none (B + 1) (hone.trans (if_pos hc)) (by simpa using R₅) (by lia) S₅
  have hone := hone.trans (if_neg (fun e => (by subst e; cases hb) : c ≠ 105))
  clear hb
  refine st_If ?_
  walk_at "w"
  refine y_in (byte_lt _).1 (byte_lt _).2 ?_
  rw [byte_back]
  walk_at "w"
  refine ⟨fun hb => ?_, fun hb => ?_⟩
  · have hone := hone.trans (if_pos hb)
    walk_at "w"
    refine r_meth S₃ R₃ (m_read_named _) (tf _ (kf117 _)) (fun _ _ => rfl) ?_
    walk_at "w"
    refine c_read_named S₃.wd (r6.mono (by decide)) S₃.own' S₃.nd' R₃ (by lia) (sub S₃) (fun e h' y => fb (y.to fun i hi => ⟨hi.1, by rw [hone, hi.2]; rfl⟩)) fun h₄ d₄ p hp R₄ X₄ => ?_
    have S₄ := St.call S₃ X₄
    walk_at "w"
    exact fin 2 st p (B + 1) (by rw [hone, hp]; rfl) R₄ (by lia) S₄
  have hone := hone.trans (if_neg (by rw [hb]; decide))
  clear hb
  refine st_If ?_
  walk_at "w"
  refine y_in (byte_lt _).1 (byte_lt _).2 ?_
  rw [byte_back]
  walk_at "w"
  refine ⟨fun hb => ?_, fun hb => ?_⟩
  · have hone := hone.trans (if_pos hb)
    walk_at "w"
    refine r_meth S₃ R₃ (m_read_constant _) (tf _ (kf124 _)) (fun _ _ => rfl) ?_
    walk_at "w"
    refine c_read_constant S₃.wd (r6.mono (by decide)) S₃.own' S₃.nd' R₃ (by lia) (sub S₃) (fun e h' y => fb (y.to fun i hi => ⟨hi.1, by rw [hone, hi.2]; rfl⟩)) fun h₄ d₄ n hn R₄ X₄ => ?_
    have S₄ := St.call S₃ X₄
    walk_at "w"
    rw [show b + 2 + n = b + 1 + (n + 1) by lia] at R₄
    exact fin (n + 1) st none (B + 1) (by rw [hone, hn]; rfl) (by simpa using R₄) (by lia) S₄
  have hone := hone.trans (if_neg (by rw [hb]; decide))
  clear hb
  refine st_If ?_
  walk_at "w"
  refine y_in (byte_lt _).1 (byte_lt _).2 ?_
  rw [byte_back]
  walk_at "w"
  refine ⟨fun hb => ?_, fun hb => ?_⟩
  · have hone := hone.trans (if_pos hb)
    walk_at "w"
    refine r_meth S₃ R₃ (m_put _) (tf _ (kf96 _)) (fun _ _ => rfl) ?_
    walk_at "w"
    refine s_tuple S₃ (Nat.le_of_ble_eq_true rfl) fun T oT h₄ hT S₄ => ?_
    walk_at "w"
    refine putc S₄ hT (by decide) fun h₅ d₅ R₅ S₅ => ?_
    walk_at "w"
    exact fin 1 st none (B + 1) hone (by simpa using R₅) (by lia) S₅
  have hone := hone.trans (if_neg (by rw [hb]; decide))
  clear hb
  refine st_If ?_
  walk_at "w"
  refine y_in (byte_lt _).1 (byte_lt _).2 ?_
  rw [byte_back]
  walk_at "w"
  refine ⟨fun hb => ?_, fun hb => ?_⟩
  · have hone := hone.trans (if_pos hb)
    walk_at "w"
    refine r_meth S₃ R₃ (m_put _) (tf _ (kf96 _)) (fun _ _ => rfl) ?_
    walk_at "w"
    refine s_tuple S₃ (Nat.le_of_ble_eq_true rfl) fun T oT h₄ hT S₄ => ?_
    walk_at "w"
    refine putc S₄ hT (by decide) fun h₅ d₅ R₅ S₅ => ?_
    walk_at "w"
    exact fin 1 st none (B + 1) hone (by simpa using R₅) (by lia) S₅
  have hone := hone.trans (if_neg (by rw [hb]; decide))
  clear hb
  refine st_If ?_
  walk_at "w"
  refine y_in (byte_lt _).1 (byte_lt _).2 ?_
  rw [byte_back]
  walk_at "w"
  refine ⟨fun hb => ?_, fun hb => ?_⟩
  · have hone := hone.trans (if_pos hb)
    walk_at "w"
    refine r_meth S₃ R₃ (m_read_branch _) (tf _ (kf131 _)) (fun _ _ => rfl) ?_
    walk_at "w"
    refine c_read_branch S₃.wd (r6.mono (by decide)) S₃.own' S₃.nd' R₃ (by lia) (sub S₃) (fun e h' y => fb (y.to fun i hi => ⟨hi.1, by rw [hone, hi.2]; rfl⟩)) fun h₄ d₄ st' hn R₄ X₄ => ?_
    have S₄ := St.call S₃ X₄
    walk_at "w"
    exact fin 1 st' none (B + 2) (by rw [hone, hn]; rfl) (by simpa using R₄) (by lia) S₄
  have hone := hone.trans (if_neg (by rw [hb]; decide))
  clear hb
  rw [← hdrop] at hone
  walk_at "w"
  refine r_meth S₃ R₃ (m_read_writer _) (tf _ (kf138 _)) (fun _ _ => rfl) ?_
  walk_at "w"
  refine c_read_writer S₃.wd (r6.mono (by decide)) S₃.own' S₃.nd' R₃ (by lia) (sub S₃) (by lia) (fun e h' y => fb (y.to fun i hi => ⟨hi.1, by rw [hone, hi.2]; rfl⟩)) fun h₄ d₄ n hn R₄ X₄ => ?_
  have S₄ := St.call S₃ X₄
  walk_at "w"
  exact fin n st none (B + 1) (by rw [hone, hn]; rfl) (by simpa using R₄) (by lia) S₄

end
section
noncomputable def runS : Nat → List UInt8 → Nat → List Bool → List Nat → Except Nat (List Nat)
  | 0, _, _, _, _ => .error 0
  | n + 1, [], a, st, ps => if st = [] then .ok ps else .error a
  | n + 1, x :: r, a, st, ps => if x ≠ 37 then runS n r (a + 1) st ps else match oneS st r with
    | none => .error a
    | some (k, st', p) => runS n (r.drop k) (a + 1 + k) st' (ps ++ p.toList)
theorem runS_fuel : ∀ n m r a st ps, r.length < n → r.length < m → runS n r a st ps = runS m r a st ps
  | 0, _, _, _, _, _, h, _ => absurd h (Nat.not_lt_zero _)
  | _, 0, _, _, _, _, _, h => absurd h (Nat.not_lt_zero _)
  | n + 1, m + 1, [], a, st, ps, _, _ => rfl
  | n + 1, m + 1, x :: r, a, st, ps, h1, h2 => by
    simp only [List.length_cons] at h1 h2
    unfold runS
    rw [runS_fuel n m r (a + 1) st ps (Nat.lt_of_succ_lt_succ h1) (Nat.lt_of_succ_lt_succ h2)]
    cases hc : oneS st r with
    | none => rfl
    | some y =>
      obtain ⟨k, st', p⟩ := y
      dsimp only
      rw [runS_fuel n m (r.drop k) (a + 1 + k) st' (ps ++ p.toList) (by rw [List.length_drop]; exact Nat.lt_of_le_of_lt (Nat.sub_le _ _) (Nat.lt_of_succ_lt_succ h1)) (by rw [List.length_drop]; exact Nat.lt_of_le_of_lt (Nat.sub_le _ _) (Nat.lt_of_succ_lt_succ h2))]
noncomputable def prog (r : List UInt8) (a : Nat) (st : List Bool) (ps : List Nat) : Except Nat (List Nat) := runS (r.length + 1) r a st ps
theorem prog_nil (a : Nat) (st : List Bool) (ps : List Nat) : prog [] a st ps = if st = [] then .ok ps else .error a := rfl
theorem prog_char {x : UInt8} (h : x ≠ 37) (r : List UInt8) (a : Nat) (st : List Bool) (ps : List Nat) : prog (x :: r) a st ps = prog r (a + 1) st ps := if_pos h
theorem prog_bad {r : List UInt8} {st : List Bool} (h : oneS st r = none) (a : Nat) (ps : List Nat) : prog (37 :: r) a st ps = .error a := by
  unfold prog runS
  rw [if_neg (by decide), h]
theorem prog_one {r : List UInt8} {st st' : List Bool} {k : Nat} {p : Option Nat} (h : oneS st r = some (k, st', p)) (a : Nat) (ps : List Nat) : prog (37 :: r) a st ps = prog (r.drop k) (a + 1 + k) st' (ps ++ p.toList) := by
  unfold prog
  rw [List.length_cons]
  show (if (37 : UInt8) ≠ 37 then _ else _) = _
  rw [if_neg (by decide), h]
  exact runS_fuel _ _ _ _ _ _ (by rw [List.length_drop]; exact Nat.lt_succ_of_le (Nat.sub_le _ _)) (Nat.lt_succ_self _)
theorem constS_le {c : UInt8} {r : List UInt8} {n : Nat} (h : constS c r = some n) : n ≤ r.length := by
  unfold constS at h
  split at h
  · split at h
    · rename_i h1
      have := (List.getElem?_eq_some_iff.mp (lt_of_cut h1)).1
      cases h; lia
    · cases h
  · split at h
    · split at h
      · rename_i h1
        have := (List.getElem?_eq_some_iff.mp (lt_of_cut h1)).1
        cases h; lia
      · cases h
    · cases h
theorem writerS_le {r : List UInt8} {n : Nat} (h : writerS r = some n) : n ≤ r.length := by
  unfold writerS at h
  split at h
  · rename_i y hy
    have := (List.getElem?_eq_some_iff.mp hy).1
    split at h
    · cases h; lia
    · cases h
  · cases h
theorem of_ite {α : Type} {c : Prop} [Decidable c] {a b : Option α} {P : α → Prop} (h1 : ∀ y, a = some y → P y) (h2 : ∀ y, b = some y → P y) : ∀ y, (if c then a else b) = some y → P y := by
  split
  · exact h1
  · exact h2
theorem of_map {α β : Type} {o : Option α} {f : α → β} {P : β → Prop} (h : ∀ x, o = some x → P (f x)) : ∀ y, o.map f = some y → P y := fun y e => by
  cases o with
  | none => cases e
  | some x => cases e; exact h x rfl
theorem of_some {α : Type} {a : α} {P : α → Prop} (h : P a) : ∀ y, some a = some y → P y := fun y e => Option.some.inj e ▸ h
theorem oneS_all {st : List Bool} {r : List UInt8} : ∀ y, oneS st r = some y → y.1 ≤ r.length := by
  cases r with
  | nil => exact fun y e => nomatch e
  | cons c t =>
    have h1 : ∀ (a : List Bool) (b : Option Nat) (y : Nat × List Bool × Option Nat), some (1, a, b) = some y → y.1 ≤ (c :: t).length := fun a b => of_some (Nat.le_add_left 1 _)
    refine of_ite (h1 _ _) (of_ite (h1 _ _) (of_ite (h1 _ _) (of_ite (h1 _ _) (of_ite (of_map fun p hp => ?_) (of_ite (of_map fun n hn => ?_) (of_ite (h1 _ _) (of_ite (h1 _ _) (of_ite (of_map fun b _ => Nat.le_add_left 1 _) (of_map fun n hn => writerS_le hn)))))))))
    · cases t with
      | nil => cases hp
      | cons y t => exact Nat.le_add_left 2 _
    · exact Nat.succ_le_succ (constS_le hn)
theorem oneS_le {st st' : List Bool} {r : List UInt8} {k : Nat} {p : Option Nat} (h : oneS st r = some (k, st', p)) : k ≤ r.length := oneS_all _ h

theorem c_program {w : World} {H h : Heap} {W : List Addr} {A : Around} {Q : Value → Heap → Prop} {E : Value → Heap → Prop} {x : Addr} {d : RD} {l : List UInt8}
    (D : Wo w H h) (r : Rm A 8) (own : ∀ p ∈ d.led x, h.get? p.1 = some p.2 ∧ H.get? p.1 = none) (nd : (adr (d.led x)).Nodup) (R : d.Ok l 0 0 [] []) (hl : l.length ≤ 900000) (z : Rz H W A (hideAll h (adr (d.led x))))
    (hE : ∀ e h', Fly H W A (fun i => ∃ b : Nat, i = b ∧ prog l 0 [] [] = .error b) e h' → E e h')
    (q : ∀ h' (d' : RD) ps, prog l 0 [] [] = .ok ps → d'.Ok l l.length (2 * l.length + 1) [] ps → Step h (d.led x) h' (d'.led x) → Q (.ref d'.ra) h') :
    Wp (MM w) A (call (.ref 103) [.ref x] []) Q E h := by
  refine enter_r (P := fun i => ∃ b : Nat, i = b ∧ prog l 0 [] [] = .error b) (body := bodyOf (mAt 11 4)) (binds := [("self", .ref x)]) D _ own nd z.frames (kf103 _) (kc103 _) r.dep (fun s hs => BindsTo.of_eq (by rfl)) rfl [("self", .ref x)] rfl hE (fun h₁ S => ?_) (locs rfl) (by decide +kernel) rfl rfl rfl
  have r7 := (r : Rm A (7 + 1)).deeper (env := callEnv fd103 h.objs.size 103)
  have S : St w H (hideAll h (adr (d.led x))) h.objs.size h₁ [("self", .ref x)] (d.led x ++ []) := by rw [List.append_nil]; exact S
  have hz := R.hz.1
  obtain ⟨fl, hfr⟩ := z.frames
  refine st_While' (I := fun (y : Nat × List Bool × List Nat) h' => (∃ (d' : RD), d'.Ok l y.1 (2 * y.1) y.2.1 y.2.2 ∧ St w H (hideAll h (adr (d.led x))) h.objs.size h' [("self", .ref x)] (d'.led x ++ [])) ∧ prog (l.drop y.1) y.1 y.2.1 y.2.2 = prog l 0 [] [] ∧ y.1 ≤ l.length)
    (μ := fun y => l.length - y.1) (x₀ := (0, [], [])) ⟨⟨d, R, S⟩, rfl, Nat.zero_le _⟩ ?_
  rintro ⟨a, st, ps⟩ J hJ h₂ ⟨⟨d₂, R₂, S₂⟩, hp, ha⟩
  dsimp only at R₂ hp ha ⊢
  clear S
  walk_at "w"
  refine r_at S₂ R₂ fun _ => ?_
  walk_at "w"
  refine r_octets S₂ R₂ fun _ => ?_
  walk_at "w"
  refine y_len (by simp; lia) fun _ => ?_
  walk_at "w"
  refine ⟨fun hb => ?_, fun hb => ?_⟩
  · have hlt : a < l.length := by simpa using hb
    have hx := List.getElem?_eq_getElem hlt
    have hdrop : l.drop a = l[a] :: l.drop (a + 1) := List.drop_eq_getElem_cons hlt
    rw [hdrop] at hp
    refine st_If ?_
    walk_at "w"
    refine r_octets S₂ R₂ fun _ => ?_
    walk_at "w"
    refine r_at S₂ R₂ fun _ => ?_
    refine y_at hx (by lia) rfl fun _ => ?_
    walk_at "w"
    refine ⟨fun hb => ?_, fun hb => ?_⟩
    · have hc : l[a] ≠ 37 := fun e => (by rw [e] at hb; cases hb)
      rw [prog_char hc] at hp
      walk_at "w"
      refine r_text S₂ R₂ ?_
      refine r_textmeth S₂ ?_
      walk_at "w"
      refine r_octets S₂ R₂ fun _ => ?_
      walk_at "w"
      refine r_at S₂ R₂ fun _ => ?_
      refine y_at hx (by lia) rfl fun _ => ?_
      walk_at "w"
      refine r_textapp r7.gd S₂ R₂ rfl (by lia) fun h₃ d₃ R₃ S₃ => ?_
      walk_at "w"
      refine r_at S₃ R₃ fun _ => ?_
      walk_at "w"
      refine r_setat (a' := a + 1) S₃ R₃ (by lia) fun h₄ d₄ R₄ S₄ => ?_
      walk_at "w"
      exact hJ (a + 1, st, ps) _ (Nat.sub_succ_lt_self l.length a hlt) ⟨⟨d₄, R₄.wider (by dsimp only; lia) (by dsimp only; lia), S₄⟩, hp, hlt⟩
    · have hc : l[a] = 37 := UInt8.toNat_inj.mp (eq_byte (n := 37) (by simpa using hb))
      rw [hc] at hp
      walk_at "w"
      refine r_meth S₂ R₂ (m_read_one _) (tf _ (kf110 _)) (fun _ _ => rfl) ?_
      walk_at "w"
      refine r_at S₂ R₂ fun _ => ?_
      walk_at "w"
      refine c_read_one S₂.wd (r7.mono (by decide)) S₂.own' S₂.nd' R₂ (by lia) (Rz.sub z S₂ rfl) hlt (fun e h' y => ?_) fun h₃ d₃ n st' p ho R₃ X₃ => ?_
      · exact loop_r (Around.frames_deeper hfr) (fly_b z.frames (y.to fun i hi => ⟨a, hi.1, by rw [← hp]; exact prog_bad hi.2 _ _⟩))
      · have S₃ := St.call S₂ X₃
        have hle := oneS_le ho
        rw [List.length_drop] at hle
        have hle := Nat.add_le_of_le_sub' hlt hle
        walk_at "w"
        rw [prog_one ho, List.drop_drop] at hp
        exact hJ (a + 1 + n, st', ps ++ p.toList) _ (Nat.sub_lt_sub_left hlt (Nat.lt_of_lt_of_le (Nat.lt_succ_self a) (Nat.le_add_right _ _))) ⟨⟨d₃, R₃.wider (by dsimp only; lia) (by dsimp only; lia), S₃⟩, hp, hle⟩
  · have hlt : ¬ a < l.length := by simpa using hb
    obtain rfl : a = l.length := by lia
    rw [List.drop_of_length_le (Nat.le_refl _), prog_nil] at hp
    refine execs_nil (Seq_next ?_)
    walk_at "w"
    refine r_meth S₂ R₂ (m_end_text _) (tf _ (kf89 _)) (fun _ _ => rfl) ?_
    walk_at "w"
    refine c_end_text S₂.wd (r7.mono (by decide)) S₂.own' S₂.nd' R₂ (by lia) fun h₃ d₃ R₃ e₃ X₃ => ?_
    have S₃ := St.call S₂ X₃
    walk_at "w"
    refine st_If_cut (fun h' => st = [] ∧ St w H (hideAll h (adr (d.led x))) h.objs.size h' [("self", .ref x)] (d₃.led x ++ [])) ?_ ?_
    · walk_at "w"
      refine r_opened S₃ R₃ ?_
      walk_at "w"
      refine s_list S₃ (Nat.le_of_ble_eq_true rfl) fun na no h₄ hno S₄ => ?_
      have S₅ : St w H (hideAll h (adr (d.led x))) h.objs.size h₄ _ (d₃.led x ++ []) := S₄.sub (List.sublist_cons_self _ _)
      obtain ⟨ds, rds, hdsE, hfl⟩ := rd_opened S₅ R₃
      refine d_ne (n := 3) rds (rd_nil (S₄.get (.head _)) hno) (cmp_nil _) hfl (by have := r7.un; lia) ?_
      rw [eqv_nil, hdsE]
      walk_at "w"
      refine ⟨fun hb => ?_, fun hb => ?_⟩
      · walk_at "w"
        refine r_meth S₅ R₃ (m_refuse _) (tf _ (kf82 _)) (fun _ _ => rfl) ?_
        walk_at "w"
        refine r_octets S₅ R₃ fun _ => ?_
        walk_at "w"
        refine y_len (by simp; lia) fun _ => ?_
        walk_at "w"
        refine c_refuse (P := fun i => ∃ b : Nat, i = b ∧ prog l 0 [] [] = .error b) S₅.wd (r7.mono (by decide)) (Rz.here z S₅ rfl) ⟨l.length, by simp, ?_⟩ fun e h' x => fly_b z.frames x
        rw [← hp, if_neg]
        intro e
        rw [e] at hb
        cases hb
      · walk_at "w"
        exact ⟨List.isEmpty_iff.mp (by simpa using hb), S₅⟩
    rintro h₄ ⟨rfl, S₄⟩
    walk_at "w"
    refine r_rows S₄ R₃ ?_
    refine q _ d₃ ps (by rw [← hp]; rfl) (R₃.wider (by lia) (by lia)) ?_
    have := S₄.step
    rw [List.append_nil] at this
    exact this

end
section
theorem c_init75 {w : World} {hw h : Heap} {A : Around} {Q : Value → Heap → Prop} {E : Value → Heap → Prop} {x dx : Addr} {l : List UInt8} {t : Tok}
    (D : Wo w hw h) (r : Rm A 2) (own : ∀ p ∈ ([(x, instObj 141 dx), (dx, emptyDict)] : Led), h.get? p.1 = some p.2 ∧ hw.get? p.1 = none) (nd : (adr [(x, instObj 141 dx), (dx, emptyDict)]).Nodup) (hz : l.length ≤ 1000000)
    (q : ∀ h' (d : RD), d.Ok l 0 0 [] [] → Step h [(x, instObj 141 dx), (dx, emptyDict)] h' (d.led x) → Q .none h') :
    Wp (MM w) A (call (.ref 75) [.ref x, .bytes l.toArray t] []) Q E h := by
  refine enter_ret (body := bodyOf (mAt 11 0)) (binds := [("self", .ref x), ("octets", .bytes l.toArray t)]) D _ own nd (kf75 _) (kc75 _) r.dep (fun s hs => BindsTo.of_eq (by rfl)) rfl (fun h₁ S => ?_) (locs rfl) (by decide +kernel) rfl rfl rfl
  have S : St w hw (hideAll h (adr [(x, instObj 141 dx), (dx, emptyDict)])) h.objs.size h₁ [("octets", .bytes l.toArray t), ("self", .ref x)] [(x, instObj 141 dx), (dx, emptyDict)] := S
  have r1 := (r : Rm A (1 + 1)).deeper (env := callEnv fd75 h.objs.size 75)
  refine st_AssignAttr ?_
  walk_at "w"
  refine o_set S (cl_octets _) (.head _) (.tail _ (.head _)) IObj.new (Nat.le_of_ble_eq_true rfl) fun o₁ h₂ I₁ u => ?_
  have S₂ := u _ (.tail .head)
  walk_at "w"
  refine o_set S₂ (cl_at _) (.head _) (.tail _ (.head _)) I₁ (Nat.le_of_ble_eq_true rfl) fun o₂ h₃ I₂ u => ?_
  have S₃ := u _ (.tail .head)
  walk_at "w"
  refine s_list S₃ (Nat.le_of_ble_eq_true rfl) fun ra ro h₄ hro S₄ => ?_
  walk_at "w"
  refine o_set S₄ (cl_rows _) (.tail _ (.head _)) (.tail _ (.tail _ (.head _))) I₂ (Nat.le_of_ble_eq_true rfl) fun o₃ h₅ I₃ u => ?_
  have S₅ := u _ (.tail (.tail .head))
  walk_at "w"
  refine ba_new r1.gd S₅ fun ta h₆ S₆ => ?_
  walk_at "w"
  refine o_set S₆ (cl_text _) (.tail _ (.tail _ (.head _))) (.tail _ (.tail _ (.tail _ (.head _)))) I₃ (Nat.le_of_ble_eq_true rfl) fun o₄ h₇ I₄ u => ?_
  have S₇ := u _ (.tail (.tail (.tail .head)))
  walk_at "w"
  refine s_list S₇ (Nat.le_of_ble_eq_true rfl) fun oa oo h₈ hoo S₈ => ?_
  walk_at "w"
  refine o_set S₈ (cl_opened _) (.tail _ (.tail _ (.tail _ (.head _)))) (.tail _ (.tail _ (.tail _ (.tail _ (.head _))))) I₄ (Nat.le_of_ble_eq_true rfl) fun o₅ h₉ I₅ u => ?_
  have S₉ := u _ (.tail (.tail (.tail (.tail .head))))
  walk_at "w"
  refine q _ ⟨dx, ra, ta, oa, o₅, ro, oo, [], [], [], []⟩ ⟨⟨_, _, I₅⟩, hro, .nil, rfl, hoo, .nil, Nat.zero_le _, hz, Nat.zero_le _⟩ (St.step (S₉.perm ?_))
  show [(oa, oo), (ta, baObj []), (ra, ro), (x, instObj 141 dx), (dx, o₅)].Perm [(x, instObj 141 dx), (dx, o₅), (ra, ro), (ta, baObj []), (oa, oo)]
  generalize (oa, oo) = p1, (ta, baObj []) = p2, (ra, ro) = p3, (x, instObj 141 dx) = p4, (dx, o₅) = p5
  refine (List.reverse_perm [p5, p4, p3, p2, p1]).trans ?_
  refine (List.Perm.swap p4 p5 _).trans ((List.Perm.swap _ _ _).trans ?_)
  exact .swap p4 p5 _

end
section
theorem mk141 (P : Params) : mkOk (KF P) 141 "object.__new__" = true := by kernel_rfl
theorem mks141 (P : Params) : makesIn (KF P) 141 = true := by kernel_rfl
theorem call141 (P : Params) : specialIn (KF P) (.ref 141) "__call__" = some (some (.builtin "type.__call__")) := by kernel_rfl
theorem typ141 (P : Params) : instIn (KF P) (.ref 141) (.type "type") = some true := by kernel_rfl
theorem init141 (P : Params) : findIn (KF P) (.ref 141) "__init__" = some (some (.ref 75)) := by kernel_rfl

theorem c_tparm {w : World} {H h : Heap} {W : List Addr} {A : Around} {Q : Value → Heap → Prop} {E : Value → Heap → Prop} {l : List UInt8} {t : Tok}
    (D : Wo w H h) (r : Rm A 9) (hl : l.length ≤ 900000) (z : Rz H W A h)
    (hE : ∀ e h', Fly H W A (fun i => ∃ b : Nat, i = b ∧ prog l 0 [] [] = .error b) e h' → E e h')
    (q : ∀ h' ra ro rowTl rows ps, prog l 0 [] [] = .ok ps → OLst ro (refs rowTl) → Each StrRow rowTl rows → rows.filterMap id = ps → rowTl.length ≤ 2000000 → Step h [] h' ((ra, ro) :: rowTl) → Q (.ref ra) h') :
    Wp (MM w) A (call (.ref 152) [.bytes l.toArray t] []) Q E h := by
  refine enter_r (P := fun i => ∃ b : Nat, i = b ∧ prog l 0 [] [] = .error b) (body := bodyOf (stAt 12)) (binds := [("octets", .bytes l.toArray t)]) D [] (fun _ h => nomatch h) .nil z.frames (kf152 _) (kc152 _) r.dep (fun s hs => BindsTo.of_eq (by rfl)) rfl [("octets", .bytes l.toArray t)] rfl hE (fun h₁ S => ?_) (locs rfl) (by decide +kernel) rfl rfl rfl
  have S : St w H h h.objs.size h₁ [("octets", .bytes l.toArray t)] [] := S
  have r8 := (r : Rm A (8 + 1)).deeper (env := callEnv fd152 h.objs.size 152)
  refine st_Return ?_
  walk_at "w"
  refine o_new S (mk141 _) (mks141 _) (call141 _) (typ141 _) (init141 _) (tf _ (kf75 _)) fun x dx h₂ S₂ => ?_
  have S₂ : St w H h h.objs.size h₂ _ ([(x, instObj 141 dx), (dx, emptyDict)] ++ []) := S₂
  refine c_init75 S₂.wd (r8.mono (by decide) : Rm _ 3).make S₂.own' S₂.nd' (by lia) fun h₃ d R X => ⟨rfl, ?_⟩
  have S₃ := St.call S₂ X
  walk_at "w"
  refine r_meth S₃ R (m_program _) (tf _ (kf103 _)) (fun _ _ => rfl) ?_
  walk_at "w"
  refine c_program S₃.wd r8 S₃.own' S₃.nd' R hl (Rz.sub z S₃ rfl) (fun e h' y => fly_b z.frames y) fun h₄ d' ps hp R' X' => ?_
  have S₄ := St.call S₃ X'
  refine q _ d'.ra d'.ro d'.rowTl d'.rows ps hp R'.hro R'.hrows R'.hps (by have := R'.hB; lia) ?_
  refine (S₄.sub (l' := (d'.ra, d'.ro) :: d'.rowTl) ?_).step0
  rw [List.append_nil]
  exact .cons _ (.cons _ (.cons_cons _ (.cons _ (.cons _ (List.sublist_append_left _ _)))))
theorem q_eq {w : World} {A : Around} {E : Value → Heap → Prop} {h : Heap} {x y : Str} {t u : Tok} {Q : Value → Heap → Prop} (q : Q (.bool (x == y)) h) : Wp (MM w) A (compareOp .Eq (.str x t) (.str y u)) Q E h := Wp_of fun g d tk o => PyProof.Rows.eq_str ⟨⟨rfl, rfl, rfl⟩, q⟩
theorem s_addl {w : World} {A : Around} {E : Value → Heap → Prop} {hw h₀ h : Heap} {L a b : Addr} {m : Loc} {led : Led} {oa ob : Obj} {vs us : List Value} {Q : Value → Heap → Prop} (S : St w hw h₀ L h m led) (ha : OLst oa vs) (ea : h.get? a = some oa) (hb : OLst ob us) (eb : h.get? b = some ob) (hz : vs.length + us.length ≤ 16777216)
    (q : ∀ c o h', OLst o (vs ++ us) → St w hw h₀ L h' m ((c, o) :: led) → Q (.ref c) h') : Wp (MM w) A (binaryOp .Add (.ref a) (.ref b)) Q E h := Wp_of fun g d tk os => by
  obtain ⟨n, rfl⟩ := ha
  obtain ⟨n', rfl⟩ := hb
  refine PySem.P.add_list ea eb ⟨⟨rfl, rfl, rfl⟩, ?_⟩ (by rw [List.size_toArray, List.size_toArray, sizeLine_eq]; exact hz)
  have e : vs.toArray ++ us.toArray = (vs ++ us).toArray := by simp
  rw [e]
  exact q _ _ _ ⟨0, rfl⟩ (S.push (listOf (vs ++ us).toArray 0))
theorem s_titem0 {w : World} {A : Around} {E : Value → Heap → Prop} {h : Heap} {value slice : Expr} {a : Addr} {o : Obj} {items : List Value} {v : Value} {t : Tok} {Q : Value → Heap → Prop} (ho : OTup o (v :: items)) (e : h.get? a = some o) (q : Q v h)
    (hs : subscripted slice false (.ref a) (.int 0 t) = operate [.ref a, .int 0 t] (getItem (.ref a) (.int 0 t)) := by with_unfolding_all rfl) :
    Wp (MM w) A (subscriptTail value slice (.ref a) (.int 0 t)) Q E h := Wp_of fun g d tk os =>
  item_tupleT (ho.at e) (by lia) (by lia) (j := 0) (by unfold seqIndex?; simp) (by simp) ⟨⟨rfl, rfl, rfl⟩, q⟩ hs
theorem row_str {T : Addr} {o : Obj} {r : Option Nat} (x : StrRow (T, o) r) : ∃ (s : Str) (t : Tok) (rest : List Value), OTup o (.str s t :: rest) ∧ (s == "param") = r.isSome ∧ ∀ n, r = some n → ∃ u, rest = [.int n u] := by
  refine gh fun CC kk => ?_
  obtain ⟨s, t, rest, ho, h⟩ := x
  refine kk ?_
  clear kk CC
  refine ⟨s, t, rest, ho, ?_, ?_⟩
  · cases r with
    | none => exact beq_false_of_ne h
    | some n => rw [h.1]; exact beq_self_eq_true _
  · rintro n rfl; exact h.2

theorem IL.cons {vs : List Value} {is : List Int} {i : Int} {t : Tok} (x : IL vs is) : IL (.int i t :: vs) (i :: is) := ⟨by simp [x.1], fun j v hv => by
  cases j with
  | zero => cases hv; exact ⟨_, rfl⟩
  | succ j => exact x.2 j v hv⟩
theorem foldl_max : ∀ (ps : List Nat) (a : Nat) , a ≤ ps.foldl max a ∧ (∀ p ∈ ps, p ≤ ps.foldl max a) ∧ (ps.foldl max a = a ∨ ps.foldl max a ∈ ps)
  | [], a => ⟨Nat.le_refl _, (fun _ h => nomatch h), .inl rfl⟩
  | p :: ps, a => by
    refine gh fun CC kk => ?_
    obtain ⟨h1, h2, h3⟩ := foldl_max ps (max a p)
    refine kk ?_
    clear kk CC
    rw [List.foldl_cons]
    refine ⟨Nat.le_trans (Nat.le_max_left a p) h1, fun x hx => ?_, ?_⟩
    · rcases List.mem_cons.mp hx with rfl | hx
      · exact Nat.le_trans (Nat.le_max_right a x) h1
      · exact h2 x hx
    · rcases h3 with h3 | h3
      · rw [h3]
        rcases Nat.le_total a p with h | h
        · rw [Nat.max_eq_right h]; exact .inr (.head _)
        · rw [Nat.max_eq_left h]; exact .inl rfl
      · exact .inr (.tail _ h3)
theorem max_is {ps : List Nat} {x : Int} (h1 : x ∈ (0 :: ps.map Int.ofNat : List Int)) (h2 : ∀ y ∈ (0 :: ps.map Int.ofNat : List Int), y ≤ x) : x = (ps.foldl max 0 : Nat) := by
  refine gh fun CC kk => ?_
  obtain ⟨g1, g2, g3⟩ := foldl_max ps 0
  refine kk ?_
  clear kk CC
  have hup : x ≤ (ps.foldl max 0 : Nat) := by
    rcases List.mem_cons.mp h1 with rfl | h
    · lia
    · refine gh fun CC kk => ?_
      obtain ⟨p, hp, rfl⟩ := List.mem_map.mp h
      refine kk ?_
      clear kk CC
      have := g2 p hp
      show (p : Int) ≤ _
      lia
  have hlo : ((ps.foldl max 0 : Nat) : Int) ≤ x := by
    rcases g3 with h | h
    · rw [h]; exact h2 0 (by simp)
    · exact h2 _ (.tail _ (List.mem_map.mpr ⟨_, h, rfl⟩))
  lia
theorem c_most {w : World} {H h : Heap} {W : List Addr} {A : Around} {Q : Value → Heap → Prop} {E : Value → Heap → Prop} {l : List UInt8} {t : Tok}
    (D : Wo w H h) (r : Rm A 10) (hl : l.length ≤ 900000) (z : Rz H W A h)
    (hE : ∀ e h', Fly H W A (fun i => ∃ b : Nat, i = b ∧ prog l 0 [] [] = .error b) e h' → E e h')
    (q : ∀ h' ps t', prog l 0 [] [] = .ok ps → h.StaysIn h' → Q (.int (ps.foldl max 0 : Nat) t') h') :
    Wp (MM w) A (call (.ref 157) [.bytes l.toArray t] []) Q E h := by
  refine enter_r (P := fun i => ∃ b : Nat, i = b ∧ prog l 0 [] [] = .error b) (body := bodyOf (stAt 13)) (binds := [("octets", .bytes l.toArray t)]) D [] (fun _ h => nomatch h) .nil z.frames (kf157 _) (kc157 _) r.dep (fun s hs => BindsTo.of_eq (by rfl)) rfl [("octets", .bytes l.toArray t)] rfl hE (fun h₁ S => ?_) (locs rfl) (by decide +kernel) rfl rfl rfl
  have S : St w H h h.objs.size h₁ [("octets", .bytes l.toArray t)] [] := S
  have r9 := (r : Rm A (9 + 1)).deeper (env := callEnv fd157 h.objs.size 157)
  refine st_Return ?_
  walk_at "w"
  refine s_list S (Nat.le_of_ble_eq_true rfl) fun za zo h₂ hzo S₂ => ?_
  walk_at "w"
  refine e_ListComp (hw := H) (h₀ := h) (L := h.objs.size) (m := [("octets", .bytes l.toArray t)]) (cl := []) ?_ (hclos := by with_unfolding_all rfl)
  walk_at "w"
  refine c_tparm S₂.wd r9 hl (Rz.here z S₂ rfl) (fun e h' y => fly_b z.frames y) fun h₃ ra ro rowTl rows ps hp hro hrows hps hlen X => ?_
  have S₃ := S₂.call0 X
  refine compOn_l (src := (ra, ro) :: rowTl) r9.hd (fun i ys l' => l' = [(za, zo)] ∧ IL ys (((rows.take i).filterMap id).map Int.ofNat)) S₃ hro (.head _) (by rw [refs, List.length_map]; lia) ⟨rfl, .nil⟩ ?_ ?_
  · rintro i v ys l' I o C oC Dd oD mc h₄ hv ⟨rfl, hys⟩ hit hD hC S₄
    refine gh fun CC kk => ?_
    obtain ⟨pr, row, hpm, hpi, hri, rfl, hrow⟩ := hrows.at hv
    obtain ⟨sr, tr, rest, hrow, hpar, hn⟩ := row_str hrow
    refine kk ?_
    clear kk CC
    refine go_name ?_
    refine as_name ?_
    refine c_store S₄ (.tail _ (List.mem_append_right _ (.head _))) hC fun oC1 h₅ hC1 u₅ => ?_
    have S₅ := u₅ _ (.tail (Up.app .head))
    clear hC S₄
    have mC : (C, oC1) ∈ (I, o) :: ((ra, ro) :: rowTl ++ (C, oC1) :: (Dd, oD) :: [(za, zo)]) := .tail _ (List.mem_append_right _ (.head _))
    have hpm' := S₅.get (a := pr.1) (o := pr.2) (.tail _ (List.mem_append_left _ (.tail _ hpm)))
    have htk : (rows.take (i + 1)).filterMap id = (rows.take i).filterMap id ++ row.toList := by
      rw [List.take_add_one, hri, List.filterMap_append]
      cases row <;> rfl
    refine tests_cons ?_
    refine t_Compare ?_
    refine e_Subscript ?_
    refine c_local S₅ mC hC1 lkp_self ?_
    walk_at "w"
    refine s_titem0 hrow hpm' ?_
    walk_at "w"
    refine q_eq ?_
    rw [hpar]
    walk_at "w"
    refine ⟨fun hok => ?_, fun hok => ?_⟩
    · cases hr : row with
      | none => rw [hr] at hok; cases hok
      | some n =>
        obtain ⟨u, rfl⟩ := hn n hr
        refine e_Subscript ?_
        refine c_local S₅ mC hC1 lkp_self ?_
        walk_at "w"
        refine s_titem (k := 1) hrow hpm' rfl (Nat.le_of_ble_eq_true rfl) ?_
        refine ⟨_, _, _, hC1, S₅, rfl, ?_⟩
        rw [htk, hr, List.map_append]
        exact hys.snoc
    · refine ⟨_, _, _, hC1, S₅, rfl, ?_⟩
      cases row with
      | some n => cases hok
      | none => rw [htk]; simpa using hys
  · rintro Dd oD ys l' h₄ hD hys ⟨rfl, hil⟩ S₄
    have hlen : (refs rowTl).length = rows.length := by rw [refs, List.length_map, hrows.len]
    rw [hlen, List.take_length, hps] at hil
    refine s_addl S₄ hzo (S₄.get (by simp)) hD (S₄.get (.head _)) (by have := hys; rw [refs, List.length_map] at this; simp; lia) fun ca co h₅ hco S₅ => ?_
    walk_at "w"
    refine s_max r9.hd (S₅.get (.head _)) hco hil.cons (is := 0 :: ps.map Int.ofNat) (by simp) fun h₆ mx t' k₆ hm1 hm2 => ?_
    rw [max_is hm1 hm2]
    exact q _ ps t' hp fun b o e => k₆ _ _ (S₅.F.keep _ _ e)

end
section
open PySem PySem.W PyProof.Rows PySem.Calls PySem.Spec PySem.SeqAt LCg Builtin Builtin.ObjectAttr Builtin.Getset_descriptor
set_option Elab.async false
set_option linter.unusedVariables false
set_option maxRecDepth 100000
set_option maxHeartbeats 4000000

section
variable {w : World} {A : Around} {E : Value → Heap → Prop} {hw h₀ h : Heap} {L a : Addr} {m : Loc} {led : Led} {env : Env} {rest : List Stmt} {fd : FuncData}
theorem st_Try1 {body hb : List Stmt} {b₀ : Stmt} {ty : Expr} {n : Str} {hpos pos : Pos} {Q : Flow → Heap → Prop}
    (x : Wp (MM w) A (execs body env) (Seq w A rest env Q E) (fun e h₁ => (∃ a, e = .ref a) ∧ Wp (MM w) A (noteFrame e env) (fun _ h₂ => Wp (MM w) A (setFlight e none) (fun _ h₃ =>
      Wp (MM w) (A.mark (some e)) (eval ty env) (fun c h₄ => Wp (MM w) (A.mark (some e)) (excMatches e c) (fun b h₅ => b = true ∧
        Wp (MM w) (A.mark (some e)) (setFlight e none) (fun _ h₆ => Wp (MM w) (A.mark (some e)) (storeName env n e) (fun _ h₇ => Wp (MM w) (A.mark (some e)) (execs (b₀ :: hb) env) (fun f h₈ => f = .next ∧
          Wp (MM w) A (storeName env n .none) (fun _ h₉ => Wp (MM w) A (unbindName env n) (fun _ h₁₀ => Wp (MM w) A (execs rest env) Q E h₁₀) NoE h₉) NoE h₈) NoE h₇) NoE h₆) NoE h₅) NoE h₄) NoE h₃) E h₂) E h₁) h) :
    Wp (MM w) A (execs (.Try body [.ExceptHandler (some ty) (some n) (b₀ :: hb) hpos] [] [] pos :: rest) env) Q E h := execs_cons (by
  rw [arm_exec_Try]
  refine Wp_bind (Wp_standAt ?_)
  unfold tryStmt
  dsimp only [List.isEmpty_nil, List.isEmpty_cons, Bool.false_eq_true, if_false, if_true, Bool.false_and]
  refine Wp_bind (Wp_attempt (Wp_mono x (fun f h₁ q => ?_) (fun e h₁ q => ?_)))
  · cases f with
    | next => exact execs_nil q
    | _ => exact Wp_pure q
  · obtain ⟨⟨a, rfl⟩, q⟩ := q
    refine Wp_bind (Wp_post q fun _ h₂ q => ?_)
    rw [if_neg (by decide)]
    refine Wp_bind (Wp_post q fun _ h₃ q => ?_)
    rw [if_neg (by rw [Bool.false_and]; exact Bool.false_ne_true), if_neg Bool.false_ne_true]
    unfold handleBy
    refine Wp_bind (Wp_holding ?_)
    unfold runOwn
    refine Wp_onRaise (Wp_run (Wc_of_tree rfl ?_))
    show Wp _ (A.mark (some (.ref a))) (do return Fin.done (← (handleWith (.ref a) env [.ExceptHandler (some ty) none [] hpos]).onRaise (fun x => do noteFrame x env; theTreesLotGoes x))) _ _ _
    refine Wp_bind (Wp_onRaise (Wp_noRaise ?_))
    unfold handleWith
    refine Wp_bind (Wp_standAt (Wp_bind (Wp_post q fun c h₄ q => Wp_bind (Wp_standAt (Wp_bind (Wp_post q fun b h₅ q => ?_))))))
    obtain ⟨rfl, q⟩ := q
    refine Wp_pure (Wp_pure (Wp_bind (Wp_pure ?_)))
    dsimp only
    rw [if_neg (by decide)]
    refine Wp_bind (Wp_holding ?_)
    refine Wp_onRaise (Wp_run (Wc_of_tree rfl ?_))
    show Wp _ (A.mark (some (.ref a))) (do return Fin.done (← (handleWith (.ref a) env [.ExceptHandler none (some n) (b₀ :: hb) hpos]).onRaise (fun x => do noteFrame x env; theTreesLotGoes x))) _ _ _
    refine Wp_bind (Wp_onRaise (Wp_noRaise ?_))
    unfold handleWith
    refine Wp_bind (Wp_standAt (Wp_bind (Wp_post q fun _ h₆ q => ?_)))
    dsimp only
    refine Wp_bind (Wp_bindName (Wp_post q fun _ h₇ q => Wp_bind (Wp_attempt (Wp_mono q (fun f h₈ q => ?_) fun _ _ q => q.elim))))
    obtain ⟨rfl, q⟩ := q
    refine Wp_pure (Wp_pure ?_)
    dsimp only
    refine Wp_bind (Wp_holding (Wp_bind (Wp_bindName (Wp_noRaise (Wp_post q fun _ h₉ q => ?_)))))
    unfold unbindBehindTheSuite
    refine Wp_onRaise (Wp_noRaise (Wp_post q fun _ h₁₀ q => Wp_pure q)))

theorem x45_tup (P : Params) : instIn (KF P) (.ref 45) (.type "tuple") = some false := by kernel_rfl
theorem x45_base (P : Params) : mroIn (KF P) 45 (.ref 45) = some true := by kernel_rfl
theorem x_matches {oe : Obj} {Q : Bool → Heap → Prop} (D : Wo w hw h) (he : h.get? a = some oe) (hc : oe.cls = .ref 45) (q : Q true h) : Wp (MM w) A (excMatches (.ref a) (.ref 45)) Q E h := by
  have t1 : Looks (MM w) h (typeOf (.ref a)) (.ref 45) := by have := (Looks.ld (M := MM w) (part := some headPart) he).andThen (f := fun o => pure o.cls) .now; rw [hc] at this; exact this
  have t2 : Looks (MM w) h (isInstance (.ref 45) (.type "tuple")) false := looks_instIn D.K (x45_tup _)
  have t3 : Looks (MM w) h (isSubtype (.ref 45) (.ref 45)) true := looks_mroIn D.K (x45_base _)
  have t4 : Looks (MM w) h (isSubtype (.ref 45) (.type "BaseException")) true := looks_mroIn D.K (l45_base _)
  have t5 : Looks (MM w) h (isType (.ref 45)) true := (Looks.ld (M := MM w) (part := some headPart) (D.K _ _ (k45 _))).andThen .now
  unfold excMatches
  refine Wp_bind (Wp_looks t2 ?_)
  rw [if_neg Bool.false_ne_true]
  refine Wp_bind (Wp_pure ?_)
  dsimp only
  rw [List.forIn_cons]
  refine Wp_bind (Wp_bind (Wp_bind ?_))
  unfold isExcClass
  refine Wp_bind (Wp_looks t5 ?_)
  rw [if_pos rfl]
  refine Wp_looks t4 ?_
  rw [if_neg (by decide)]
  refine Wp_pure ?_
  dsimp only
  rw [List.forIn_nil]
  refine Wp_pure (Wp_bind (Wp_looks t1 ?_))
  rw [List.forIn_cons]
  refine Wp_bind (Wp_bind (Wp_bind (Wp_looks t3 ?_)))
  rw [if_pos rfl]
  exact Wp_pure (Wp_pure (Wp_pure q))
/- storing a name, and what it leaves -/
theorem n_store' {x : Str} {v : Value} {Q : Unit → Heap → Prop} (S : St w hw h₀ L h m led) (q : ∀ h', St w hw h₀ L h' (put x v m) led → Heap.SameBut L h h' → Q () h')
    (hk : fd.scope.kind = .function := by with_unfolding_all rfl) (hl : (callEnv fd L a).kindOf x = some .local := by with_unfolding_all rfl) :
    Wp (MM w) A (storeName (callEnv fd L a) x v) Q E h := Wp_of fun g d tk o =>
  wpAny_storeName_local hl S.F.ns (fun h' hn hs => ⟨⟨rfl, rfl, rfl⟩, q h' ⟨S.D, lk_put x v m ▸ S.F.set hn hs, S.N.set hs, S.nd⟩ hs⟩)
    (by show (fd.scope.kind == .class || (fd.scope.kind == .module && L != fd.globals)) = false; rw [hk]; rfl)
theorem lk_del {x : Str} {v : Value} {b : Loc} (u : Option Value) (hb : (b.all fun p => decide (p.1 ≠ x)) = true) : (fun y => if y = x then u else lk (b ++ [(x, v)]) y) = lk (b ++ (u.elim [] fun u => [(x, u)])) := by
  have e : b ++ [(x, v)] = put x v b := by
    have := put_opt (v := v) (ex := []) hb (.inl rfl)
    rw [List.append_nil] at this
    exact this.symm
  cases u with
  | some u =>
    show _ = lk (b ++ [(x, u)])
    have e' : b ++ [(x, u)] = put x u b := by
      have := put_opt (v := u) (ex := []) hb (.inl rfl)
      rw [List.append_nil] at this
      exact this.symm
    rw [e, e']
    funext y
    rw [lkp, lkp]
    split <;> rfl
  | none =>
    show _ = lk (b ++ [])
    rw [List.append_nil, e]
    funext y
    rw [lkp]
    by_cases h : y = x
    · subst h
      rw [if_pos rfl]
      unfold lk
      symm
      rw [List.lookup_eq_none_iff]
      intro p hp
      have := List.all_eq_true.mp hb p hp
      simpa using fun q => (of_decide_eq_true this) q.symm
    · rw [if_neg h, if_neg h]
/- a name let go -/
theorem n_unbind {x : Str} {v : Value} {b : Loc} {Q : Unit → Heap → Prop} (S : St w hw h₀ L h (b ++ [(x, v)]) led) (hb : (b.all fun p => decide (p.1 ≠ x)) = true) (hv : lk (b ++ [(x, v)]) x = some v)
    (q : ∀ h' ex, (ex = [] ∨ ∃ u, ex = ([(x, u)] : Loc)) → St w hw h₀ L h' (b ++ ex) led → Q () h')
    (hk : fd.scope.kind = .function := by with_unfolding_all rfl) (hl : (callEnv fd L a).kindOf x = some .local := by with_unfolding_all rfl) :
    Wp (MM w) A (unbindName (callEnv fd L a) x) Q E h := Wp_of fun g d tk o =>
  wpAny_unbindName_local hl S.F.ns hv (by show (fd.scope.kind == .class || (fd.scope.kind == .module && L != fd.globals)) = false; rw [hk]; rfl)
    fun h' u hn hs => ⟨⟨rfl, rfl, rfl⟩, q h' _ (by cases u <;> simp) ⟨S.D, lk_del u hb ▸ S.F.set hn hs, S.N.set hs, S.nd⟩⟩
end

end
section
inductive UpS : Led → Led → Prop where
  | nil : UpS [] []
  | cons {a : Addr} {o : Obj} {l l' : Led} (sl : Array (Option Value)) : UpS l l' → UpS ((a, o) :: l) ((a, { o with slots := sl }) :: l')
theorem UpS.adr {l l' : Led} (x : UpS l l') : adr l' = adr l := by
  induction x with
  | nil => rfl
  | cons sl _ ih => show _ :: _ = _ :: _; rw [show List.map _ _ = _ from ih]; rfl
theorem UpS.refl : ∀ l : Led, UpS l l
  | [] => .nil
  | (a, o) :: l => .cons o.slots (UpS.refl l)
theorem UpS.of {h : Heap} : ∀ {l : Led}, (∀ p ∈ l, ∃ sl, h.get? p.1 = some { p.2 with slots := sl }) → ∃ l', UpS l l' ∧ ∀ p ∈ l', h.get? p.1 = some p.2
  | [], _ => ⟨[], .nil, fun _ h => nomatch h⟩
  | (a, o) :: l, hm => by
    refine gh fun CC kk => ?_
    obtain ⟨l', h1, h2⟩ := UpS.of (l := l) fun p hp => hm p (.tail _ hp)
    obtain ⟨sl, e⟩ := hm _ (.head _)
    refine kk ?_
    clear kk CC
    exact ⟨_, .cons sl h1, fun p hp => by
      cases hp with
      | head => exact e
      | tail _ hp => exact h2 p hp⟩
theorem fl_st {w : World} {hw h₀ h h' : Heap} {L a : Addr} {m : Loc} {fr : Led} {lf : List Env} {k : Int} {fl : Value} (S : St w hw h₀ L h m fr) (x : Fl h (L :: adr fr) lf k fl a h') : ∃ fr', UpS fr fr' ∧ St w hw h₀ L h' m fr' := by
  refine gh fun CC kk => ?_
  obtain ⟨fr', h1, h2⟩ := UpS.of (h := h') (l := fr) fun p hp => x.up p.1 (.tail _ (List.mem_map_of_mem hp)) p.2 (S.N p hp).1
  refine kk ?_
  clear kk CC
  refine ⟨fr', h1, S.D, ⟨?_, fun b o e => ?_, S.F.above⟩, fun p hp => ?_, by rw [show fr'.map _ = _ from h1.adr]; exact S.nd⟩
  · refine gh fun CC kk => ?_
    obtain ⟨o, es, ep, ho, hd, r⟩ := S.F.ns
    obtain ⟨sl, e⟩ := x.up L (.head _) o ho
    refine kk ?_
    clear kk CC
    exact ⟨_, es, ep, e, hd, r⟩
  · refine x.stay b o (hideAll_get _ (S.F.keep b o e) fun hm => ?_)
    rcases List.mem_cons.mp hm with rfl | hm
    · exact absurd (Heap.lt_size e) (Nat.not_lt.mpr S.F.above)
    · refine gh fun CC kk => ?_
      obtain ⟨p, hp, rfl⟩ := List.mem_map.mp hm
      refine kk ?_
      clear kk CC
      rw [(S.N p hp).2.2] at e; cases e
  · have hm : p.1 ∈ adr fr := by rw [← h1.adr]; exact List.mem_map_of_mem hp
    refine gh fun CC kk => ?_
    obtain ⟨p', hp', e⟩ := List.mem_map.mp hm
    refine kk ?_
    clear kk CC
    exact ⟨h2 p hp, e ▸ (S.N p' hp').2⟩
theorem ff_next {h h₂ : Heap} {W W' : List Addr} (hs : ∀ b ∈ W, b ∈ W') (hk : ∀ b ∈ W, h₂.get? b = h.get? b) : ∀ {lf : List Env}, h.FunFrames (hideAll h W) lf → h₂.FunFrames (hideAll h₂ W') lf
  | [], _ => trivial
  | env :: lf, x => by
    refine gh fun CC kk => ?_
    obtain ⟨h1, ⟨L, o, h2, h3, h4, h5⟩, h6⟩ := x
    refine kk ?_
    clear kk CC
    have hm : L ∈ W := by
      rcases hide_none h3 with hm | hm
      · exact hm
      · rw [hm] at h4; cases h4
    exact ⟨h1, ⟨L, o, h2, hideAll_none _ (hs L hm), (hk L hm).trans h4, h5⟩, ff_next hs hk h6⟩
noncomputable def Pe (l : List UInt8) (k : Int) : Prop := ∃ b : Nat, k = b ∧ prog l 0 [] [] = .error b
noncomputable def Reads (w : World) (F : Addr) (l : List UInt8) (RV : Value → Prop) : Prop := ∀ {H h : Heap} {A : Around} {W : List Addr} {Q : Value → Heap → Prop} {E : Value → Heap → Prop} {t : Tok}, Wo w H h → Rm A 10 → Rz H W A h →
  (∀ e h', Fly H W A (Pe l) e h' → E e h') → (∀ h' v, RV v → h.StaysIn h' → Q v h') → Wp (MM w) A (call (.ref F) [.bytes l.toArray t] []) Q E h

theorem c_told {w : World} {hw h : Heap} {A : Around} {Q : Value → Heap → Prop} {E : Value → Heap → Prop} {fr : Led} {F : Addr} {fdF : FuncData} {l : List UInt8} {t : Tok} {RV : Value → Prop}
    (D : Wo w hw h) (r : Rm A 11) (own : ∀ p ∈ fr, h.get? p.1 = some p.2 ∧ hw.get? p.1 = none) (nd : (adr fr).Nodup) (hnf : ∀ p ∈ fr, ∀ vs, p.2.data ≠ .fields vs)
    (hfr : ∃ lf, A.frames = some lf ∧ h.FunFrames (hideAll h (adr fr)) lf) (hF : (KF w.params).lookup F = some { cls := .type "function", data := .func fdF }) (rd : Reads w F l RV)
    (q1 : ∀ h' fr' v, RV v → UpS fr fr' → Step h fr h' fr' → Q v h')
    (q2 : ∀ h' fr' a o k t, Pe l k → UpS fr fr' → OLst o [.int k t] → Step h fr h' ((a, o) :: fr') → Q (.ref a) h') :
    Wp (MM w) A (call (.ref 310) [.ref F, .bytes l.toArray t] []) Q E h := by
  refine enter_ret (body := bodyOf (stAt 33)) (binds := [("reader", .ref F), ("octets", .bytes l.toArray t)]) D fr own nd (kf310 _) (kc310 _) r.dep (fun s hs => BindsTo.of_eq (by rfl)) rfl (fun h₁ S => ?_) (locs rfl) (by decide +kernel) rfl rfl rfl
  have S : St w hw (hideAll h (adr fr)) h.objs.size h₁ [("octets", .bytes l.toArray t), ("reader", .ref F)] fr := S
  have r10 := (r : Rm A (10 + 1)).deeper (env := callEnv fd310 h.objs.size 310)
  refine gh fun CC kk => ?_
  obtain ⟨lf, hf, hff⟩ := hfr
  refine kk ?_
  clear kk CC
  refine st_Assign ?_
  walk_at "w"
  rename Heap => h₂
  rename St _ _ _ _ _ _ _ => S₂
  have z : Rz h₂ (h.objs.size :: adr fr) (A.deeper (callEnv fd310 h.objs.size 310)) h₂ := by
    refine ⟨fun b hb o ho vs hd => ?_, _, Around.frames_deeper hf, ?_⟩
    · rcases List.mem_cons.mp hb with rfl | hb
      · refine gh fun CC kk => ?_
        obtain ⟨o', es, ep, ho', hd', _⟩ := S₂.F.ns
        refine kk ?_
        clear kk CC
        rw [ho] at ho'; cases ho'; rw [hd] at hd'; cases hd'
      · refine gh fun CC kk => ?_
        obtain ⟨p, hp, rfl⟩ := List.mem_map.mp hb
        refine kk ?_
        clear kk CC
        have := (S₂.N p hp).1
        rw [ho] at this; cases this
        exact hnf p hp vs hd
    · refine Heap.FunFrames.cons (m := lk _) (fun x => nomatch x) rfl S₂.F.ns (hideAll_none _ (.head _)) (ff_next (fun b hb => .tail _ hb) (fun b hb => ?_) hff)
      refine gh fun CC kk => ?_
      obtain ⟨p, hp, rfl⟩ := List.mem_map.mp hb
      refine kk ?_
      clear kk CC
      rw [(S₂.N p hp).1, (own p hp).1]
  refine st_Try1 ?_
  refine st_Assign ?_
  walk_at "w"
  refine ⟨keeps_fn S₂ hF, ?_⟩
  refine rd (H := h₂) (W := h.objs.size :: adr fr) ⟨⟨S₂.wd.K, S₂.wd.top⟩, fun _ _ e => e⟩ r10 z (fun e h₃ y => ?_) fun h₃ v hv k₃ => ?_
  rotate_left 1
  · have S₃ := S₂.grow k₃
    walk_at "w"
    rename Heap => h₄
    rename St _ _ _ _ _ _ _ => S₄
    exact q1 _ fr v hv (.refl _) S₄.step
  refine gh fun CC kk => ?_
  obtain ⟨env', l', L', a, k, fl, f1, f2, rfl, f4, f5, f6⟩ := fly_b (fd := fd310) ⟨lf, hf⟩ y
  refine kk ?_
  clear kk CC
  rw [Around.frames_deeper hf] at f1
  cases f1
  cases f2
  refine ⟨⟨a, rfl⟩, ?_⟩
  refine Wp_of fun g d tk os => fl_note (Around.frames_deeper hf) rfl f5 f6 fun h₄ x₄ => ⟨⟨rfl, rfl, rfl⟩, ?_⟩
  refine Wp_of fun g d tk os => fl_set (f := none) x₄ fun h₅ x₅ => ⟨⟨rfl, rfl, rfl⟩, ?_⟩
  refine gh fun CC kk => ?_
  obtain ⟨fr₅, u₅, S₅⟩ := fl_st S₂ x₅
  obtain ⟨oe, vs, T, oT, ts, dx, od, t', he, hc, -⟩ := id x₅.exc
  refine kk ?_
  clear kk CC
  walk_at "w"
  refine x_matches S₅.wd he hc ⟨rfl, ?_⟩
  clear he hc
  refine Wp_of fun g d tk os => fl_set (f := none) x₅ fun h₆ x₆ => ⟨⟨rfl, rfl, rfl⟩, ?_⟩
  refine gh fun CC kk => ?_
  obtain ⟨fr₆, u₆, S₆⟩ := fl_st S₂ x₆
  obtain ⟨oe, vs, T, oT, ts, dx, od, t', he, hc, hdx, hd, h1, hTe, hT, hdT, h3, ⟨hod, hI⟩, hen, hnT⟩ := id x₆.exc
  obtain ⟨oL, esL, epL, hoL, hdL, hkL, hfL⟩ := id S₆.F.ns
  refine kk ?_
  clear kk CC
  have haL : a ≠ h.objs.size := fun e => by rw [e, hoL] at he; cases he; rw [hd] at hdL; cases hdL
  have hdL' : dx ≠ h.objs.size := fun e => by
    refine gh fun CC kk => ?_
    obtain ⟨es, n, q1, q2, q3, q4⟩ := id hI
    refine kk ?_
    clear kk CC
    rw [e, hoL] at hod; cases hod
    rw [q1] at hdL; cases hdL
    have := (hfL "told").symm.trans (q3 "told")
    have e0 : lk (put (Str.ofString "found") Value.none [(Str.ofString "octets", Value.bytes l.toArray t), (Str.ofString "reader", Value.ref F)]) "told" = none := by with_unfolding_all rfl
    have e1 : lk [("told", .int k t')] "told" = some (.int k t') := by with_unfolding_all rfl
    rw [e0, e1] at this
    cases this
  refine n_store' S₆ fun h₇ S₇ hs₇ => ?_
  have he₇ := (hs₇.2 a haL).trans he
  have hod₇ := (hs₇.2 dx hdL').trans hod
  walk_at "w"
  refine x_get S₇.wd he₇ hc (fun c e => by rw [hd] at e; cases e) hdx hod₇ hI ?_
  walk_at "w"
  refine s_list S₇ (Nat.le_of_ble_eq_true rfl) fun ca co h₈ hco S₈ => ?_
  walk_at "w"
  refine ⟨rfl, ?_⟩
  rename St _ _ _ _ _ _ _ => S₉
  refine n_store S₉ fun h₁₀ S₁₀ => ?_
  refine n_unbind (b := [("octets", .bytes l.toArray t), ("reader", .ref F), ("found", .ref ca)]) S₁₀ (by kernel_rfl) (by with_unfolding_all rfl) fun h₁₁ ex hex S₁₁ => ?_
  walk_at "w"
  exact q2 _ fr₆ ca co k t' f4 u₆ hco S₁₁.step

end
section
open PySem PySem.W PyProof.Rows PySem.Calls PySem.Spec PySem.SeqAt LCg
set_option Elab.async false
set_option linter.unusedVariables false
set_option maxRecDepth 100000
set_option maxHeartbeats 4000000

/- a stretch of octets that is read through -/
noncomputable def Seg (st st' : List Bool) (qs : List Nat) (l : List UInt8) : Prop := ∀ rest a ps, prog (l ++ rest) a st ps = prog rest (a + l.length) st' (ps ++ qs)
theorem Seg.nil (st : List Bool) : Seg st st [] [] := fun rest a ps => by simp
theorem Seg.app {s₁ s₂ s₃ : List Bool} {q₁ q₂ : List Nat} {l₁ l₂ : List UInt8} (x : Seg s₁ s₂ q₁ l₁) (y : Seg s₂ s₃ q₂ l₂) : Seg s₁ s₃ (q₁ ++ q₂) (l₁ ++ l₂) := fun rest a ps => by
  rw [List.append_assoc, x, y, List.append_assoc, List.length_append, Nat.add_assoc]
theorem Seg.char {c : UInt8} (h : c ≠ 37) (st : List Bool) : Seg st st [] [c] := fun rest a ps => by
  rw [List.append_nil]; exact prog_char h rest a st ps
theorem Seg.one {st st' : List Bool} {p : Option Nat} {l : List UInt8} (h : ∀ rest, oneS st (l ++ rest) = some (l.length, st', p)) : Seg st st' p.toList (37 :: l) := fun rest a ps => by
  show prog (37 :: (l ++ rest)) a st ps = _
  rw [prog_one (h rest), List.drop_left, List.length_cons]
  congr 1
  lia
theorem sg_if (st : List Bool) : Seg st (false :: st) [] [37, 63] := Seg.one (p := none) (l := [63]) fun rest => by kernel_rfl
theorem sg_then (st : List Bool) : Seg (false :: st) (true :: st) [] [37, 116] := Seg.one (p := none) (l := [116]) fun rest => by kernel_rfl
theorem sg_else (st : List Bool) : Seg (true :: st) (false :: st) [] [37, 101] := Seg.one (p := none) (l := [101]) fun rest => by kernel_rfl
theorem sg_end (b : Bool) (st : List Bool) : Seg (b :: st) st [] [37, 59] := Seg.one (p := none) (l := [59]) fun rest => by kernel_rfl
theorem sg0 (st : List Bool) : Seg st st [] [98] := Seg.char (by decide) st
theorem sg1 (st : List Bool) : Seg st st [] [97] := Seg.char (by decide) st
theorem sg2 (st : List Bool) : Seg st st [] [37, 37] := Seg.one (p := none) (l := [37]) fun rest => by kernel_rfl
theorem sg3 (st : List Bool) : Seg st st [3] [37, 112, 51] := Seg.one (p := (some 3)) (l := [112, 51]) fun rest => by kernel_rfl
theorem sg4 (st : List Bool) : Seg st st [] [48] := Seg.char (by decide) st
theorem sg5 (st : List Bool) : Seg st st [1] [37, 112, 49] := Seg.one (p := (some 1)) (l := [112, 49]) fun rest => by kernel_rfl
theorem sg6 (st : List Bool) : Seg st st [] [37, 123, 49, 50, 125] := Seg.one (p := none) (l := [123, 49, 50, 125]) fun rest => by kernel_rfl
theorem sg7 (st : List Bool) : Seg st st [] [37, 123, 45, 53, 125] := Seg.one (p := none) (l := [123, 45, 53, 125]) fun rest => by kernel_rfl
theorem sg8 (st : List Bool) : Seg st st [] [37, 39, 120, 39] := Seg.one (p := none) (l := [39, 120, 39]) fun rest => by kernel_rfl
theorem sg9 (st : List Bool) : Seg st st [] [37, 39, 39, 39] := Seg.one (p := none) (l := [39, 39, 39]) fun rest => by kernel_rfl
theorem sg10 (st : List Bool) : Seg st st [] [37, 80, 65] := Seg.one (p := none) (l := [80, 65]) fun rest => by kernel_rfl
theorem sg11 (st : List Bool) : Seg st st [] [37, 103, 122] := Seg.one (p := none) (l := [103, 122]) fun rest => by kernel_rfl
theorem sg12 (st : List Bool) : Seg st st [] [37, 100] := Seg.one (p := none) (l := [100]) fun rest => by kernel_rfl
theorem sg13 (st : List Bool) : Seg st st [9] [37, 112, 57] := Seg.one (p := (some 9)) (l := [112, 57]) fun rest => by kernel_rfl
theorem sg14 (st : List Bool) : Seg st st [] [37, 58, 45, 53, 100] := Seg.one (p := none) (l := [58, 45, 53, 100]) fun rest => by kernel_rfl
theorem sg15 (st : List Bool) : Seg st st [2] [37, 112, 50] := Seg.one (p := (some 2)) (l := [112, 50]) fun rest => by kernel_rfl
theorem sg16 (st : List Bool) : Seg st st [] [37, 48, 53, 46, 51, 120] := Seg.one (p := none) (l := [48, 53, 46, 51, 120]) fun rest => by kernel_rfl
theorem sg17 (st : List Bool) : Seg st st [] [37, 35, 111] := Seg.one (p := none) (l := [35, 111]) fun rest => by kernel_rfl
theorem sg18 (st : List Bool) : Seg st st [] [37, 108] := Seg.one (p := none) (l := [108]) fun rest => by kernel_rfl
theorem sg19 (st : List Bool) : Seg st st [4] [37, 112, 52] := Seg.one (p := (some 4)) (l := [112, 52]) fun rest => by kernel_rfl
theorem sg20 (st : List Bool) : Seg st st [] [37, 43] := Seg.one (p := none) (l := [43]) fun rest => by kernel_rfl
theorem sg21 (st : List Bool) : Seg st st [6] [37, 112, 54] := Seg.one (p := (some 6)) (l := [112, 54]) fun rest => by kernel_rfl
theorem sg22 (st : List Bool) : Seg st st [5] [37, 112, 53] := Seg.one (p := (some 5)) (l := [112, 53]) fun rest => by kernel_rfl
theorem sg23 (st : List Bool) : Seg st st [] [37, 105] := Seg.one (p := none) (l := [105]) fun rest => by kernel_rfl
theorem sg24 (st : List Bool) : Seg st st [] [62] := Seg.char (by decide) st
theorem sg25 (st : List Bool) : Seg st st [] [53] := Seg.char (by decide) st
theorem sg26 (st : List Bool) : Seg st st [] [60] := Seg.char (by decide) st
theorem sg27 (st : List Bool) : Seg st st [] [36] := Seg.char (by decide) st
theorem sg28 (st : List Bool) : Seg st st [] [100] := Seg.char (by decide) st
theorem sg29 (st : List Bool) : Seg st st [] [37, 45] := Seg.one (p := none) (l := [45]) fun rest => by kernel_rfl
theorem sg30 (st : List Bool) : Seg st st [] [37, 58, 100] := Seg.one (p := none) (l := [58, 100]) fun rest => by kernel_rfl
theorem sg31 (st : List Bool) : Seg st st [] [37, 46, 100] := Seg.one (p := none) (l := [46, 100]) fun rest => by kernel_rfl
theorem sg32 (st : List Bool) : Seg st st [] [37, 126] := Seg.one (p := none) (l := [126]) fun rest => by kernel_rfl
theorem sg33 (st : List Bool) : Seg st st [] [37, 33] := Seg.one (p := none) (l := [33]) fun rest => by kernel_rfl
theorem sg34 (st : List Bool) : Seg st st [7] [37, 112, 55] := Seg.one (p := (some 7)) (l := [112, 55]) fun rest => by kernel_rfl
theorem sg35 (st : List Bool) : Seg st st [] [37, 115] := Seg.one (p := none) (l := [115]) fun rest => by kernel_rfl
theorem sg36 (st : List Bool) : Seg st st [8] [37, 112, 56] := Seg.one (p := (some 8)) (l := [112, 56]) fun rest => by kernel_rfl
noncomputable def goodL : List (List UInt8 × Int) := [([97, 98], 0), ([37, 37], 0), ([37, 112, 51], 3), ([37, 112, 49, 48], 1), ([37, 123, 49, 50, 125], 0), ([37, 123, 45, 53, 125], 0), ([37, 39, 120, 39], 0), ([37, 39, 39, 39], 0), ([37, 80, 65], 0), ([37, 103, 122], 0), ([37, 112, 57, 37, 100], 9), ([37, 112, 50, 37, 58, 45, 53, 100], 2), ([37, 112, 49, 37, 48, 53, 46, 51, 120], 1), ([37, 35, 111], 0), ([37, 112, 52, 37, 108], 4), ([37, 112, 53, 37, 112, 54, 37, 43], 6), ([37, 105], 0), ([36, 60, 53, 62], 0), ([37, 45, 53, 100], 0), ([37, 58, 100], 0), ([37, 46, 100], 0), ([37, 112, 55, 37, 33, 37, 126], 7), ([37, 112, 56, 37, 115], 8), ([37], -1)]
noncomputable def goodQ : List (List UInt8 × List Nat) := [([97, 98], []), ([37, 37], []), ([37, 112, 51], [3]), ([37, 112, 49, 48], [1]), ([37, 123, 49, 50, 125], []), ([37, 123, 45, 53, 125], []), ([37, 39, 120, 39], []), ([37, 39, 39, 39], []), ([37, 80, 65], []), ([37, 103, 122], []), ([37, 112, 57, 37, 100], [9]), ([37, 112, 50, 37, 58, 45, 53, 100], [2]), ([37, 112, 49, 37, 48, 53, 46, 51, 120], [1]), ([37, 35, 111], []), ([37, 112, 52, 37, 108], [4]), ([37, 112, 53, 37, 112, 54, 37, 43], [5, 6]), ([37, 105], []), ([36, 60, 53, 62], []), ([37, 45, 53, 100], []), ([37, 58, 100], []), ([37, 46, 100], []), ([37, 112, 55, 37, 33, 37, 126], [7]), ([37, 112, 56, 37, 115], [8])]
theorem goodQ_seg : ∀ x ∈ goodQ, ∀ st, Seg st st x.2 x.1 := by
  intro x hx st
  unfold goodQ at hx
  rcases List.mem_cons.mp hx with rfl | hx
  · exact ((sg1 st).app (sg0 st))
  rcases List.mem_cons.mp hx with rfl | hx
  · exact (sg2 st)
  rcases List.mem_cons.mp hx with rfl | hx
  · exact (sg3 st)
  rcases List.mem_cons.mp hx with rfl | hx
  · exact ((sg5 st).app (sg4 st))
  rcases List.mem_cons.mp hx with rfl | hx
  · exact (sg6 st)
  rcases List.mem_cons.mp hx with rfl | hx
  · exact (sg7 st)
  rcases List.mem_cons.mp hx with rfl | hx
  · exact (sg8 st)
  rcases List.mem_cons.mp hx with rfl | hx
  · exact (sg9 st)
  rcases List.mem_cons.mp hx with rfl | hx
  · exact (sg10 st)
  rcases List.mem_cons.mp hx with rfl | hx
  · exact (sg11 st)
  rcases List.mem_cons.mp hx with rfl | hx
  · exact ((sg13 st).app (sg12 st))
  rcases List.mem_cons.mp hx with rfl | hx
  · exact ((sg15 st).app (sg14 st))
  rcases List.mem_cons.mp hx with rfl | hx
  · exact ((sg5 st).app (sg16 st))
  rcases List.mem_cons.mp hx with rfl | hx
  · exact (sg17 st)
  rcases List.mem_cons.mp hx with rfl | hx
  · exact ((sg19 st).app (sg18 st))
  rcases List.mem_cons.mp hx with rfl | hx
  · exact ((sg22 st).app ((sg21 st).app (sg20 st)))
  rcases List.mem_cons.mp hx with rfl | hx
  · exact (sg23 st)
  rcases List.mem_cons.mp hx with rfl | hx
  · exact ((sg27 st).app ((sg26 st).app ((sg25 st).app (sg24 st))))
  rcases List.mem_cons.mp hx with rfl | hx
  · exact ((sg29 st).app ((sg25 st).app (sg28 st)))
  rcases List.mem_cons.mp hx with rfl | hx
  · exact (sg30 st)
  rcases List.mem_cons.mp hx with rfl | hx
  · exact (sg31 st)
  rcases List.mem_cons.mp hx with rfl | hx
  · exact ((sg34 st).app ((sg33 st).app (sg32 st)))
  rcases List.mem_cons.mp hx with rfl | hx
  · exact ((sg36 st).app (sg35 st))
  · cases hx
theorem goodL_is : ∀ x ∈ goodL, (x = ([37], -1)) ∨ ∃ y ∈ goodQ, y.1 = x.1 ∧ x.2 = (y.2.foldl max 0 : Nat) := by decide +kernel
theorem goodL_len : ∀ x ∈ goodL, x.1.length ≤ 10 := by decide +kernel
noncomputable def illL : List (List UInt8 × Int) := [([37, 122], 0), ([37, 112, 48], 0), ([37, 123, 125], 0), ([37, 123, 53], 0), ([37, 39, 120], 0), ([37, 80, 49], 0), ([37, 116], 0), ([37, 59], 0), ([37, 101], 0), ([37, 63, 37, 112, 49, 37, 101, 97, 98], 5), ([37, 63, 37, 112, 49, 37, 116, 97, 98, 37, 116, 99, 100, 37, 59], 9), ([37, 63, 37, 116, 37, 101, 37, 101, 37, 59], 6), ([37], 0), ([37, 112], 0), ([37, 53], 0), ([37, 63, 37, 112, 49, 37, 116], -1)]
theorem bad_at {st : List Bool} {qs : List Nat} {l : List UInt8} {r : List UInt8} (x : Seg [] st qs l) (h : oneS st r = none) (a : Nat) (ps : List Nat) {k : List UInt8} {n : Nat} (hk : k = l ++ 37 :: r) (hn : n = l.length) : prog k a [] ps = .error (a + n) := by
  subst hk hn
  rw [x]; exact prog_bad h _ _
/- an ill made piece, and where -/
noncomputable def IllE (l : List UInt8) (n : Nat) : Prop := ∀ r a ps, prog (l ++ 97 :: 98 :: r) a [] ps = .error (a + n)
noncomputable def IllL (l : List UInt8) (n : Nat) : Prop := ∀ a ps, prog l a [] ps = .error (a + n)
theorem sgp1 (st : List Bool) : Seg st st [1] [37, 112, 49] := Seg.one (p := some 1) (l := [112, 49]) fun rest => by kernel_rfl
theorem ill0 : IllE [37, 122] 0 := fun r a ps => bad_at (l := []) (r := [122] ++ 97 :: 98 :: r) (Seg.nil []) (by kernel_rfl) a ps rfl rfl
theorem ill1 : IllE [37, 112, 48] 0 := fun r a ps => bad_at (l := []) (r := [112, 48] ++ 97 :: 98 :: r) (Seg.nil []) (by kernel_rfl) a ps rfl rfl
theorem ill2 : IllE [37, 123, 125] 0 := fun r a ps => bad_at (l := []) (r := [123, 125] ++ 97 :: 98 :: r) (Seg.nil []) (by kernel_rfl) a ps rfl rfl
theorem ill3 : IllE [37, 123, 53] 0 := fun r a ps => bad_at (l := []) (r := [123, 53] ++ 97 :: 98 :: r) (Seg.nil []) (by kernel_rfl) a ps rfl rfl
theorem ill4 : IllE [37, 39, 120] 0 := fun r a ps => bad_at (l := []) (r := [39, 120] ++ 97 :: 98 :: r) (Seg.nil []) (by kernel_rfl) a ps rfl rfl
theorem ill5 : IllE [37, 80, 49] 0 := fun r a ps => bad_at (l := []) (r := [80, 49] ++ 97 :: 98 :: r) (Seg.nil []) (by kernel_rfl) a ps rfl rfl
theorem ill6 : IllE [37, 116] 0 := fun r a ps => bad_at (l := []) (r := [116] ++ 97 :: 98 :: r) (Seg.nil []) (by kernel_rfl) a ps rfl rfl
theorem ill7 : IllE [37, 59] 0 := fun r a ps => bad_at (l := []) (r := [59] ++ 97 :: 98 :: r) (Seg.nil []) (by kernel_rfl) a ps rfl rfl
theorem ill8 : IllE [37, 101] 0 := fun r a ps => bad_at (l := []) (r := [101] ++ 97 :: 98 :: r) (Seg.nil []) (by kernel_rfl) a ps rfl rfl
theorem ill9 : IllE [37, 63, 37, 112, 49, 37, 101, 97, 98] 5 := fun r a ps => bad_at (l := [37, 63, 37, 112, 49]) (r := [101, 97, 98] ++ 97 :: 98 :: r) ((sg_if []).app (sgp1 (false :: []))) (by kernel_rfl) a ps rfl rfl
theorem ill10 : IllE [37, 63, 37, 112, 49, 37, 116, 97, 98, 37, 116, 99, 100, 37, 59] 9 := fun r a ps => bad_at (l := [37, 63, 37, 112, 49, 37, 116, 97, 98]) (r := [116, 99, 100, 37, 59] ++ 97 :: 98 :: r) ((sg_if []).app ((sgp1 (false :: [])).app ((sg_then []).app ((Seg.char (c := 97) (by decide) (true :: [])).app (Seg.char (c := 98) (by decide) (true :: [])))))) (by kernel_rfl) a ps rfl rfl
theorem ill11 : IllE [37, 63, 37, 116, 37, 101, 37, 101, 37, 59] 6 := fun r a ps => bad_at (l := [37, 63, 37, 116, 37, 101]) (r := [101, 37, 59] ++ 97 :: 98 :: r) ((sg_if []).app ((sg_then []).app (sg_else []))) (by kernel_rfl) a ps rfl rfl
theorem ill12 : IllL [37] 0 := fun a ps => bad_at (l := []) (r := []) (Seg.nil []) (by kernel_rfl) a ps rfl rfl
theorem ill13 : IllL [37, 112] 0 := fun a ps => bad_at (l := []) (r := [112]) (Seg.nil []) (by kernel_rfl) a ps rfl rfl
theorem ill14 : IllL [37, 53] 0 := fun a ps => bad_at (l := []) (r := [53]) (Seg.nil []) (by kernel_rfl) a ps rfl rfl
theorem ill15 : IllL [37, 63, 37, 112, 49, 37, 116] 7 := fun a ps => by
  have h := ((sg_if []).app ((sgp1 (false :: [])).app (sg_then []))) [] a ps
  rw [List.append_nil] at h
  rw [prog_nil, if_neg (by decide)] at h
  exact h
theorem fb {α : Type} {p : α → Prop} {a : α} {l : List α} (x : p a) (y : ∀ b ∈ l, p b) : ∀ b ∈ a :: l, p b := List.forall_mem_cons.mpr ⟨x, y⟩
noncomputable def IsE (x : List UInt8 × Int) : Prop := ∃ n : Nat, x.2 = n ∧ IllE x.1 n ∧ x.1.length ≤ 20
theorem illE_all : ∀ x ∈ illL.take 12, IsE x := fb ⟨0, rfl, ill0, Nat.le_of_ble_eq_true rfl⟩ (fb ⟨0, rfl, ill1, Nat.le_of_ble_eq_true rfl⟩ (fb ⟨0, rfl, ill2, Nat.le_of_ble_eq_true rfl⟩ (fb ⟨0, rfl, ill3, Nat.le_of_ble_eq_true rfl⟩ (fb ⟨0, rfl, ill4, Nat.le_of_ble_eq_true rfl⟩ (fb ⟨0, rfl, ill5, Nat.le_of_ble_eq_true rfl⟩ (fb ⟨0, rfl, ill6, Nat.le_of_ble_eq_true rfl⟩ (fb ⟨0, rfl, ill7, Nat.le_of_ble_eq_true rfl⟩ (fb ⟨0, rfl, ill8, Nat.le_of_ble_eq_true rfl⟩ (fb ⟨5, rfl, ill9, Nat.le_of_ble_eq_true rfl⟩ (fb ⟨9, rfl, ill10, Nat.le_of_ble_eq_true rfl⟩ (fb ⟨6, rfl, ill11, Nat.le_of_ble_eq_true rfl⟩ (fun _ h => nomatch h))))))))))))
theorem illE_is (i : Nat) (l : List UInt8) (b : Int) (hi : i < 12) (h : illL[i]? = some (l, b)) : ∃ n : Nat, b = n ∧ IllE l n ∧ l.length ≤ 20 :=
  illE_all (l, b) (List.mem_of_getElem? (i := i) (by rw [List.getElem?_take_of_lt hi]; exact h))
noncomputable def IsL (x : List UInt8 × Int) : Prop := ∃ n : Nat, IllL x.1 n ∧ x.1.length ≤ 20 ∧ (n : Int) = if x.2 < 0 then (x.1.length : Int) else x.2
theorem illL_all : ∀ x ∈ illL.drop 12, IsL x := fb ⟨0, ill12, Nat.le_of_ble_eq_true rfl, rfl⟩ (fb ⟨0, ill13, Nat.le_of_ble_eq_true rfl, rfl⟩ (fb ⟨0, ill14, Nat.le_of_ble_eq_true rfl, rfl⟩ (fb ⟨7, ill15, Nat.le_of_ble_eq_true rfl, rfl⟩ (fun _ h => nomatch h))))
theorem illL_is (i : Nat) (l : List UInt8) (b : Int) (hi : 12 ≤ i) (h : illL[i]? = some (l, b)) : ∃ n : Nat, IllL l n ∧ l.length ≤ 20 ∧ (n : Int) = if b < 0 then (l.length : Int) else b :=
  illL_all (l, b) (List.mem_of_getElem? (i := i - 12) (by rw [List.getElem?_drop, Nat.add_sub_cancel' hi]; exact h))
/- a stretch that is read through and asks for m at most -/
noncomputable def SegB (b b' : List Bool) (l : List UInt8) (m : Int) : Prop := ∃ qs : List Nat, m = (qs.foldl max 0 : Nat) ∧ ∀ st, Seg (b ++ st) (b' ++ st) qs l
theorem foldl_app : ∀ (q : List Nat) (a b : Nat), q.foldl max (max a b) = max a (q.foldl max b)
  | [], a, b => rfl
  | x :: q, a, b => by rw [List.foldl_cons, List.foldl_cons, Nat.max_assoc, foldl_app q]
theorem max_app (q q' : List Nat) : (q ++ q').foldl max 0 = max (q.foldl max 0) (q'.foldl max 0) := by
  rw [List.foldl_append, ← foldl_app, Nat.max_zero]
theorem SegB.app {b b' b'' : List Bool} {l l' : List UInt8} {m m' : Int} (x : SegB b b' l m) (y : SegB b' b'' l' m') : SegB b b'' (l ++ l') (max m m') := by
  obtain ⟨q, rfl, hq⟩ := x
  obtain ⟨q', rfl, hq'⟩ := y
  exact ⟨q ++ q', by rw [max_app]; lia, fun st => (hq st).app (hq' st)⟩
theorem SegB.nil (b : List Bool) : SegB b b [] 0 := ⟨[], rfl, fun st => Seg.nil _⟩
theorem SegB.deep {l : List UInt8} {m : Int} (x : SegB [] [] l m) (b : List Bool) : SegB b b l m := by
  obtain ⟨q, h, hq⟩ := x
  exact ⟨q, h, fun st => hq (b ++ st)⟩
theorem SegB.to {b b' : List Bool} {l : List UInt8} {m m' : Int} (x : SegB b b' l m) (h : m = m') : SegB b b' l m' := h ▸ x
theorem sb_if : SegB [] [false] [37, 63] 0 := ⟨[], rfl, fun st => sg_if st⟩
theorem sb_then : SegB [false] [true] [37, 116] 0 := ⟨[], rfl, fun st => sg_then st⟩
theorem sb_else : SegB [true] [false] [37, 101] 0 := ⟨[], rfl, fun st => sg_else st⟩
theorem sb_end (b : Bool) : SegB [b] [] [37, 59] 0 := ⟨[], rfl, fun st => sg_end b st⟩
theorem sb_good {x : List UInt8 × Int} (h : x ∈ goodL) (hn : 0 ≤ x.2) : SegB [] [] x.1 x.2 := by
  rcases goodL_is x h with rfl | ⟨y, hy, e1, e2⟩
  · exact absurd hn (by decide)
  · rw [← e1]
    exact ⟨y.2, e2, fun st => goodQ_seg y hy st⟩
theorem sb_pct : SegB [] [] [37, 37] 0 := sb_good (x := ([37, 37], 0)) (by decide) (by decide)
theorem SegB.nonneg {b b' : List Bool} {l : List UInt8} {m : Int} (x : SegB b b' l m) : 0 ≤ m := by
  obtain ⟨q, rfl, _⟩ := x; lia
/- what a made string and an ill piece behind it come to -/
theorem made_ok {l : List UInt8} {m : Int} (x : SegB [] [] l m) : ∃ ps, prog l 0 [] [] = .ok ps ∧ m = (ps.foldl max 0 : Nat) := by
  obtain ⟨q, h, hq⟩ := x
  refine ⟨q, ?_, h⟩
  have := hq [] [] 0 []
  rw [List.append_nil] at this
  exact this
theorem made_ill {l k : List UInt8} {m : Int} {n : Nat} (x : SegB [] [] l m) (h : ∀ a ps, prog k a [] ps = .error (a + n)) : prog (l ++ k) 0 [] [] = .error (l.length + n) := by
  obtain ⟨q, _, hq⟩ := x
  have := hq [] k 0 []
  rw [Nat.zero_add, List.nil_append] at this
  exact this.trans (h _ _)

end
section
noncomputable def rowP (vs : List Value) : Option { x : List UInt8 × Int // ∃ t u, vs = [.bytes x.1.toArray t, .int x.2 u] } := match vs with
  | [.bytes b _, .int n _] => some ⟨(b.toList, n), _, _, rfl⟩
  | _ => none
noncomputable def rowOf (vs : List Value) : Option (List UInt8 × Int) := (rowP vs).map (·.1)
theorem rowOf_of {vs : List Value} {x : List UInt8 × Int} (h : rowOf vs = some x) : ∃ t u, vs = [.bytes x.1.toArray t, .int x.2 u] := by
  obtain ⟨y, _, e⟩ := Option.map_eq_some_iff.mp h
  exact e ▸ y.2
noncomputable def rowIn (K : Frag) (ls : List (List UInt8 × Int)) : Value → Bool
  | .ref a => ((K.lookup a).bind tupL).any fun vs => (rowOf vs).any ls.contains
  | _ => false
theorem rowIn_of {K : Frag} {ls : List (List UInt8 × Int)} {v : Value} {h : Heap} (X : K.In h) (e : rowIn K ls v = true) : ∃ a o b t n u, v = .ref a ∧ K.lookup a = some o ∧ h.get? a = some o ∧ OTup o [.bytes b.toArray t, .int n u] ∧ (b, n) ∈ ls := by
  cases v with
  | ref a =>
    obtain ⟨o, vs, h1, h2, h3, e⟩ := at_tup X e
    obtain ⟨x, h4, e⟩ := any_some e
    obtain ⟨t, u, rfl⟩ := rowOf_of h4
    exact ⟨a, o, x.1, t, x.2, u, rfl, h1, h2, h3, List.contains_iff_mem.mp e⟩
  | _ => cases e
theorem k_good (P : Params) : tupAll (KF P) 247 24 (rowIn (KF P) goodL) = true := by kernel_rfl
noncomputable def pcB : Nat → Nat
  | 0 => 20
  | d + 1 => 20 + 7 * (2 * pcB d)
noncomputable def MadeC (w : World) (deep : Nat) : Prop := ∀ {hw h : Heap} {A : Around} {Q : Value → Heap → Prop} {E : Value → Heap → Prop} {wa ca : Addr} {ow oc : Obj} {td : Tok},
  Wo w hw h → Rm A (5 + deep) → (∀ p ∈ ([(wa, ow), (ca, oc)] : Led), h.get? p.1 = some p.2 ∧ hw.get? p.1 = none) → (adr [(wa, ow), (ca, oc)]).Nodup → WellAt ow oc ca →
  (∀ h' ow' a o l m t₁ t₂, SegB [] [] l m → l.length ≤ 2 * pcB deep → WellAt ow' oc ca → OTup o [.bytes l.toArray t₁, .int m t₂] → Step h [(wa, ow), (ca, oc)] h' [(a, o), (wa, ow'), (ca, oc)] → Q (.ref a) h') →
  Wp (MM w) A (call (.ref 303) [.ref wa, .int deep td] []) Q E h
section
variable {w : World} {A : Around} {E : Value → Heap → Prop} {hw h₀ h : Heap} {L : Addr} {m : Loc} {led : Led}
theorem s_max2 {a b : Int} {t u : Tok} {Q : Value → Heap → Prop} (hh : A.handled = none) (q : ∀ h' t', h.StaysIn h' → Q (.int (max a b) t') h') : Wp (MM w) A (call (.builtin "max") [.int a t, .int b u] []) Q E h := Wp_of fun g d tk os =>
  max_two_ints hh fun h' tk' k => by
    split
    · exact ⟨⟨rfl, rfl, rfl⟩, by have := q h' u k; rwa [Int.max_eq_right (by lia)] at this⟩
    · exact ⟨⟨rfl, rfl, rfl⟩, by have := q h' t k; rwa [Int.max_eq_left (by lia)] at this⟩
theorem s_max3 {a b c : Int} {t u x : Tok} {Q : Value → Heap → Prop} (hh : A.handled = none) (q : ∀ h' t', h.StaysIn h' → Q (.int (max (max a b) c) t') h') : Wp (MM w) A (call (.builtin "max") [.int a t, .int b u, .int c x] []) Q E h := Wp_of fun g d tk os =>
  max_three_ints hh fun h' tk' k => by
    split
    · rename_i h1
      rw [Int.max_eq_right (by lia : a ≤ b)] at q
      split
      · exact ⟨⟨rfl, rfl, rfl⟩, by have := q h' x k; rwa [Int.max_eq_right (by lia)] at this⟩
      · exact ⟨⟨rfl, rfl, rfl⟩, by have := q h' u k; rwa [Int.max_eq_left (by lia)] at this⟩
    · rename_i h1
      rw [Int.max_eq_left (by lia : b ≤ a)] at q
      split
      · exact ⟨⟨rfl, rfl, rfl⟩, by have := q h' x k; rwa [Int.max_eq_right (by lia)] at this⟩
      · exact ⟨⟨rfl, rfl, rfl⟩, by have := q h' t k; rwa [Int.max_eq_left (by lia)] at this⟩
end

inductive MdA (wa ca : Addr) (oc : Obj) (td : Tok) (deep i : Nat) (m : Loc) : Led → Prop
  | mk (ow' : Obj) (l : List UInt8) (mm : Int) (t t' : Tok) (hW : WellAt ow' oc ca) (g1 : lk m "well" = some (.ref wa)) (g2 : lk m "deep" = some (.int deep td)) (g3 : lk m "octets" = some (.bytes l.toArray t)) (g4 : lk m "most" = some (.int mm t')) (hs : SegB [] [] l mm) (hl : l.length ≤ i * pcB deep) : MdA wa ca oc td deep i m [(wa, ow'), (ca, oc)]
inductive MdC (wa ca : Addr) (oc : Obj) (td t₅ t₆ : Tok) (deep : Nat) (l : List UInt8) (mm : Int) (m : Loc) (p : List UInt8) (n : Int) : Prop
  | mk (t t' : Tok) (g1 : lk m "well" = some (.ref wa)) (g2 : lk m "deep" = some (.int deep td)) (g3 : lk m "octets" = some (.bytes l.toArray t₅)) (g4 : lk m "most" = some (.int mm t₆)) (g5 : lk m "piece" = some (.bytes p.toArray t)) (g6 : lk m "number" = some (.int n t')) : MdC wa ca oc td t₅ t₆ deep l mm m p n
inductive MdB (w : World) (hw h₀ : Heap) (L wa ca : Addr) (oc : Obj) (td t₅ t₆ : Tok) (deep : Nat) (l : List UInt8) (mm : Int) (I : Addr) (o : Obj) (c : List Bool) (z : Nat) (h' : Heap) : Prop
  | mk (ow' : Obj) (p : List UInt8) (n : Int) (m' : Loc) (S : St w hw h₀ L h' m' ([(wa, ow'), (ca, oc)] ++ [(I, o)])) (hW : WellAt ow' oc ca) (g : MdC wa ca oc td t₅ t₆ deep l mm m' p n) (hs : SegB [] c p n) (hl : p.length ≤ z) : MdB w hw h₀ L wa ca oc td t₅ t₆ deep l mm I o c z h'
inductive MdD (wa ca : Addr) (oc : Obj) (td t₅ t₆ : Tok) (deep : Nat) (l : List UInt8) (mm : Int) (I : Addr) (o : Obj) (z j : Nat) (m : Loc) : Led → Prop
  | mk (ow' : Obj) (p : List UInt8) (n : Int) (hW : WellAt ow' oc ca) (g : MdC wa ca oc td t₅ t₆ deep l mm m p n) (hs : SegB [] [if j = 0 then false else true] p n) (hl : p.length ≤ 2 + j * z) : MdD wa ca oc td t₅ t₆ deep l mm I o z j m ([(wa, ow'), (ca, oc)] ++ [(I, o)])
inductive MdE (w : World) (hw h₀ : Heap) (L wa ca : Addr) (oc : Obj) (td t₅ t₆ : Tok) (deep : Nat) (l : List UInt8) (mm : Int) (I : Addr) (o : Obj) (z : Nat) (h' : Heap) : Prop
  | mk (b : Bool) (x : MdB w hw h₀ L wa ca oc td t₅ t₆ deep l mm I o [b] z h') : MdE w hw h₀ L wa ca oc td t₅ t₆ deep l mm I o z h'
theorem made_step {w : World} {deep : Nat} (hd2 : deep ≤ 2) (ih : ∀ d, deep = d + 1 → MadeC w d) : MadeC w deep := by
  intro hw h A Q E wa ca ow oc td D r hl nd hW q
  refine enter_g (n := 4 + deep) (body := bodyOf (stAt 32)) (binds := [("well", .ref wa), ("deep", .int deep td)]) D (r.mono (by lia)) [(wa, ow), (ca, oc)] hl nd (kf303 _) (kc303 _) (fun s hs => BindsTo.of_eq (by rfl)) rfl [("deep", .int deep td), ("well", .ref wa)] rfl (fun L h₀ A' h₁ r4 _ fin S => ?_) (locs rfl) (by decide +kernel) rfl rfl rfl
  have S : St w hw h₀ L h₁ [("deep", .int deep td), ("well", .ref wa)] ([(wa, ow), (ca, oc)] ++ []) := S
  obtain ⟨oT, vT, hoT, hvT, hnT, hfT⟩ := tupAll_of D.1.X (k_good _)
  refine st_AssignTup ?_
  walk_at "w"
  refine s_tuple S (Nat.le_of_ble_eq_true rfl) fun a o h₃ hO S₃ => ?_
  refine u_tuple r4.hd (S₃.get (.head _)) hO fun h₄ k₄ => ?_
  have S₄ := (S₃.grow k₄).sub (List.sublist_cons_self _ _)
  walk_at "w"
  rename St _ _ _ _ _ _ _ => S₅
  refine st_For ?_
  walk_at "w"
  refine c_draw (n := 3) S₅.wd (r4.mono (by lia)) S₅.own' S₅.nd' hW (by decide) (by decide) fun h₆ ow₆ nT t₆ hnT3 hW₆ X₆ => ?_
  have S₆ := St.call S₅ X₆
  walk_at "w"
  refine call_range S₆ fun rg tr t' h₇ hrg S₇ => ?_
  refine for_r r4.hd (fun i m l' => MdA wa ca oc td deep i m l') S₇ hrg (by lia) ⟨_, [], 0, _, _, hW₆, rfl, rfl, rfl, rfl, SegB.nil [], Nat.zero_le _⟩ ?_ ?_
  · rintro i tk m l' I o h₈ hi ⟨ow₈, l, mm, t₅, t₆, hW₈, g1, g2, g3, g4, hs, hlen⟩ S₈ J₁ hJ₁
    refine go_name ?_
    have S₈ : St w hw h₀ L h₈ m ([(wa, ow₈), (ca, oc)] ++ [(I, o)]) := S₈.perm (List.perm_append_comm (l₁ := [(I, o)]))
    walk_at "w"
    rename St _ _ _ _ _ _ _ => S₉
    refine c_pick S₉.wd (r4.mono (by lia)) S₉.own' S₉.nd' hW₈ (S₉.wd.2 _ _ hoT) hvT (const_out S₉ hoT) (by rw [hnT]; decide) (by rw [hnT]; decide) fun h₁₀ ow₁₀ v hv hW₁₀ X₁₀ => ?_
    have S₁₀ := St.call S₉ X₁₀
    clear S₈ S₉ X₁₀ hW₈
    obtain ⟨ar, oR, b, tb, n, tn, rfl, _, hoR, hrow, hmem⟩ := rowIn_of S₁₀.wd.K (hfT v hv)
    refine u_tuple r4.hd hoR hrow fun h₁₁ k₁₁ => ?_
    have S₁₁ := S₁₀.grow k₁₁
    walk_at "w"
    rename St _ _ _ _ _ _ _ => S₁₂
    clear S₁₀ S₁₁
    refine st_If_cut (MdB w hw h₀ L wa ca oc td t₅ t₆ deep l mm I o [] (pcB deep)) ?_ ?_
    · walk_at "w"
      refine ⟨fun hn => ?_, fun hn => ?_⟩
      · have hn := of_decide_eq_true hn
        walk_at "w"
        refine ⟨fun hdp => ?_, fun hdp => ?_⟩
        · have hdp := of_decide_eq_true hdp
          walk_at "w"
          obtain ⟨d, rfl⟩ : ∃ d, deep = d + 1 := ⟨deep - 1, by lia⟩
          have IH := @ih d rfl
          have hpc : pcB d ≤ 300 := by
            rcases (by lia : d = 0 ∨ d = 1) with rfl | rfl <;> decide
          refine s_tuple S₁₂ (Nat.le_of_ble_eq_true rfl) fun a₂ o₂ h₁₃ hO₂ S₁₃ => ?_
          refine u_tuple r4.hd (S₁₃.get (.head _)) hO₂ fun h₁₄ k₁₄ => ?_
          have S₁₄ := (S₁₃.grow k₁₄).sub (List.sublist_cons_self _ _)
          walk_at "w"
          rename St _ _ _ _ _ _ _ => S₁₅
          have S₁₅ : St w hw h₀ L _ _ ([(wa, ow₁₀), (ca, oc)] ++ [(I, o)]) := S₁₅
          clear S₁₂ S₁₃ S₁₄
          refine st_For ?_
          walk_at "w"
          refine c_draw (n := 3) S₁₅.wd (r4.mono (by lia)) S₁₅.own' S₁₅.nd' hW₁₀ (by decide) (by decide) fun h₁₆ ow₁₆ nG t₁₆ hnG hW₁₆ X₁₆ => ?_
          have S₁₆ := St.call S₁₅ X₁₆
          clear S₁₅ X₁₆
          walk_at "w"
          refine call_range S₁₆ fun rg₂ tr₂ t₁₇ h₁₇ hrg₂ S₁₇ => ?_
          rw [show (1 : Int) + (nG : Int) = ((1 + nG : Nat) : Int) by lia] at hrg₂
          refine for_r r4.hd (fun j m l' => MdD wa ca oc td t₅ t₆ (d + 1) l mm I o (4 + 2 * (2 * pcB d)) j m l') S₁₇ hrg₂ (by lia)
            ⟨_, [37, 63], 0, hW₁₆, ⟨_, _, by walk_at "lk", by walk_at "lk", by walk_at "lk", by walk_at "lk", by walk_at "lk", by walk_at "lk"⟩, sb_if, by simp⟩ ?_ ?_
          · rintro j tk₂ m₂ l₂ J oJ h₁₈ hj ⟨ow₁₈, p, np, hW₁₈, ⟨tp, tnp, f1, f2, f3, f4, f5, f6⟩, hsp, hpl⟩ S₁₈ J₂ hJ₂
            have hB : j * (4 + 2 * (2 * pcB d)) ≤ 2 * (4 + 2 * (2 * pcB d)) := Nat.mul_le_mul_right _ (by lia)
            refine go_name ?_
            have S₁₈ : St w hw h₀ L h₁₈ m₂ ([(wa, ow₁₈), (ca, oc)] ++ [(J, oJ), (I, o)]) := S₁₈.perm (List.perm_middle (l₁ := [(wa, ow₁₈), (ca, oc)]) (l₂ := [(I, o)]) (a := (J, oJ))).symm
            clear S₁₆ S₁₇ g1 g2 g3 g4
            walk_at "w"
            rename St _ _ _ _ _ _ _ => S₁₉
            clear S₁₈
            rw [show (((d + 1 : Nat) : Int) - 1) = (d : Nat) by lia]
            refine IH S₁₉.wd (r4.mono (by lia)) S₁₉.own' S₁₉.nd' hW₁₈ fun h₂₀ ow₂₀ a₃ o₃ lt mt t₂₁ t₂₂ hst hlt hW₂₀ hO₃ X₂₀ => ?_
            have S₂₀ := St.call S₁₉ X₂₀
            refine u_tuple r4.hd (S₂₀.get (.head _)) hO₃ fun h₂₁ k₂₁ => ?_
            have S₂₁ := (S₂₀.grow k₂₁).sub (l' := [(wa, ow₂₀), (ca, oc)] ++ [(J, oJ), (I, o)]) (List.sublist_cons_self _ _)
            clear S₁₉ S₂₀
            walk_at "w"
            rename St _ _ _ _ _ _ _ => S₂₂
            clear S₂₁
            rw [show (((d + 1 : Nat) : Int) - 1) = (d : Nat) by lia]
            refine IH S₂₂.wd (r4.mono (by lia)) S₂₂.own' S₂₂.nd' hW₂₀ fun h₂₃ ow₂₃ a₄ o₄ ld md t₂₃ t₂₄ hsd hld hW₂₃ hO₄ X₂₃ => ?_
            have S₂₃ := St.call S₂₂ X₂₃
            refine u_tuple r4.hd (S₂₃.get (.head _)) hO₄ fun h₂₄ k₂₄ => ?_
            have S₂₄ := (S₂₃.grow k₂₄).sub (l' := [(wa, ow₂₃), (ca, oc)] ++ [(J, oJ), (I, o)]) (List.sublist_cons_self _ _)
            clear S₂₂ S₂₃
            walk_at "w"
            rename St _ _ _ _ _ _ _ => S₂₅
            clear S₂₄
            refine Wp_here (J := fun v => ∃ t, v = .bytes (if j = 0 then [] else [37, 101] : List UInt8).toArray t) ?_ ?_
            · refine e_IfExp ?_
              walk_at "w"
              refine ⟨fun hb => ?_, fun hb => ?_⟩
              · have hb := of_decide_eq_true hb
                rw [if_neg (by lia)]
                walk_at "w"
                exact ⟨rfl, _, rfl⟩
              · have hb := of_decide_eq_false hb
                rw [if_pos (by lia)]
                walk_at "w"
                exact ⟨rfl, _, rfl⟩
            rintro v ⟨tv, rfl⟩
            have hel : (if j = 0 then [] else [37, 101] : List UInt8).length ≤ 2 := by split <;> simp
            have hse : SegB [if j = 0 then false else true] [false] (if j = 0 then [] else [37, 101] : List UInt8) 0 := by
              by_cases h0 : j = 0
              · rw [if_pos h0, if_pos h0]; exact SegB.nil _
              · rw [if_neg h0, if_neg h0]; exact sb_else
            generalize (if j = 0 then [] else [37, 101] : List UInt8) = el at hel hse
            refine y_add (by lia) fun _ => ?_
            walk_at "w"
            refine y_add (by rw [List.length_append]; lia) fun _ => ?_
            walk_at "w"
            refine y_add (l := p ++ el ++ lt) (k := [37, 116]) (by simp only [List.length_append]; show _ + 2 ≤ _; lia) fun _ => ?_
            walk_at "w"
            refine y_add (by simp only [List.length_append]; show _ + 2 + _ ≤ _; lia) fun _ => ?_
            walk_at "w"
            refine s_max3 r4.hd fun h₂₆ tmx k₂₆ => ?_
            rename St _ _ _ _ _ _ _ => S₂₆
            have S₂₇ := S₂₆.grow k₂₆
            walk_at "w"
            rename St _ _ _ _ _ _ _ => S₂₈
            have h0m := hst.nonneg
            have h1m := hsp.nonneg
            have h2m := hsd.nonneg
            refine hJ₂ _ _ ([(wa, ow₂₃), (ca, oc)] ++ [(I, o)]) (S₂₈.perm (List.perm_middle (l₁ := [(wa, ow₂₃), (ca, oc)]) (l₂ := [(I, o)]) (a := (J, oJ)))) ⟨_, p ++ el ++ lt ++ [37, 116] ++ ld, max (max np mt) md, hW₂₃, ⟨_, _, by walk_at "lk", by walk_at "lk", by walk_at "lk", by walk_at "lk", by walk_at "lk", by walk_at "lk"⟩, ?_, ?_⟩
            · rw [if_neg (Nat.succ_ne_zero j)]
              exact ((((hsp.app hse).app (hst.deep [false])).app sb_then).app (hsd.deep [true])).to (by rw [Int.max_eq_left h1m, Int.max_eq_left (Int.le_trans h1m (Int.le_max_left np mt))])
            · simp only [List.length_append, Nat.add_mul]
              show _ + 2 + _ ≤ _
              lia
          · rintro m₂ l₂ h₁₈ ⟨ow₁₈, p, np, hW₁₈, ⟨tp, tnp, f1, f2, f3, f4, f5, f6⟩, hsp, hpl⟩ S₁₈
            have hB : (1 + nG) * (4 + 2 * (2 * pcB d)) ≤ 3 * (4 + 2 * (2 * pcB d)) := Nat.mul_le_mul_right _ (by lia)
            rw [if_neg (by lia)] at hsp
            clear S₁₆ S₁₇ g1 g2 g3 g4
            refine Seq_next ?_
            refine st_If_cut (MdE w hw h₀ L wa ca oc td t₅ t₆ (d + 1) l mm I o (18 + 14 * pcB d)) ?_ ?_
            · walk_at "w"
              refine c_draw (n := 2) S₁₈.wd (r4.mono (by lia)) S₁₈.own' S₁₈.nd' hW₁₈ (by decide) (by decide) fun h₁₉ ow₁₉ nE t₁₉ hnE hW₁₉ X₁₉ => ?_
              have S₁₉ := St.call S₁₈ X₁₉
              clear S₁₈
              walk_at "w"
              refine ⟨fun hb => ?_, fun hb => ?_⟩
              · walk_at "w"
                rw [show (((d + 1 : Nat) : Int) - 1) = (d : Nat) by lia]
                refine IH S₁₉.wd (r4.mono (by lia)) S₁₉.own' S₁₉.nd' hW₁₉ fun h₂₀ ow₂₀ a₃ o₃ lt mt t₂₁ t₂₂ hst hlt hW₂₀ hO₃ X₂₀ => ?_
                have S₂₀ := St.call S₁₉ X₂₀
                refine u_tuple r4.hd (S₂₀.get (.head _)) hO₃ fun h₂₁ k₂₁ => ?_
                have S₂₁ := (S₂₀.grow k₂₁).sub (l' := [(wa, ow₂₀), (ca, oc)] ++ [(I, o)]) (List.sublist_cons_self _ _)
                clear S₁₉ S₂₀
                walk_at "w"
                rename St _ _ _ _ _ _ _ => S₂₂
                clear S₂₁
                refine st_AssignSwap r4.hd ?_
                walk_at "w"
                refine y_add (l := p) (k := [37, 101]) (by show _ + 2 ≤ _; lia) fun _ => ?_
                walk_at "w"
                refine y_add (by rw [List.length_append]; show _ + 2 + _ ≤ _; lia) fun _ => ?_
                walk_at "w"
                refine s_max2 r4.hd fun h₂₃ tmx k₂₃ => ?_
                have S₂₃ := S₂₂.grow k₂₃
                walk_at "w"
                refine s_tuple S₂₃ (Nat.le_of_ble_eq_true rfl) fun a₂ o₂ h₂₄ hO₂ S₂₄ => ?_
                refine ⟨a₂, o₂, _, rfl, S₂₄.get (.head _), hO₂, rfl, fun h₂₅ k₂₅ => ?_⟩
                have S₂₅ := (S₂₄.grow k₂₅).sub (List.sublist_cons_self _ _)
                clear S₂₂ S₂₃ S₂₄
                show Wp _ _ (assignInOrder ((["number", "piece"] : List Str).map fun n => bindName (callEnv fd303 L 303) n) [.int _ _, .bytes _ _]) _ _ _
                refine b_cons ?_
                walk_at "w"
                refine b_cons ?_
                walk_at "w"
                refine b_nil ?_
                walk_at "w"
                rename St _ _ _ _ _ _ _ => S₂₆
                have h0m := hst.nonneg
                have h1m := hsp.nonneg
                refine ⟨false, _, p ++ [37, 101] ++ lt, max np mt, _, S₂₆, hW₂₀, ⟨_, _, by walk_at "lk", by walk_at "lk", by walk_at "lk", by walk_at "lk", by walk_at "lk", by walk_at "lk"⟩, ((hsp.app sb_else).app (hst.deep [false])).to (by rw [Int.max_eq_left h1m]), ?_⟩
                simp only [List.length_append]
                show _ + 2 + _ ≤ _
                lia
              · walk_at "w"
                exact ⟨true, _, p, np, _, S₁₉, hW₁₉, ⟨_, _, f1, f2, f3, f4, f5, f6⟩, hsp, by lia⟩
            rintro h₁₉ ⟨b₃, ow₁₉, p', np', m₃, S₁₉, hW₁₉, ⟨tp', tnp', f1, f2, f3, f4, f5, f6⟩, hsp', hpl'⟩
            walk_at "w"
            refine y_add (l := p') (k := [37, 59]) (by show _ + 2 ≤ _; lia) fun _ => ?_
            walk_at "w"
            rename St _ _ _ _ _ _ _ => S₂₀
            have h1m := hsp'.nonneg
            refine ⟨_, p' ++ [37, 59], np', _, S₂₀, hW₁₉, ⟨_, _, by walk_at "lk", by walk_at "lk", by walk_at "lk", by walk_at "lk", by walk_at "lk", by walk_at "lk"⟩, (hsp'.app (sb_end b₃)).to (Int.max_eq_left h1m), ?_⟩
            rw [List.length_append]
            show _ + 2 ≤ 20 + 7 * (2 * pcB d)
            lia
        · walk_at "w"
          refine st_If ?_
          walk_at "w"
          refine ⟨fun _ => ?_, fun hh => absurd hn (of_decide_eq_false hh)⟩
          walk_at "w"
          refine s_tuple S₁₂ (Nat.le_of_ble_eq_true rfl) fun a₂ o₂ h₁₃ hO₂ S₁₃ => ?_
          refine u_tuple r4.hd (S₁₃.get (.head _)) hO₂ fun h₁₄ k₁₄ => ?_
          have S₁₄ := (S₁₃.grow k₁₄).sub (List.sublist_cons_self _ _)
          walk_at "w"
          rename St _ _ _ _ _ _ _ => S₁₅
          refine ⟨_, [37, 37], 0, _, S₁₅, hW₁₀, ⟨_, _, by walk_at "lk", by walk_at "lk", by walk_at "lk", by walk_at "lk", by walk_at "lk", by walk_at "lk"⟩, sb_pct, ?_⟩
          show 2 ≤ _
          unfold pcB
          split <;> lia
      · walk_at "w"
        refine st_If ?_
        walk_at "w"
        refine ⟨fun hh => absurd (of_decide_eq_true hh) (of_decide_eq_false hn), fun _ => ?_⟩
        walk_at "w"
        refine ⟨_, b, n, _, S₁₂, hW₁₀, ⟨_, _, by walk_at "lk", by walk_at "lk", by walk_at "lk", by walk_at "lk", by walk_at "lk", by walk_at "lk"⟩, sb_good hmem (by have := of_decide_eq_false hn; lia), ?_⟩
        have := goodL_len _ hmem
        refine Nat.le_trans this ?_
        unfold pcB
        split <;> lia
    · rintro h₁₃ ⟨ow₁₃, p, np, m', S₁₃, hW₁₃, ⟨tp, tnp, g1, g2, g3, g4, g5, g6⟩, hsp, hpl⟩
      refine st_AssignSwap r4.hd ?_
      walk_at "w"
      refine y_add (by have hh := Nat.mul_le_mul_right (pcB deep) (by lia : i ≤ 3); have : pcB deep ≤ 4220 := (by rcases (by lia : deep = 0 ∨ deep = 1 ∨ deep = 2) with rfl | rfl | rfl <;> decide); lia) fun tf' => ?_
      walk_at "w"
      refine s_max2 r4.hd fun h₁₄ tmx k₁₄ => ?_
      have S₁₄ := S₁₃.grow k₁₄
      walk_at "w"
      refine s_tuple S₁₄ (Nat.le_of_ble_eq_true rfl) fun a₂ o₂ h₁₅ hO₂ S₁₅ => ?_
      refine ⟨a₂, o₂, _, rfl, S₁₅.get (.head _), hO₂, rfl, fun h₁₆ k₁₆ => ?_⟩
      have S₁₆ := (S₁₅.grow k₁₆).sub (List.sublist_cons_self _ _)
      show Wp _ _ (assignInOrder ((["most", "octets"] : List Str).map fun n => bindName (callEnv fd303 L 303) n) [.int _ _, .bytes _ _]) _ _ _
      refine b_cons ?_
      walk_at "w"
      refine b_cons ?_
      walk_at "w"
      refine b_nil ?_
      walk_at "w"
      rename St _ _ _ _ _ _ _ => S₁₇
      refine hJ₁ _ _ [(wa, ow₁₃), (ca, oc)] (S₁₇.perm (List.perm_append_comm (l₂ := [(I, o)]))) ⟨_, l ++ p, max mm np, _, _, hW₁₃, by walk_at "lk", by walk_at "lk", by walk_at "lk", by walk_at "lk", hs.app hsp, ?_⟩
      rw [List.length_append, Nat.add_mul]
      lia
  · rintro m l' h₈ ⟨ow₈, l, mm, t, t', hW₈, g1, g2, g3, g4, hs, hlen⟩ S₈
    refine Seq_next ?_
    walk_at "w"
    refine s_tuple S₈ (Nat.le_of_ble_eq_true rfl) fun a o h₉ hO S₉ => ?_
    refine q _ ow₈ a o l mm t t' hs (Nat.le_trans hlen (Nat.mul_le_mul_right _ (by lia))) hW₈ hO (fin S₉)
theorem c_made {w : World} : ∀ deep, deep ≤ 2 → MadeC w deep
  | 0, h => made_step h fun d e => nomatch e
  | d + 1, h => made_step h fun d' e => by
    obtain rfl : d = d' := by lia
    exact c_made d (by lia)

end
section
open PySem PySem.W PyProof.Rows PySem.Calls PySem.Spec PySem.SeqAt LCg
set_option Elab.async false
set_option linter.unusedVariables false
set_option maxRecDepth 100000
set_option maxHeartbeats 4000000

theorem gives_find2 {l : List UInt8} {t u : Tok} {c : UInt8} : Gives (Builtin.«bytes.find» ⟨[.bytes l.toArray t, .bytes #[c] u], []⟩) (.int (findInt l c 0)) := by
  refine .of_wp fun M A E s Q hq => ?_
  unfold Builtin.«bytes.find» Builtin.Bytes.searchM
  refine wpAny_bind ?_
  unfold Builtin.Bytes.searchArgs
  refine wpAny_bind (m := selfAndSome _ _ _ _ _) (wpAny_of_eq (a := (.bytes l.toArray t, [.bytes #[c] u])) rfl ?_)
  refine wpAny_bind (m := Builtin.Bytes.bound? none) (wpAny_of_eq (a := none) rfl ?_)
  refine wpAny_bind (m := Builtin.Bytes.bound? none) (wpAny_of_eq (a := none) rfl ?_)
  refine wpAny_bind (wpAny_of_eq KBy.buffer_eq ?_)
  refine wpAny_bind (wpAny_pure ?_)
  refine wpAny_bind (wpAny_of_eq (a := l.toArray) rfl (wpAny_pure ?_))
  simp only [List.size_toArray, Option.getD_none, show ¬ ((l.length : Int) < 0) by lia, if_false, Int.min_self]
  have key : ((if (l.length : Int) - 0 < ((#[c] : Array UInt8).size : Int) then none else some ((0 : Int).toNat, (l.length : Int).toNat)).bind fun x => if false = true then Builtin.Bytes.rfind? l.toArray #[c] x.1 x.2 else Builtin.Bytes.find? l.toArray #[c] x.1 x.2) = findFrom l c 0 := by
    have h1 : (#[c] : Array UInt8).size = 1 := rfl
    rw [h1]
    by_cases hlt : (l.length : Int) - 0 < ((1 : Nat) : Int)
    · rw [if_pos hlt]
      unfold findFrom
      rw [show l.length + 1 - (0 + 1) = 0 by lia]
      rfl
    · rw [if_neg hlt]
      rfl
  show wpAny M A (match ((if (l.length : Int) - 0 < ((#[c] : Array UInt8).size : Int) then none else some ((0 : Int).toNat, (l.length : Int).toNat)).bind fun x => if false = true then Builtin.Bytes.rfind? l.toArray #[c] x.1 x.2 else Builtin.Bytes.find? l.toArray #[c] x.1 x.2) with
    | some i => retInt i
    | none => do
      rule _
      if false = true then _ else retInt (-1)) _ E s
  rw [key]
  unfold findInt at hq
  cases hf : findFrom l c 0 with
  | some j =>
    rw [hf] at hq
    exact wpAny_bind (wpAny_mkInt (wpAny_pure ⟨_, rfl, hq⟩))
  | none =>
    rw [hf] at hq
    refine wpAny_bind (wpAny_rule ?_)
    exact wpAny_bind (wpAny_mkInt (wpAny_pure ⟨_, rfl, hq⟩))
theorem find_neg (l : List UInt8) (c : UInt8) : decide (findInt l c 0 < 0) = !(l.contains c) := by
  rw [← find_one]
  have e : findFrom l c 0 = Builtin.Bytes.find? l.toArray #[c] 0 l.toArray.size ∨ (l = [] ∧ findFrom l c 0 = none) := by
    cases l with
    | nil => exact .inr ⟨rfl, rfl⟩
    | cons x l => exact .inl rfl
  have e2 : findFrom l c 0 = Builtin.Bytes.find? l.toArray #[c] 0 l.toArray.size := by
    rcases e with e | ⟨rfl, e⟩
    · exact e
    · rw [e]
      rfl
  rw [← e2]
  unfold findInt
  cases findFrom l c 0 with
  | none => rfl
  | some j =>
    show decide ((j : Int) < 0) = false
    exact decide_eq_false (by lia)
section
variable {w : World} {A : Around} {E : Value → Heap → Prop} {hw h₀ h h' : Heap} {L : Addr} {m : Loc} {led : Led}
theorem y_find2 {l : List UInt8} {c : UInt8} {t u : Tok} {Q : Value → Heap → Prop} (q : ∀ t', Q (.int (findInt l c 0) t') h) : Wp (MM w) A (call (.builtin "bytes.find") [.bytes l.toArray t, .bytes #[c] u] []) Q E h :=
  Wp_of fun g d tk o => call_gives slot_bytes_find (typeIs_bytes _ _ _) entry_bytes_find (args_bytes_find_2 _ _) gives_find2 ⟨⟨rfl, rfl, rfl⟩, q _⟩
end

end
section
noncomputable def Fs (lf : List Env) (W : List Addr) : Prop := ∀ env ∈ lf, env.scope.kind ≠ .module ∧ ∃ L, env.frame = some L ∧ L ∈ W
noncomputable def Nf (fr : Led) : Prop := ∀ p ∈ fr, ∀ vs, p.2.data ≠ .fields vs
theorem ff_of {h : Heap} {fr : Led} (hg : ∀ p ∈ fr, h.get? p.1 = some p.2) (hnf : Nf fr) : ∀ {lf : List Env}, Fs lf (adr fr) → h.FunFrames (hideAll h (adr fr)) lf
  | [], _ => trivial
  | env :: lf, x => by
    obtain ⟨h1, L, h2, h3⟩ := x env (.head _)
    obtain ⟨p, hp, rfl⟩ := List.mem_map.mp h3
    exact ⟨h1, ⟨p.1, p.2, h2, hideAll_none _ h3, hg p hp, hnf p hp⟩, ff_of hg hnf fun e he => x e (.tail _ he)⟩
theorem UpS.nf {l l' : Led} (x : UpS l l') (h : Nf l) : Nf l' := by
  induction x with
  | nil => exact h
  | cons sl _ ih =>
    intro p hp
    cases hp with
    | head => exact fun vs e => h _ (.head _) vs e
    | tail _ hp => exact ih (fun q hq => h q (.tail _ hq)) p hp
theorem UpS.trans {a b c : Led} (x : UpS a b) : UpS b c → UpS a c := by
  induction x generalizing c with
  | nil => intro y; exact y
  | cons sl _ ih => intro y; cases y with | cons sl' y => exact .cons sl' (ih y)
theorem St.callF {w : World} {hw h₀ h h' : Heap} {L : Addr} {m : Loc} {fr fr₂ k res : Led} {oL : Obj} (S : St w hw h₀ L h m (fr ++ k)) (hoL : h.get? L = some oL) (u : UpS ((L, oL) :: fr) fr₂) (x : Step h ((L, oL) :: fr) h' (res ++ fr₂)) :
    ∃ fr', UpS fr fr' ∧ St w hw h₀ L h' m (res ++ (fr' ++ k)) := by
  cases u with
  | @cons _ _ _ fr' sl u =>
  have memF : ∀ a ∈ adr fr, a ≠ L ∧ h₀.get? a = none := fun a ha => by
    obtain ⟨p, hp, rfl⟩ := List.mem_map.mp ha
    exact (S.N p (List.mem_append_left _ hp)).2
  have ndx : (adr res ++ L :: adr fr).Nodup := by
    have := x.nd
    rw [show adr (res ++ (L, { oL with slots := sl }) :: fr') = adr res ++ L :: adr fr' by simp [adr], u.adr] at this
    exact this
  obtain ⟨nd1, nd2, nd3⟩ := List.nodup_append.mp ndx
  have ndS := S.nd
  rw [List.map_append, List.nodup_append] at ndS
  have news : ∀ p ∈ res ++ fr', h'.get? p.1 = some p.2 ∧ p.1 ≠ L ∧ h₀.get? p.1 = none ∧ p.1 ∉ adr k := fun p hp => by
    have hp' : p ∈ res ++ (L, { oL with slots := sl }) :: fr' := by
      rcases List.mem_append.mp hp with hp | hp
      · exact List.mem_append_left _ hp
      · exact List.mem_append_right _ (.tail _ hp)
    have hne : p.1 ≠ L := fun e => by
      rcases List.mem_append.mp hp with hp | hp
      · exact nd3 p.1 (List.mem_map_of_mem hp) L (.head _) e
      · have := (List.nodup_cons.mp nd2).1
        rw [← u.adr] at this
        exact this (e ▸ List.mem_map_of_mem hp)
    obtain ⟨h1, h2⟩ := x.own p hp'
    refine ⟨h1, hne, ?_⟩
    rcases h2 with h2 | h2
    · rcases List.mem_cons.mp h2 with h2 | h2
      · exact absurd h2 hne
      · exact ⟨(memF _ h2).2, fun hk => ndS.2.2 p.1 h2 p.1 hk rfl⟩
    · refine ⟨?_, fun hk => ?_⟩
      · cases e : h₀.get? p.1 with
        | none => rfl
        | some o => have := S.F.keep _ _ e; rw [h2] at this; cases this
      · obtain ⟨q, hq, e⟩ := List.mem_map.mp hk
        have := (S.N q (List.mem_append_right _ hq)).1
        rw [e, h2] at this; cases this
  refine ⟨fr', u, S.D, ⟨?_, fun b o e => ?_, S.F.above⟩, fun p hp => ?_, ?_⟩
  · obtain ⟨o, es, ep, ho, hd, r⟩ := S.F.ns
    rw [hoL] at ho; cases ho
    exact ⟨_, es, ep, (x.own (L, { oL with slots := sl }) (List.mem_append_right _ (.head _))).1, hd, r⟩
  · refine x.same b o (fun hm => ?_) (S.F.keep b o e)
    rcases List.mem_cons.mp hm with rfl | hm
    · exact absurd (Heap.lt_size e) (Nat.not_lt.mpr S.F.above)
    · rw [(memF b hm).2] at e; cases e
  · rw [← List.append_assoc] at hp
    rcases List.mem_append.mp hp with hp | hp
    · exact ⟨(news p hp).1, (news p hp).2.1, (news p hp).2.2.1⟩
    · have h1 := S.N p (List.mem_append_right _ hp)
      refine ⟨x.same _ _ (fun hm => ?_) h1.1, h1.2⟩
      rcases List.mem_cons.mp hm with hm | hm
      · exact h1.2.1 hm
      · exact ndS.2.2 p.1 hm p.1 (List.mem_map_of_mem hp) rfl
  · rw [← List.append_assoc, List.map_append, List.nodup_append]
    refine ⟨?_, ndS.2.1, fun a ha b hb e => ?_⟩
    · rw [List.map_append]
      have : (adr res ++ adr fr').Nodup := by
        rw [u.adr]
        exact List.nodup_append.mpr ⟨nd1, (List.nodup_cons.mp nd2).2, fun a ha b hb => nd3 a ha b (.tail _ hb)⟩
      exact this
    · subst e
      obtain ⟨p, hp, rfl⟩ := List.mem_map.mp ha
      exact (news p hp).2.2.2 hb
theorem told_in {w : World} {hw h₀ h : Heap} {L a0 : Addr} {m : Loc} {fr k : Led} {A : Around} {Q : Value → Heap → Prop} {E : Value → Heap → Prop} {fd fdF : FuncData} {F : Addr} {l : List UInt8} {t : Tok} {RV : Value → Prop}
    (S : St w hw h₀ L h m (fr ++ k)) (hk : fd.scope.kind = .function) (r : Rm A 11) (hf : ∃ lf, A.frames = some (callEnv fd L a0 :: lf) ∧ Fs lf (adr fr)) (hnf : Nf fr) (hF : (KF w.params).lookup F = some { cls := .type "function", data := .func fdF }) (rd : Reads w F l RV)
    (q1 : ∀ h' fr' v, RV v → UpS fr fr' → St w hw h₀ L h' m (fr' ++ k) → Q v h')
    (q2 : ∀ h' fr' a o i t, Pe l i → UpS fr fr' → OLst o [.int i t] → St w hw h₀ L h' m ((a, o) :: (fr' ++ k)) → Q (.ref a) h') :
    Wp (MM w) A (call (.ref 310) [.ref F, .bytes l.toArray t] []) Q E h := by
  obtain ⟨oL, es, ep, hoL, hdL, _⟩ := id S.F.ns
  obtain ⟨lf, hlf, hfs⟩ := hf
  have hL : hw.get? L = none := by
    cases e : hw.get? L with
    | none => rfl
    | some o => exact absurd (Heap.lt_size (S.D.2 _ _ e)) (Nat.not_lt.mpr S.F.above)
  have own : ∀ p ∈ (L, oL) :: fr, h.get? p.1 = some p.2 ∧ hw.get? p.1 = none := fun p hp => by
    cases hp with
    | head => exact ⟨hoL, hL⟩
    | tail _ hp => exact S.own' p hp
  have hnf' : Nf ((L, oL) :: fr) := fun p hp vs e => by
    cases hp with
    | head => rw [hdL] at e; cases e
    | tail _ hp => exact hnf p hp vs e
  have hfs' : Fs (callEnv fd L a0 :: lf) (adr ((L, oL) :: fr)) := fun env he => by
    cases he with
    | head => exact ⟨by show fd.scope.kind ≠ _; rw [hk]; exact (fun x => nomatch x), L, rfl, .head _⟩
    | tail _ he => obtain ⟨h1, L', h2, h3⟩ := hfs env he; exact ⟨h1, L', h2, .tail _ h3⟩
  refine c_told S.wd r own ?_ hnf' ⟨_, hlf, ff_of (fun p hp => (own p hp).1) hnf' hfs'⟩ hF rd (fun h' fr₂ v hv u x => ?_) fun h' fr₂ a o i t' hi u ho x => ?_
  · refine List.nodup_cons.mpr ⟨fun hm => ?_, S.nd'⟩
    obtain ⟨p, hp, e⟩ := List.mem_map.mp hm
    exact (S.N p (List.mem_append_left _ hp)).2.1 e
  · obtain ⟨fr', u', S'⟩ := S.callF (res := []) hoL u x
    exact q1 h' fr' v hv u' S'
  · obtain ⟨fr', u', S'⟩ := S.callF (res := [(a, o)]) hoL u x
    exact q2 h' fr' a o i t' hi u' ho S'
theorem reads_most {w : World} {l : List UInt8} (hl : l.length ≤ 900000) : Reads w 157 l (fun v => ∃ ps t, prog l 0 [] [] = .ok ps ∧ v = .int (ps.foldl max 0 : Nat) t) :=
  fun D r z hE q => c_most D r hl z (fun e h' x => hE e h' x) fun h' ps t' hp k => q h' _ ⟨ps, t', hp, rfl⟩ k
theorem reads_bad {w : World} {l : List UInt8} (hl : l.length ≤ 900000) {n : Nat} (hb : prog l 0 [] [] = .error n) : Reads w 152 l (fun _ => False) :=
  fun D r z hE q => c_tparm D (r.mono (by decide)) hl z (fun e h' x => hE e h' x) fun h' ra ro tl rows ps hp _ _ _ _ _ => by rw [hb] at hp; cases hp

end
section
noncomputable def rowIs (K : Frag) (a : Addr) (r : List UInt8 × Int) : Bool := ((K.lookup a).bind tupL).any fun vs => (rowOf vs).any fun x => x.1 == r.1 && x.2 == r.2
theorem rowIs_of {K : Frag} {a : Addr} {r : List UInt8 × Int} {h : Heap} (X : K.In h) (e : rowIs K a r = true) : ∃ o t u, h.get? a = some o ∧ OTup o [.bytes r.1.toArray t, .int r.2 u] := by
  obtain ⟨o, vs, _, h2, h3, e2⟩ := at_tup X e
  obtain ⟨x, h4, e3⟩ := any_some e2
  obtain ⟨t, u, rfl⟩ := rowOf_of h4
  rw [Bool.and_eq_true, beq_iff_eq, beq_iff_eq] at e3
  rw [e3.1, e3.2] at h3
  exact ⟨o, t, u, h2, h3⟩
theorem k_ill (P : Params) : (KF P).lookup 264 = some { cls := .type "tuple", data := .seq ((List.range 16).map fun i => Value.ref (248 + i)).toArray } := by kernel_rfl
theorem k_illrows (P : Params) : ((List.range 16).all fun i => rowIs (KF P) (248 + i) (illL.getD i ([], 0))) = true := by kernel_rfl
theorem ill_at {P : Params} {h : Heap} (X : (KF P).In h) {i : Nat} (hi : i < 16) : ∃ l b o t u, illL[i]? = some (l, b) ∧ h.get? (248 + i) = some o ∧ OTup o [.bytes l.toArray t, .int b u] := by
  have h1 := List.all_eq_true.mp (k_illrows P) i (List.mem_range.mpr hi)
  have hlen : illL.length = 16 := by decide
  have hx : illL[i]? = some (illL.getD i ([], 0)) := by rw [List.getD_eq_getElem?_getD, List.getElem?_eq_getElem (by lia)]; rfl
  obtain ⟨o, t, u, h2, h3⟩ := rowIs_of X h1
  exact ⟨_, _, o, t, u, hx, h2, h3⟩

theorem eqv_one (i : Int) (t u : Tok) : (Dv.lst ([(i, t)].map fun p => Dv.int p.1)).eqv (.lst ([(i, u)].map fun p => Dv.int p.1)) = true := by
  show (i == i && true) = true
  rw [beq_self_eq_true]
  rfl

theorem c_most_right {w : World} {hw h : Heap} {A : Around} {Q : Value → Heap → Prop} {E : Value → Heap → Prop} {wa ca : Addr} {ow oc : Obj} {fr : Led}
    (D : Wo w hw h) (r : Rm A 12) (hl : ∀ p ∈ fr ++ [(wa, ow), (ca, oc)], h.get? p.1 = some p.2 ∧ hw.get? p.1 = none) (nd : (adr (fr ++ [(wa, ow), (ca, oc)])).Nodup) (hW : WellAt ow oc ca)
    (hf : ∃ lf, A.frames = some lf ∧ Fs lf (adr fr)) (hnf : Nf fr)
    (q : ∀ h' fr' ow', UpS fr fr' → WellAt ow' oc ca → Step h (fr ++ [(wa, ow), (ca, oc)]) h' (fr' ++ [(wa, ow'), (ca, oc)]) → Q (.bool true) h') :
    Wp (MM w) A (call (.ref 317) [.ref wa] []) Q E h := by
  refine enter_g (body := bodyOf (stAt 34)) (binds := [("well", .ref wa)]) D (r : Rm A (11 + 1)) (fr ++ [(wa, ow), (ca, oc)]) hl nd (kf317 _) (kc317 _) (fun s hs => BindsTo.of_eq (by rfl)) rfl [("well", .ref wa)] rfl (fun L h₀ A' h₁ r11 frm fin S => ?_) (locs rfl) (by decide +kernel) rfl rfl rfl
  have S : St w hw h₀ L h₁ [("well", .ref wa)] ([(wa, ow), (ca, oc)] ++ fr) := S.perm List.perm_append_comm
  have hf : ∃ lf, A'.frames = some (callEnv fd317 L 317 :: lf) ∧ Fs lf (adr fr) := hf.imp fun lf x => ⟨frm lf x.1, x.2⟩
  refine st_AssignTup ?_
  walk_at "w"
  refine c_made 2 (by decide) S.wd (r11.mono (by decide)) S.own' S.nd' hW fun h₂ ow₂ a₂ o₂ l m t₁ t₂ hs hlen hW₂ hO₂ X₂ => ?_
  have S₂ := St.call S X₂
  refine u_tuple r11.hd (S₂.get (.head _)) hO₂ fun h₃ k₃ => ?_
  have S₃ := (S₂.grow k₃).sub (l' := [(wa, ow₂), (ca, oc)] ++ fr) (List.sublist_cons_self _ _)
  clear S S₂ X₂
  walk_at "w"
  rename St _ _ _ _ _ _ _ => S₄
  have S₄ := S₄.perm (l' := fr ++ [(wa, ow₂), (ca, oc)]) List.perm_append_comm
  clear S₃
  have hlen : l.length ≤ 8440 := Nat.le_trans hlen (by decide)
  obtain ⟨ps, hps, hm⟩ := made_ok hs
  refine st_If_cut (fun h' => ∃ fr', UpS fr fr' ∧ St w hw h₀ L h' [("well", .ref wa), ("octets", .bytes l.toArray t₁), ("most", .int m t₂)] (fr' ++ [(wa, ow₂), (ca, oc)])) ?_ ?_
  · walk_at "w"
    refine told_in S₄ rfl r11 hf hnf (kf157 _) (reads_most (by lia)) (fun h₅ fr₅ v hv u₅ S₅ => ?_) fun h₅ fr₅ a o i t hi u₅ ho S₅ => ?_
    rotate_left 1
    · obtain ⟨b, _, hb⟩ := hi
      rw [hps] at hb; cases hb
    obtain ⟨ps', t', hps', rfl⟩ := hv
    rw [hps] at hps'; cases hps'
    walk_at "w"
    rw [show (((ps.foldl max 0 : Nat) : Int) != m) = false by rw [hm]; simp]
    walk_at "w"
    refine c_plain S₅.wd (r11.mono (by decide)) fun h₆ k₆ => ?_
    have S₆ := S₅.grow k₆
    walk_at "w"
    refine y_meth slot_bytes_find type_bytes_find ?_
    walk_at "w"
    refine y_find2 fun _ => ?_
    walk_at "w"
    refine d_ne (n := 0) (.bool _) (.bool _) rfl rfl (by have := r11.un; lia) ?_
    rw [find_neg, show (Dv.bool (!l.contains 37)).eqv (.bool (!l.contains 37)) = true from beq_self_eq_true (!l.contains 37), Bool.not_true]
    walk_at "w"
    exact ⟨fr₅, u₅, S₆⟩
  rintro h₅ ⟨fr₅, u₅, S₅⟩
  have S₅ := S₅.perm (l' := [(wa, ow₂), (ca, oc)] ++ fr₅) List.perm_append_comm
  clear S₄
  have h264 := S₅.wd.K _ _ (k_ill _)
  have hT264 : OTup { cls := .type "tuple", data := .seq ((List.range 16).map fun i => Value.ref (248 + i)).toArray } ((List.range 16).map fun i => Value.ref (248 + i)) := ⟨0, rfl⟩
  refine st_Assign ?_
  walk_at "w"
  refine s_tlen hT264 h264 (by simp) fun _ => ?_
  walk_at "w"
  refine c_draw (n := 16) S₅.wd (r11.mono (by decide)) S₅.own' S₅.nd' hW₂ (by decide) (by decide) fun h₆ ow₆ sp t₆ hsp hW₆ X₆ => ?_
  have S₆ := St.call S₅ X₆
  clear S₅ X₆
  walk_at "w"
  rename St _ _ _ _ _ _ _ => S₇
  clear S₆
  obtain ⟨il, bg, oI, tI, uI, hil, hoI, hI⟩ := ill_at S₇.wd.K hsp
  refine s_titem (k := sp) hT264 (S₇.wd.K _ _ (k_ill _)) (by rw [List.getElem?_map, List.getElem?_range hsp]; rfl) (by simp) ?_
  refine u_tuple r11.hd hoI hI fun h₈ k₈ => ?_
  have S₈ := S₇.grow k₈
  walk_at "w"
  rename St _ _ _ _ _ _ _ => S₉
  clear S₇ S₈
  refine Wp_post (Q := fun v h' => ∃ ow' bh t, v = .bytes (bh : List UInt8).toArray t ∧ WellAt ow' oc ca ∧ St w hw h₀ L h' [("well", .ref wa), ("octets", .bytes l.toArray t₁), ("most", .int m t₂), ("spot", .int sp t₆), ("ill", .bytes il.toArray tI), ("begin", .int bg uI)] ([(wa, ow'), (ca, oc)] ++ fr₅) ∧ bh.length ≤ 1000 ∧ ((sp < 12 ∧ ∃ r, bh = 97 :: 98 :: r) ∨ (12 ≤ sp ∧ bh = []))) ?_ ?_
  · refine e_IfExp ?_
    walk_at "w"
    refine s_tlen hT264 (S₉.wd.K _ _ (k_ill _)) (by simp) fun _ => ?_
    walk_at "w"
    refine ⟨fun hb => ?_, fun hb => ?_⟩
    · have hb : sp < 12 := by have := of_decide_eq_true hb; simp at this; lia
      walk_at "w"
      refine c_made 1 (by decide) S₉.wd (r11.mono (by decide)) S₉.own' S₉.nd' hW₆ fun h₁₀ ow₁₀ a₁₀ o₁₀ lb mb t₃ t₄ hsb hlb hW₁₀ hO₁₀ X₁₀ => ?_
      have S₁₀ := St.call S₉ X₁₀
      have hlb : lb.length ≤ 600 := Nat.le_trans hlb (by decide)
      walk_at "w"
      refine s_titem (k := 0) hO₁₀ (S₁₀.get (.head _)) rfl (Nat.le_of_ble_eq_true rfl) ?_
      refine y_add (l := [97, 98]) (by show 2 + _ ≤ _; lia) fun tb => ?_
      exact ⟨_, _, tb, rfl, hW₁₀, S₁₀.sub (List.sublist_cons_self _ _), by show (97 :: 98 :: lb).length ≤ _; simp; lia, .inl ⟨hb, lb, rfl⟩⟩
    · have hb : 12 ≤ sp := by have := of_decide_eq_false hb; simp at this; lia
      walk_at "w"
      exact ⟨_, [], _, rfl, hW₆, S₉, Nat.zero_le _, .inr ⟨hb, rfl⟩⟩
  rintro v h₁₀ ⟨ow₁₀, bh, tb, rfl, hW₁₀, S₁₀, hbl, hcase⟩
  clear S₉ hW₆
  have hil20 : il.length ≤ 20 := by
    rcases hcase with ⟨h12, _⟩ | ⟨h12, _⟩
    · obtain ⟨n, _, _, e⟩ := illE_is sp il bg h12 hil; exact e
    · obtain ⟨n, _, e, _⟩ := illL_is sp il bg h12 hil; exact e
  obtain ⟨n, hbad, hdue⟩ : ∃ n : Nat, prog (l ++ il ++ bh) 0 [] [] = .error (l.length + n) ∧ ((n : Int) = if bg < 0 then ((il ++ bh).length : Int) else bg) := by
    rcases hcase with ⟨h12, rr, rfl⟩ | ⟨h12, rfl⟩
    · obtain ⟨n, rfl, hI, _⟩ := illE_is sp il bg h12 hil
      exact ⟨n, by rw [List.append_assoc]; exact made_ill hs fun a ps => hI rr a ps, by rw [if_neg (by lia)]⟩
    · obtain ⟨n, hI, _, hn⟩ := illL_is sp il bg h12 hil
      exact ⟨n, by rw [List.append_nil]; exact made_ill hs hI, by rw [List.append_nil]; exact hn⟩
  walk_at "w"
  refine y_add (by lia) fun _ => ?_
  walk_at "w"
  refine y_add (by rw [List.length_append]; lia) fun _ => ?_
  walk_at "w"
  rename St _ _ _ _ _ _ _ => S₁₁
  clear S₁₀
  have hwl : (l ++ il ++ bh).length = l.length + (il ++ bh).length := by simp [Nat.add_assoc]
  have hwb : (l ++ il ++ bh).length ≤ 900000 := by rw [hwl, List.length_append]; lia
  generalize hwh : l ++ il ++ bh = wh at *
  refine Wp_here (J := fun v => ∃ t, v = .int (l.length + n : Nat) t) ?_ ?_
  · refine e_IfExp ?_
    walk_at "w"
    refine ⟨fun hb => ?_, fun hb => ?_⟩
    · have hb := of_decide_eq_true hb
      rw [if_pos hb] at hdue
      walk_at "w"
      refine y_len (by simp; lia) fun t => ?_
      rw [List.size_toArray, show (wh.length : Int) = ((l.length + n : Nat) : Int) by lia]
      exact ⟨rfl, _, rfl⟩
    · have hb := of_decide_eq_false hb
      rw [if_neg hb] at hdue
      walk_at "w"
      refine y_len (by simp; lia) fun t => ?_
      walk_at "w"
      rw [List.size_toArray, show (l.length : Int) + bg = ((l.length + n : Nat) : Int) by lia]
      exact ⟨rfl, _, rfl⟩
  rintro v ⟨td, rfl⟩
  walk_at "w"
  refine s_list S₁₁ (Nat.le_of_ble_eq_true rfl) fun da od h₁₂ hod S₁₂ => ?_
  walk_at "w"
  rename St _ _ _ _ _ _ _ => S₁₃
  have S₁₃ := S₁₃.perm (l' := fr₅ ++ [(da, od), (wa, ow₁₀), (ca, oc)]) (List.perm_append_comm (l₁ := [(da, od), (wa, ow₁₀), (ca, oc)]))
  clear S₁₁ S₁₂
  have hf₅ : ∃ lf, A'.frames = some (callEnv fd317 L 317 :: lf) ∧ Fs lf (adr fr₅) := by rw [u₅.adr]; exact hf
  refine told_in S₁₃ rfl r11 hf₅ (u₅.nf hnf) (kf157 _) (reads_most hwb) (fun h₁₄ fr₁₄ v hv u₁₄ S₁₄ => ?_) fun h₁₄ fr₁₄ a₁₄ o₁₄ i₁₄ t₁₄ hi u₁₄ ho₁₄ S₁₄ => ?_
  · obtain ⟨ps', t', hps', rfl⟩ := hv
    rw [hbad] at hps'; cases hps'
  obtain ⟨b, rfl, hb⟩ := hi
  rw [hbad] at hb; cases hb
  walk_at "w"
  refine d_eq (n := 1) (rd_ints (is := [(_, t₁₄)]) (S₁₄.get (.head _)) ho₁₄) (rd_ints (is := [(_, td)]) (S₁₄.get (by simp)) hod) rfl rfl (by have := r11.un; lia) ?_
  rw [eqv_one]
  have S₁₄ := S₁₄.sub (List.sublist_cons_self _ _)
  have u₁₄' := u₅.trans u₁₄
  walk_at "w"
  have hf₁₄ : ∃ lf, A'.frames = some (callEnv fd317 L 317 :: lf) ∧ Fs lf (adr fr₁₄) := by rw [u₁₄'.adr]; exact hf
  refine told_in S₁₄ rfl r11 hf₁₄ (u₁₄'.nf hnf) (kf152 _) (reads_bad hwb hbad) (fun h₁₅ fr₁₅ v hv u₁₅ S₁₅ => hv.elim) fun h₁₅ fr₁₅ a₁₅ o₁₅ i₁₅ t₁₅ hi u₁₅ ho₁₅ S₁₅ => ?_
  obtain ⟨b, rfl, hb⟩ := hi
  rw [hbad] at hb; cases hb
  walk_at "w"
  refine d_eq (n := 1) (rd_ints (is := [(_, t₁₅)]) (S₁₅.get (.head _)) ho₁₅) (rd_ints (is := [(_, td)]) (S₁₅.get (by simp)) hod) rfl rfl (by have := r11.un; lia) ?_
  rw [eqv_one]
  have S₁₅ := (S₁₅.sub (List.sublist_cons_self _ _)).sub (l' := fr₁₅ ++ [(wa, ow₁₀), (ca, oc)]) ((List.Sublist.refl _).append (List.sublist_cons_self _ _))
  exact q _ fr₁₅ ow₁₀ (u₁₄'.trans u₁₅) hW₁₀ (fin S₁₅)

end
section
open PySem PySem.W PyProof.Rows PySem.Calls PySem.Spec PySem.SeqAt LCg
set_option Elab.async false
set_option linter.unusedVariables false
set_option maxRecDepth 100000
set_option maxHeartbeats 4000000

/- the order of octet strings -/
theorem order_lt : ∀ a b : List UInt8, (Builtin.Bytes.order a b == .lt) = decide (a.map (·.toNat) < b.map (·.toNat))
  | [], [] => by decide
  | [], y :: ys => by simp [Builtin.Bytes.order]
  | x :: xs, [] => by simp [Builtin.Bytes.order]
  | x :: xs, y :: ys => by
    have ih := order_lt xs ys
    unfold Builtin.Bytes.order
    rw [List.map_cons, List.map_cons]
    by_cases h1 : x < y
    · rw [if_pos h1]
      have : x.toNat < y.toNat := h1
      simp [List.cons_lt_cons_iff, this]
    · rw [if_neg h1]
      by_cases h2 : x > y
      · rw [if_pos h2]
        have h1' : ¬ x.toNat < y.toNat := h1
        have h2' : y.toNat < x.toNat := h2
        have h3 : ¬ x.toNat = y.toNat := by lia
        simp [List.cons_lt_cons_iff, h1', h3]
      · rw [if_neg h2, ih]
        have h1' : ¬ x.toNat < y.toNat := h1
        have h2' : ¬ y.toNat < x.toNat := h2
        have h3 : x.toNat = y.toNat := by lia
        simp [List.cons_lt_cons_iff, h3]
@[reducible] def byOrd : PyProof.Rows.KeyKind := { toKeyOrd := strKind.toKeyOrd, keyOf := fun v => match v with | .bytes b _ => some (b.toList.map (·.toNat)) | _ => none, dflt := [] }
theorem slot_bytes_lt : Slot "bytes" "__lt__" "bytes.__lt__" :=
  .of (owner := "bytes") (n := "__lt__") (by rw [typeLookup_type, builtinLookup_eq_fast]; kernel_rfl) (by decide +kernel) (by decide +kernel) (by decide +kernel)
    (by first | exact .inl (by decide +kernel) | exact .inr (by decide +kernel)) (by rw [isSubtype_type]; kernel_rfl)
theorem entry_bytes_lt : entryFor table "bytes.__lt__" = some Builtin.«bytes.__lt__» := entryFor_of_tree (by kernel_rfl)
theorem args_bytes_lt (a b : Value) : argsOk "bytes.__lt__" ⟨[a, b], []⟩ := by unfold argsOk; kernel_rfl
section
variable {prog : Program} {w : World} {A : Around} {E : Value → Shared → Prop} {s : Shared}
theorem call_bytes_lt {a b : Array UInt8} {t u : Tok} {Q : Value → Shared → Prop} (h : Q (.bool (decide (a.toList.map (·.toNat) < b.toList.map (·.toNat)))) s) :
    wpAny (model prog w) A (call (.builtin "bytes.__lt__") [.bytes a t, .bytes b u]) Q E s := by
  refine wpAny_call_entry slot_bytes_lt (typeIs_bytes s a t) entry_bytes_lt ?_ (args_bytes_lt _ _)
  rw [← order_lt] at h
  show wpAny _ _ (ret (.bool (Builtin.Bytes.order a.toList b.toList == .lt))) _ _ s
  exact wpAny_pure ⟨_, rfl, h⟩
theorem oneLt_bytes {a b : Array UInt8} {t u : Tok} {Q : Bool → Shared → Prop} (h : Q (decide (a.toList.map (·.toNat) < b.toList.map (·.toNat))) s) : wpAny (model prog w) A (oneLt' true (.bytes a t) (.bytes b u)) Q E s := by
  rw [oneLt'_eq]
  simp only [if_true]
  refine wpAny_bind (wpAny_cRoomFor_byValue rfl ?_)
  refine wpAny_bind (wpAny_callSpecialIfBound?_slot (typeIs_bytes s a t) slot_bytes_lt (call_bytes_lt ?_))
  exact wpAny_truthy_bool h
end
theorem byOrd_oneLt : byOrd.OneLt := by
  intro prog w A E s x y a b Q ha hb h
  cases x <;> simp only [byOrd, reduceCtorEq, Option.some.injEq] at ha
  cases y <;> simp only [byOrd, reduceCtorEq, Option.some.injEq] at hb
  cases ha; cases hb
  exact oneLt_bytes h
/- names in their order -/
noncomputable def BSorted (ls : List (List UInt8)) : Prop := ls.Pairwise fun a b => ¬ (b.map (·.toNat) < a.map (·.toNat))
theorem map_toNat_inj {a b : List UInt8} (h : a.map (·.toNat) = b.map (·.toNat)) : a = b := by
  induction a generalizing b with
  | nil => cases b with | nil => rfl | cons _ _ => cases h
  | cons x xs ih => cases b with
    | nil => cases h
    | cons y ys =>
      rw [List.map_cons, List.map_cons, List.cons.injEq] at h
      rw [UInt8.toNat_inj.mp h.1, ih h.2]
theorem BSorted.unique : ∀ {a b : List (List UInt8)}, a.Perm b → BSorted a → BSorted b → a = b := fun {a b} hp ha hb =>
  hp.eq_of_pairwise (le := fun (a b : List UInt8) => ¬ (b.map (·.toNat) < a.map (·.toNat))) (fun x y _ _ h1 h2 => map_toNat_inj (List.le_antisymm (List.not_lt.mp h1) (List.not_lt.mp h2))) ha hb
theorem mapM_first_by : ∀ {vs : List Value} {ls : List (List UInt8)}, BL vs ls → vs.mapM firstOfTuple' = pure (vs.map fun _ => none) := fun {vs} => by
  induction vs with
  | nil => intro _ _; simp
  | cons v vs ih =>
    intro ls h
    cases ls with
    | nil => exact absurd h.1 (by simp)
    | cons b ls =>
      obtain ⟨t, rfl⟩ := h.2 0 _ _ rfl rfl
      have h' : BL vs ls := ⟨by simpa using h.1, fun j v b h1 h2 => h.2 (j + 1) v b h1 h2⟩
      rw [List.mapM_cons, show firstOfTuple' (.bytes b.toArray t) = pure none from rfl, ih h']
      simp
theorem mapM_type_by : ∀ {vs : List Value} {ls : List (List UInt8)}, BL vs ls → vs.mapM typeOf = pure (vs.map fun _ => Value.type "bytes") := fun {vs} => by
  induction vs with
  | nil => intro _ _; simp
  | cons v vs ih =>
    intro ls h
    cases ls with
    | nil => exact absurd h.1 (by simp)
    | cons b ls =>
      obtain ⟨t, rfl⟩ := h.2 0 _ _ rfl rfl
      have h' : BL vs ls := ⟨by simpa using h.1, fun j v b h1 h2 => h.2 (j + 1) v b h1 h2⟩
      rw [List.mapM_cons, ih h']
      show (pure (Value.type "bytes") >>= fun b => pure _ >>= fun bs => pure (b :: bs)) = _
      simp
theorem keyKind_by {v₁ v₂ : Value} {vs : List Value} {ls : List (List UInt8)} (hS : BL (v₁ :: v₂ :: vs) ls) : keyKind' (v₁ :: v₂ :: vs).toArray = pure oneType' := by
  rw [keyKind'_eq, List.mapM_toArray, mapM_first_by hS]
  simp only [map_pure, pure_bind]
  rw [if_neg (by simp), if_neg (by simp)]
  rw [oneTypeOnly'_eq, List.mapM_toArray, mapM_type_by hS]
  simp only [map_pure, pure_bind]
  have hall : ((List.map (fun _ => Value.type "bytes") (v₁ :: v₂ :: vs)).toArray.all fun x => x == Value.type "bytes") = true := by
    simp only [List.all_toArray, List.all_map, List.all_eq_true]
    intro _ _
    rfl
  have h0 : (List.map (fun _ => Value.type "bytes") (v₁ :: v₂ :: vs)).toArray[0]? = some (Value.type "bytes") := by simp
  rw [h0]
  simp only [hall, if_true, pure_bind, Option.isSome_some]
noncomputable def byOf : Value → List UInt8
  | .bytes b _ => b.toList
  | _ => []
theorem BL.of {vs : List Value} {ls : List (List UInt8)} (h : BL vs ls) : (∀ v ∈ vs, ∃ b t, v = .bytes (b : List UInt8).toArray t) ∧ vs.map byOf = ls := by
  induction vs generalizing ls with
  | nil => cases ls with | nil => exact ⟨(fun _ h => nomatch h), rfl⟩ | cons _ _ => exact absurd h.1 (by simp)
  | cons v vs ih =>
    cases ls with
    | nil => exact absurd h.1 (by simp)
    | cons b ls =>
      obtain ⟨t, rfl⟩ := h.2 0 _ _ rfl rfl
      obtain ⟨h1, h2⟩ := ih (ls := ls) ⟨by simpa using h.1, fun j v b h1 h2 => h.2 (j + 1) v b h1 h2⟩
      refine ⟨fun u hu => ?_, by rw [List.map_cons, h2]; simp [byOf]⟩
      cases hu with
      | head => exact ⟨b, t, rfl⟩
      | tail _ hu => exact h1 u hu
theorem BL.map {vs : List Value} (h : ∀ v ∈ vs, ∃ b t, v = .bytes (b : List UInt8).toArray t) : BL vs (vs.map byOf) := by
  induction vs with
  | nil => exact .nil
  | cons v vs ih =>
    obtain ⟨b, t, rfl⟩ := h _ (.head _)
    exact .cons ⟨t, by simp [byOf]⟩ (ih fun v hv => h v (.tail _ hv))
theorem sorted_out_by {vs : List Value} {ls : List (List UInt8)} (hS : BL vs ls) {xs : Array Keyed} (hp : xs.Perm (pairsOf vs)) (hs : SortedToK byOrd xs (pairsOf vs).size) :
    ∃ ls', BL (xs.map (·.2)).toList ls' ∧ ls'.Perm ls ∧ BSorted ls' := by
  obtain ⟨hall, hmap⟩ := hS.of
  have hl : xs.toList.Perm (vs.zip vs) := by rw [← pairsOf_toList]; exact Array.perm_iff_toList_perm.mp hp
  have hmem : ∀ p, p ∈ xs.toList → p.1 = p.2 ∧ p.1 ∈ vs := fun p hp' => mem_zip_self (hl.mem_iff.mp hp')
  refine ⟨xs.toList.map (fun p => byOf p.1), ?_, ?_, ?_⟩
  · have e : (xs.map (·.2)).toList = xs.toList.map (·.1) := by
      rw [Array.toList_map]; exact List.map_congr_left fun p hp' => (hmem p hp').1.symm
    rw [e]
    have h1 := BL.map (vs := xs.toList.map (·.1)) (by
      intro v hv
      obtain ⟨p, hp', rfl⟩ := List.mem_map.mp hv
      exact hall _ (hmem p hp').2)
    rwa [List.map_map] at h1
  · have h1 := hl.map (fun p => byOf p.1)
    have e2 : (vs.zip vs).map (fun p => byOf p.1) = ls := by
      have : (vs.zip vs).map (fun p => byOf p.1) = ((vs.zip vs).map Prod.fst).map byOf := by rw [List.map_map]; rfl
      rw [this, List.map_fst_zip (Nat.le_refl _), hmap]
    rwa [e2] at h1
  · unfold BSorted
    rw [List.pairwise_iff_getElem]
    intro i j hi hj hij
    have hi' : i < xs.size := by simpa using hi
    have hj' : j < xs.size := by simpa using hj
    have h1 := hs i j (Nat.le_of_lt hij) (by rw [← hp.size_eq]; exact hj')
    obtain ⟨x, t, ex⟩ := hall _ (hmem xs[i] (by simp)).2
    obtain ⟨y, u, ey⟩ := hall _ (hmem xs[j] (by simp)).2
    have k1 : KK byOrd xs i = x.map (·.toNat) := by unfold KK; rw [getElem?_pos xs i hi']; show (byOrd.keyOf xs[i].1).getD _ = _; rw [ex]; simp [byOrd]
    have k2 : KK byOrd xs j = y.map (·.toNat) := by unfold KK; rw [getElem?_pos xs j hj']; show (byOrd.keyOf xs[j].1).getD _ = _; rw [ey]; simp [byOrd]
    rw [k1, k2] at h1
    have h1 : decide (y.map (·.toNat) < x.map (·.toNat)) = false := h1
    simp only [List.getElem_map, Array.getElem_toList]
    rw [show byOf xs[i].1 = x by rw [ex]; simp [byOf], show byOf xs[j].1 = y by rw [ey]; simp [byOf]]
    exact of_decide_eq_false h1
theorem BL.keysOf {vs : List Value} {ls : List (List UInt8)} (hS : BL vs ls) : PyProof.Rows.KeysOf byOrd (pairsOf vs) := by
  intro p hp
  rw [pairsOf_toList] at hp
  obtain ⟨x, t, e⟩ := hS.of.1 _ (mem_zip_self hp).2
  exact ⟨x.map (·.toNat), by rw [e]⟩
section
variable {w : World} {A : Around} {E : Value → Heap → Prop} {hw h₀ h : Heap} {L a : Addr} {m : Loc} {led : Led} {Q : Value → Heap → Prop}
theorem s_sorted {o : Obj} {vs : List Value} {ls : List (List UInt8)} (S : St w hw h₀ L h m led) (ho : h.get? a = some o) (hv : OLst o vs) (hb : BL vs ls) (h64 : vs.length < 64)
    (q : ∀ c oc h' vs' ls', OLst oc vs' → BL vs' ls' → ls'.Perm ls → BSorted ls' → St w hw h₀ L h' m ((c, oc) :: led) → Q (.ref c) h') : Wp (MM w) A (call (.builtin "sorted") [.ref a] []) Q E h := Wp_of fun g d tk os => by
  refine sortedK byOrd_oneLt (hv.at ho) hb.keysOf (fun v₁ v₂ rest e => keyKind_by (by rw [← e]; exact hb)) h64 fun st' hp hs => ⟨⟨rfl, rfl, rfl⟩, ?_⟩
  obtain ⟨ls', h1, h2, h3⟩ := sorted_out_by hb hp hs
  obtain ⟨e, he⟩ := sortedAll_at h vs ((arrOf st').map (·.2))
  refine q _ _ _ _ ls' ⟨e, by rw [Array.toArray_toList]⟩ h1 h2 h3 (S.call0 (l' := [(h.objs.size + 1, seqObj "list" ((arrOf st').map (·.2)) e)]) ⟨Same.of fun b o ho => sortedAll_old ho, fun p hp => ?_, by simp [adr]⟩)
  obtain rfl := List.mem_singleton.mp hp
  exact ⟨he, .inr (Heap.get?_none_of_le (Nat.le_succ _))⟩
end

end
section
open PySem PySem.W PyProof.Rows PySem.Calls PySem.Spec PySem.SeqAt LCg
set_option Elab.async false
set_option linter.unusedVariables false
set_option maxRecDepth 100000
set_option maxHeartbeats 4000000

noncomputable abbrev KV := List (List UInt8 × Value)
/- a dict of the ledger: where it lies and what it maps -/
noncomputable def DI (w : World) (p : Addr × Obj) (kvs : KV) : Prop := p.2.IsDictOf (bytesKind pw w) kvs ∧ (p.1 == sysModules) = false
theorem isB (w : World) (k : List UInt8) (t : Tok) : (bytesKind pw w).is k (.bytes k.toArray t) = true := by show PySem.W.isBytes k (.bytes k.toArray t) = true; simp [PySem.W.isBytes]
section
variable {w : World} {A : Around} {E : Value → Heap → Prop} {hw h₀ h : Heap} {L d a : Addr} {m : Loc} {led : Led} {env : Env} {o : Obj} {kvs : KV} {k : List UInt8} {t : Tok}
theorem DI.of (x : DI w (d, o) kvs) (e : h.get? d = some o) : h.DictOf (bytesKind pw w) d kvs := Heap.dictOf_iff.mpr ⟨o, e, x.1⟩
theorem notMod (D : Wo w hw h) : ∀ a, h.objs.size ≤ a → (a == sysModules) = false := fun a ha => by
  have h1 : (341 : Nat) < h.objs.size := Heap.lt_size (D.K _ _ (kf341 _))
  have ha : (h.objs.size : Nat) ≤ a := ha
  exact beq_eq_false_iff_ne.mpr fun e => by
    subst e
    have h2 : (h.objs.size : Nat) ≤ 1 := ha
    lia
theorem e_Dict0 {pos : Pos} {Q : Value → Heap → Prop} (S : St w hw h₀ L h m led) (q : ∀ d o h', DI w (d, o) [] → St w hw h₀ L h' m ((d, o) :: led) → Q (.ref d) h') : Wp (MM w) A (eval (.Dict [] [] pos) env) Q E h := Wp_of fun g dd tk os => by
  rw [arm_eval_Dict]
  refine wpAny_bind (wpAny_standAt ?_)
  show wpAny _ _ (newDict >>= fun d => pure d) _ _ _
  refine wpAny_bind (wpAny_newObj_type (wpAny_pure ⟨⟨rfl, rfl, rfl⟩, ?_⟩))
  exact q _ _ _ ⟨⟨#[], 0, ⟨rfl, rfl, rfl⟩, rfl, (fun _ he => by simp at he), .nil, .nil⟩, notMod S.wd _ (Nat.le_refl _)⟩ (S.push { cls := .type "dict", data := .dict #[] })
theorem s_dset {v : Value} {Q : Unit → Heap → Prop} (S : St w hw h₀ L h m led) (x : DI w (d, o) kvs) (hm : (d, o) ∈ led) (hz : kvs.length ≤ 16777216)
    (q : ∀ o' h', DI w (d, o') (stored kvs k v) → (∀ l', Up d o o' led l' → St w hw h₀ L h' m l') → Q () h') : Wp (MM w) A (setItem (.ref d) (.bytes k.toArray t) v) Q E h := Wp_of fun g dd tk os =>
  wpAny_setItem_pairs (isB w k t) (x.of (S.get hm)) (fun h' hd hs => by
    obtain ⟨o', e, x'⟩ := Heap.dictOf_iff.mp hd
    exact ⟨⟨rfl, rfl, rfl⟩, q o' h' ⟨x', x.2⟩ fun l' u => S.upd u hs.extBut e⟩) (by rw [sizeLine_eq]; exact hz)
theorem s_dget {Q : Value → Heap → Prop} (x : DI w (d, o) kvs) (e : h.get? d = some o) (q : Q ((valueAt kvs k).getD .none) h) : Wp (MM w) A (call (.builtin "dict.get") [.ref d, .bytes k.toArray t] []) Q E h := Wp_of fun g dd tk os =>
  call_meetsIn PySem.F.slot_dict_get (x.of e).typeIs PySem.F.entry_dict_get (PySem.F.args_dict_get_2 _ _) (meets_dict_get (bytesKind pw w) d (isB w k t) x.2) ⟨_, (x.of e).mapOf, ⟨rfl, rfl, rfl⟩, q⟩
theorem s_mget {pl : Sem Bool} {Q : Value × List Value → Heap → Prop} (x : DI w (d, o) kvs) (e : h.get? d = some o) (q : Q (.builtin "dict.get", [.ref d]) h) : Wp (MM w) A (getMethod (.ref d) "get" pl) Q E h := Wp_of fun g dd tk os =>
  getMethod_builtin (x.of e).typeIs PySem.F.plainAttrs_dict PySem.F.slot_dict_get PySem.F.type_dict_get (fun a e' => by
    cases e'
    obtain ⟨_, _, hx, _⟩ := x.1
    exact ⟨_, e, hx.2.1⟩) ⟨⟨rfl, rfl, rfl⟩, q⟩
theorem s_dnotin {Q : Value → Heap → Prop} (x : DI w (d, o) kvs) (e : h.get? d = some o) (q : Q (.bool (!(valueAt kvs k).isSome)) h) : Wp (MM w) A (compareOp .NotIn (.bytes k.toArray t) (.ref d)) Q E h := Wp_of fun g dd tk os =>
  wpAny_notIn_of (isB w k t) x.2 (x.of e).mapOf ⟨⟨rfl, rfl, rfl⟩, q⟩
theorem keys_BL {vs : List Value} {kvs : KV} (hl : vs.length = kvs.length) (hv : ∀ (j : Nat) (v : Value), vs[j]? = some v → ∃ (k : List UInt8) (x : Value), kvs[j]? = some (k, x) ∧ (bytesKind pw w).is k v = true) : BL vs (kvs.map (·.1)) := ⟨by simp [hl], fun j v b h1 h2 => by
  obtain ⟨k, x, hk, hi⟩ := hv j v h1
  rw [List.getElem?_map, hk] at h2
  cases h2
  exact isBytes_shape hi⟩
theorem s_dlist {Q : Value → Heap → Prop} (hh : A.handled = none) (S : St w hw h₀ L h m led) (x : DI w (d, o) kvs) (e : h.get? d = some o) (hz : kvs.length ≤ 16777216)
    (q : ∀ c oc h' vs, OLst oc vs → BL vs (kvs.map (·.1)) → St w hw h₀ L h' m ((c, oc) :: led) → Q (.ref c) h') : Wp (MM w) A (call (.type "list") [.ref d] []) Q E h := Wp_of fun g dd tk os => by
  obtain ⟨ep, hat⟩ := (x.of e).dictAt
  refine kdl_call (kdl_dict (knd := bytesKind pw w) (kvs := kvs) (ep := ep) x.2) hh hat (by rw [sizeLine_eq]; exact hz) fun h' tk' acc c hk hD hacc => ⟨⟨rfl, rfl, rfl⟩, ?_⟩
  refine q _ _ _ acc.toList ⟨c, by rw [Array.toArray_toList]⟩ (keys_BL (by rw [Array.length_toList]; exact hacc.1) fun j v e => hacc.2 j v (by rw [← Array.getElem?_toList]; exact e)) (S.call0 (l' := [(h.objs.size, _)]) ⟨Same.of hk, fun p hp => ?_, by simp [adr]⟩)
  obtain rfl := List.mem_singleton.mp hp
  exact ⟨hD, .inr (Heap.get?_none_of_le (Nat.le_refl _))⟩
theorem s_ddict {Q : Value → Heap → Prop} (S : St w hw h₀ L h m led) (x : DI w (d, o) kvs) (e : h.get? d = some o) (hz : kvs.length ≤ 16777216)
    (q : ∀ c oc h', DI w (c, oc) kvs → St w hw h₀ L h' m ((c, oc) :: led) → Q (.ref c) h') : Wp (MM w) A (call (.type "dict") [.ref d] []) Q E h := Wp_of fun g dd tk os => by
  refine kt_call_dict x.2 (x.of e) (by rw [sizeLine_eq]; exact hz) fun h' hd hs => ⟨⟨rfl, rfl, rfl⟩, ?_⟩
  obtain ⟨oc, ec, xc⟩ := Heap.dictOf_iff.mp hd
  have S₁ := S.push { cls := .type "dict", data := .dict #[] }
  exact q _ _ _ ⟨xc, notMod S.wd _ (Nat.le_refl _)⟩ (S₁.upd .head hs.extBut ec)
theorem s_dsorted {Q : Value → Heap → Prop} (hh : A.handled = none) (S : St w hw h₀ L h m led) (x : DI w (d, o) kvs) (e : h.get? d = some o) (hz : kvs.length < 64)
    (q : ∀ c oc h' vs' ls', OLst oc vs' → BL vs' ls' → ls'.Perm (kvs.map (·.1)) → BSorted ls' → St w hw h₀ L h' m ((c, oc) :: led) → Q (.ref c) h') : Wp (MM w) A (call (.builtin "sorted") [.ref d] []) Q E h := Wp_of fun g dd tk os => by
  obtain ⟨ep, hat⟩ := (x.of e).dictAt
  refine kdu_sorted (kdl_dict (knd := bytesKind pw w) (kvs := kvs) (ep := ep) x.2) hh S.F S.N hat (by rw [sizeLine_eq]; lia) fun B h' tk' vs F' N' l1 hl hv => ?_
  have hb : BL vs (kvs.map (·.1)) := keys_BL hl hv
  have hB : h'.get? B = some (seqObj "list" vs.toArray 0) := (N' _ (.head _)).1
  refine wpAny_call_entry slot_list_sort ⟨_, hB, rfl⟩ entry_list_sort (list_sort_treeK byOrd_oneLt hB hb.keysOf (fun v₁ v₂ rest e => keyKind_by (by rw [← e]; exact hb)) (by lia) fun st' hp hs => ⟨_, rfl, ⟨rfl, rfl, rfl⟩, ?_⟩) (args_list_sort _)
  obtain ⟨ls', h1, h2, h3⟩ := sorted_out_by hb hp hs
  obtain ⟨e', he⟩ := sortedHeap_at (out := (arrOf st').map (·.2)) hB
  have S' : St w hw h₀ L h' m ((B, seqObj "list" vs.toArray 0) :: led) := ⟨S.D, F', N', by
    rw [List.map_cons]
    exact List.nodup_cons.mpr ⟨fun hm => by obtain ⟨p, hp, e⟩ := List.mem_map.mp hm; exact Nat.lt_irrefl _ (e ▸ l1 p hp), S.nd⟩⟩
  refine q B _ _ _ ls' ⟨e', by rw [Array.toArray_toList]⟩ h1 h2 h3 (S'.upd .head (fun b x hb hx => ?_) he)
  rw [sortedHeap_old hb (Heap.lt_size hx)]
  exact hx
/- a comprehension over a dict -/
theorem dict_there {I : Addr} : ∀ i (h : Heap), (∃ ep, h.IsKeyIter I d i kvs.length ep ∧ h.DictAt (bytesKind pw w) d kvs ep) → ∃ o, h.get? I = some o := fun i h x => let ⟨_, ⟨o, e, _⟩, _⟩ := x; ⟨o, e⟩
theorem compOn_d {scope : Scope} {cl : List (Str × Addr)} {elt target : Expr} {ifs : List Expr} {Q : Value → Heap → Prop} {src l : Led} (hh : A.handled = none) (K : Nat → List Value → Led → Prop) (S : St w hw h₀ L h m (src ++ l)) (x : DI w (d, o) kvs) (hm : (d, o) ∈ src) (hz : kvs.length ≤ 16777216) (hK : K 0 [] l)
    (turn : ∀ i k t ys l I o C oC D oD mc h, (∃ v, kvs[i]? = some (k, v)) → K i ys l → OLst oD ys → NsObj oC (lk mc) → St w hw h₀ L h m ((I, o) :: (src ++ (C, oC) :: (D, oD) :: l)) → CompBody w A hw h₀ L m env elt target ifs scope cl I src K i (.bytes k.toArray t) ys o C D oD h)
    (done : ∀ D oD ys l h', OLst oD ys → ys.length ≤ kvs.length → K kvs.length ys l → St w hw h₀ L h' m ((D, oD) :: (src ++ l)) → Q (.ref D) h') : Wp (MM w) A (pyIter (.ref d)) (fun it h₂ => CompOn w A hw h₀ L m env elt target ifs scope cl Q it h₂) E h := Wp_of fun g dd tk os => by
  have e := S.get (List.mem_append_left _ hm)
  obtain ⟨ep, hat⟩ := (x.of e).dictAt
  refine wpAny_pyIter_dict x.2 hat ⟨⟨rfl, rfl, rfl⟩, ?_⟩
  have S' := S.push { cls := .type "dict_keyiterator", data := .fields #[.ref d, .int 0 0, .int kvs.length 0, .int ep 0] }
  have hne : d ≠ h.objs.size := Nat.ne_of_lt (Heap.lt_size e)
  refine ⟨h.objs.size, _, kvs.length, _, _, src, l, _, K, rfl, Walks.dictKeys (knd := bytesKind pw w) hh h.objs.size d hne kvs ep, (fun i h x => dict_there (w := w) (kvs := kvs) (d := d) i h ⟨ep, x⟩), (fun b hb => ?_), hz, S', ⟨⟨_, Heap.get?_push_size _ rfl, rfl, rfl⟩, hat.push _⟩, hK, (fun i v ys l o C oC D oD mc h₉ hi hP hK hT hD hC S => ?_), no_done done⟩
  · simp at hb
    rcases hb with rfl | rfl
    · exact .inl rfl
    · exact .inr (.inl (List.mem_map_of_mem (f := (·.1)) hm))
  · obtain ⟨k, v', hk, hv⟩ := hP
    obtain ⟨t, rfl⟩ := isBytes_shape hv
    exact turn i k t ys l h.objs.size o C oC D oD mc h₉ ⟨v', hk⟩ hK hD hC S
end

end
section
open PySem PySem.W PyProof.Rows PySem.Calls PySem.Spec PySem.SeqAt LCg
set_option Elab.async false
set_option linter.unusedVariables false
set_option maxRecDepth 100000
set_option maxHeartbeats 4000000

theorem list_no_keys : typeLookup (.type "list") "keys" = pure none := by rw [typeLookup_type, builtinLookup_eq_fast]; kernel_rfl
theorem keys_miss {prog : Program} {w : World} {A : Around} {E : Value → Shared → Prop} {s : Shared} {a : Addr} {o : Obj} {xs : Array Value} {k : Nat} {Q : Option Value → Shared → Prop}
    (hx : s.heap.get? a = some o) (hc : o.cls = .type "list") (hdat : o.data = .seq xs k) (hd : o.dict = none) (hA : A.handled = none)
    (h : ∀ h' tk, s.heap.StaysIn h' → Q none { s with heap := h', toks := tk }) : wpAny (model prog w) A (getAttr? (.ref a) "keys") Q E s := by
  refine gh fun CC kk => ?_
  obtain ⟨c, dct, dat, sl⟩ := o
  refine kk ?_
  clear kk CC
  simp only at hc hdat hd
  subst hc hdat hd
  refine gh fun CC kk => ?_
  obtain ⟨hp, g, d, tk, os⟩ := s
  refine kk ?_
  clear kk CC
  have hT : ∀ tk', (⟨hp, g, d, tk', os⟩ : Shared).TypeIs (.ref a) "list" := fun _ => ⟨_, hx, rfl⟩
  have f1 := sub_AttributeError
  have f3 := F.slot_list_getattribute.lookup
  have f4 := F.slot_list_getattribute.bind (.ref a)
  have f5 := am_list_getattr_none
  unfold getAttr? getAttrBy? getAttrBy
  repeat (any_goals (first | assumption | exact hT _ | ((with_reducible show wpAny _ _ (call (Value.builtin "list.__getattribute__") _ _) _ _ _); refine call_meets F.slot_list_getattribute (hT _) am_entry_list_getattribute (F.args_list_getattribute_2 _ _) (meets_getattribute_miss_list a xs k sl "keys" _ list_no_keys (by decide) (by size_fits)) ⟨hx, hA, fun h' tk' e hx' => ?_⟩) | wp_step))
  refine gh fun CC kk => ?_
  obtain ⟨t', u', he⟩ := hx'.there
  refine kk ?_
  clear kk CC
  show wpAny _ _ (getattributeRaised _ _ _ _ _ _ _) _ _ _
  unfold getattributeRaised
  repeat (any_goals (first | assumption | wp_step))
  exact h _ _ hx'.keeps
theorem entry_update_loop : entryFor table "dict.update.loop" = some Builtin.«dict.update.loop» := entryFor_of_tree (by kernel_rfl)
theorem plain_update_loop : plainId "dict.update.loop" = true := by decide +kernel
section
variable {prog : Program} {w : World} {K : Type} [DecidableEq K] {knd : PySem.KeyKind prog w K} {A : Around}
theorem upd_loop {d I : Addr} {fp : List Addr} {n : Nat} {P : Nat → Value → Prop} {T : Nat → Heap → Prop} {acc more : List (K × Value)} {h₀ : Heap} {res : Value} {R : Result → Shared → Prop}
    (W : Walks prog w A.in1 I fp [I] n P T) (hd : d ∉ fp) (hn : more.length = n) (hz : acc.length + more.length ≤ sizeLine)
    (hP : ∀ i v, P i v → ∃ a key val k, v = .ref a ∧ knd.is k key = true ∧ more[i]? = some (k, val) ∧ a ≠ d ∧ a ≠ I ∧ h₀.IsTuple a #[key, val])
    {g : Array GenState} {dr : Drawn} {os : OsState}
    (hR : ∀ h' tk, h'.DictOf knd d (merged acc more) → (∀ b o, b ≠ d → b ≠ I → h₀.get? b = some o → h'.get? b = some o) → R (.ok (.ret res)) ⟨h', g, dr, tk, os⟩) :
    ∀ (j i : Nat) (t : Tok) (h : Heap) (tk : Nat), i + j = n → T i h → h.DictOf knd d (merged acc (more.take i)) → (∀ b o, b ≠ d → b ≠ I → h₀.get? b = some o → h.get? b = some o) →
      codeAny (model prog w) A (.builtin "dict.update.loop" ⟨[.ref d, .ref I, .int i t, res], []⟩) R ⟨h, g, dr, tk, os⟩ := fun j => by
  have hdI : d ≠ I := fun e => hd (e ▸ W.sub I (.head _))
  have at_ : ∀ {h h' : Heap} {kvs : List (K × Value)}, h.DictOf knd d kvs → (∀ o, h.get? d = some o → h'.get? d = some o) → h'.DictOf knd d kvs := fun x k => let ⟨o, es, ep, ho, r⟩ := x; ⟨o, es, ep, k o ho, r⟩
  induction j with
  | zero =>
    intro i t h tk hi hT hm hk
    obtain rfl : i = n := by lia
    refine codeAny_builtin entry_update_loop ?_
    rw [Around.under_plainId plain_update_loop _]
    show wpAny _ _ (pyNext (.ref I) >>= _) _ _ _
    refine wpAny_bind (W.done _ _ _ hT fun h' tk' hk' => ?_)
    refine wpAny_bind (wpAny_pure (wpAny_pure ?_))
    rw [List.take_of_length_le (by lia)] at hm
    refine hR h' tk' (at_ hm fun o e => hk' d o (by simpa using hdI) e) fun b o hb hbI e => hk' b o (by simpa using hbI) (hk b o hb hbI e)
  | succ j ih =>
    intro i t h tk hi hT hm hk
    refine codeAny_builtin entry_update_loop ?_
    rw [Around.under_plainId plain_update_loop _]
    show wpAny _ _ (pyNext (.ref I) >>= _) _ _ _
    refine wpAny_bind (W.item i _ _ _ (by lia) hT fun v h' tk' hv hT' hk' => ?_)
    refine gh fun CC kk => ?_
    obtain ⟨a, key, val, k, rfl, hkey, hmore, had, haI, ht⟩ := hP i v hv
    refine kk ?_
    clear kk CC
    have hm' : h'.DictOf knd d (merged acc (more.take i)) := at_ hm fun o e => hk' d o (by simpa using hdI) e
    have hk₁ : ∀ b o, b ≠ d → b ≠ I → h₀.get? b = some o → h'.get? b = some o := fun b o hb hbI e => hk' b o (by simpa using hbI) (hk b o hb hbI e)
    refine gh fun CC kk => ?_
    obtain ⟨ot, hot, hct, nt, hdt⟩ := ht
    refine kk ?_
    clear kk CC
    have hot' := hk₁ a ot had haI hot
    refine wpAny_bind (wpAny_holding (wpAny_bind (wpAny_tryCatch ?_)))
    unfold Builtin.Dict.pairItems
    refine wpAny_bind (wpAny_typeOf (T := "tuple") ⟨ot, hot', hct⟩ ?_)
    rw [if_pos (by decide)]
    refine wpAny_bind (wpAny_seqItems hot' hdt (wpAny_pure ?_))
    dsimp only
    refine wpAny_holding (wpAny_dictSet_pairs hkey hm' (fun h'' hm'' hs'' => ?_) ?_)
    · refine wpAny_pure ⟨plainId_quiet plain_update_loop _, ?_⟩
      have e1 : (rawInt ((i : Int) + 1)) = .int ((i + 1 : Nat) : Int) 0 := by show Value.int _ 0 = _; congr 1
      rw [e1]
      rw [← merged_take_succ acc more i (k, val) hmore] at hm''
      exact ih (i + 1) 0 h'' _ (by lia) (W.frame _ _ _ hT' fun b hb o e => (hs''.2 b fun e' => hd (e' ▸ hb)).trans e) hm'' fun b o hb hbI e => (hs''.2 b hb).trans (hk₁ b o hb hbI e)
    · have := merged_length_le acc (more.take i)
      rw [List.length_take] at this
      lia
theorem dict_pairs {E : Value → Shared → Prop} {s : Shared} {a : Addr} {vs : List Value} {more : List (K × Value)} {Q : Value → Shared → Prop} (hh : A.handled = none) (hl : s.heap.IsList a vs.toArray) (hnd : ∀ o, s.heap.get? a = some o → o.dict = none) (hn : vs.length = more.length) (hz : more.length ≤ sizeLine)
    (hv : ∀ (i : Nat) (v : Value), vs[i]? = some v → ∃ b key val k, v = .ref b ∧ knd.is k key = true ∧ more[i]? = some (k, val) ∧ s.heap.IsTuple b #[key, val])
    (q : ∀ h' tk, h'.DictOf knd s.heap.objs.size (merged [] more) → (∀ b o, s.heap.get? b = some o → h'.get? b = some o) → Q (.ref s.heap.objs.size) { s with heap := h', toks := tk }) :
    wpAny (model prog w) A (call (.type "dict") [.ref a]) Q E s := by
  refine callType_codes (Q₁ := fun obj s₁ => obj = .ref s.heap.objs.size ∧ s₁ = { s with heap := s.heap.push { cls := .type "dict", data := .dict #[] } }) F.kt_called_dict (F.kt_typeCall_dict_1 _) F.entry_dict_init (kt_code_dict_new _ ⟨rfl, rfl⟩) ?_
  rintro obj s₁ ⟨rfl, rfl⟩
  have hnew : (s.heap.push { cls := .type "dict", data := .dict #[] }).DictOf knd s.heap.objs.size [] := Heap.DictOf.new s.heap
  have k1 : ∀ b o, s.heap.get? b = some o → (s.heap.push { cls := .type "dict", data := .dict #[] }).get? b = some o := fun b o e => Heap.get?_push_of_some _ e
  refine ⟨hnew.typeIs, F.args_dict_init_2 _ _, ?_⟩
  refine gh fun CC kk => ?_
  obtain ⟨ol, hol, hcl, nl, hdl⟩ := hl
  refine kk ?_
  clear kk CC
  have hol₁ := k1 _ _ hol
  unfold Builtin.«dict.__init__»
  refine wpAny_bind ?_
  unfold Builtin.Dict.selfAndRest
  refine wpAny_bind (wpAny_notOrdered_dict hnew.typeIs ?_)
  show wpAny _ _ (pure (s.heap.objs.size, [Value.ref a])) _ _ _
  refine wpAny_pure ?_
  show wpAny _ _ (Builtin.Dict.updateFrom "dict.__init__" s.heap.objs.size (.ref a) [] .none) _ _ _
  unfold Builtin.Dict.updateFrom
  refine wpAny_bind (wpAny_typeOf (T := "list") ⟨ol, hol₁, hcl⟩ ?_)
  rw [if_pos (by decide)]
  refine wpAny_bind (keys_miss hol₁ hcl hdl (hnd _ hol) hh fun h₂ tk₂ k₂ => ?_)
  rw [if_pos (show (none : Option Value).isNone = true from rfl)]
  refine wpAny_bind (wpAny_rule ?_)
  have hl₂ : h₂.IsList a vs.toArray := ⟨ol, k₂ _ _ hol₁, hcl, nl, hdl⟩
  refine wpAny_bind (wpAny_pyIter_list hl₂ ?_)
  refine wpAny_pure ⟨plainId_quiet plain_update_loop _, ?_⟩
  have hlt : s.heap.objs.size < h₂.objs.size := Heap.lt_size (k₂ _ _ (Heap.get?_push_size _ rfl))
  have haS : a < s.heap.objs.size := Heap.lt_size hol
  have haI : a ≠ h₂.objs.size := fun e => by rw [e] at haS; exact Nat.lt_asymm haS hlt
  have hdm : h₂.DictOf knd s.heap.objs.size [] := hnew.keep k₂
  have hls : h₂.objs.size ≠ s.heap.objs.size := Nat.ne_of_gt hlt
  refine upd_loop (A := A.in1) (knd := knd) (acc := []) (more := more) (h₀ := s.heap) (Walks.list (A := A.in1.in1) hh h₂.objs.size a haI vs.toArray) (d := s.heap.objs.size) ?_ (by rw [List.size_toArray]; exact hn.symm) (by simpa using hz) ?_ ?_ vs.toArray.size 0 0 _ tk₂ (Nat.zero_add _) ⟨⟨_, Heap.get?_push_size _ rfl, rfl, rfl⟩, hl₂.push _⟩ (by simpa [merged] using hdm.push _) fun b o _ _ e => Heap.get?_push_of_some _ (k₂ _ _ (k1 _ _ e))
  · simp only [List.mem_cons, List.not_mem_nil, or_false, not_or]
    exact ⟨fun e => hls e.symm, Nat.ne_of_gt haS⟩
  · intro i v hiv
    refine gh fun CC kk => ?_
    obtain ⟨b, key, val, k, rfl, h1, h2, h3⟩ := hv i v (by simpa using hiv)
    obtain ⟨ob, hob, _⟩ := id h3
    refine kk ?_
    clear kk CC
    have hb := Heap.lt_size hob
    exact ⟨b, key, val, k, rfl, h1, h2, Nat.ne_of_lt hb, fun e => by rw [e] at hb; exact Nat.lt_asymm hb hlt, h3⟩
  · intro h' tk hm hk
    exact ⟨rfl, q h' tk hm fun b o e => hk b o (Nat.ne_of_lt (Heap.lt_size e)) (fun e' => by have := Heap.lt_size e; rw [e'] at this; exact Nat.lt_asymm this hlt) e⟩
end

end
section
open PySem PySem.W PyProof.Rows PySem.Calls PySem.Spec PySem.SeqAt LCg
set_option Elab.async false
set_option linter.unusedVariables false
set_option maxRecDepth 100000
set_option maxHeartbeats 4000000

noncomputable def isSc : Value → Bool
  | .none => true
  | .bool _ => true
  | .int _ _ => true
  | .bytes _ _ => true
  | _ => false
noncomputable def dvOf : Value → Dv
  | .bool b => .bool b
  | .int i _ => .int i
  | .bytes b _ => .bytes b.toList
  | _ => .none
noncomputable def isBoolD : Dv → Bool
  | .bool _ => true
  | _ => false
theorem rd_sc {h : Heap} {v : Value} (hv : isSc v = true) : Rd h v (dvOf v) := by
  cases v with
  | none => exact .none
  | bool b => exact .bool b
  | int i t => exact .int i t
  | bytes b t =>
    have := Rd.bytes (h := h) b.toList t
    simpa [dvOf] using this
  | _ => cases hv
theorem isinstance_false_bytes {x : Array UInt8} {u : Tok} {T : String} (hne : (Value.type "bytes" == Value.type T) = false) (hty : typeOf (.type T) = pure (.type "type")) (hsub : isSubtype (.type "bytes") (.type T) = pure false) :
    Meets (Builtin.«isinstance» ⟨[.bytes x u, .type T], []⟩) (fun _ R s => R (.ok (.ret (.bool false))) { s with toks := s.toks + 1 }) :=
  fun _ _ _ _ s hs => by
    obtain ⟨h, g, d, t, os⟩ := s
    exact isinstance_outer (isinstance_nested_false_bytes hne hty hsub hs)
section
variable {w : World} {A : Around} {E : Value → Heap → Prop} {hw h₀ h : Heap} {L a b : Addr} {m : Loc} {led : Led} {env : Env} {rest : List Stmt}
theorem s_isbool {v : Value} {Q : Value → Heap → Prop} (hv : isSc v = true) (q : Q (.bool (isBoolD (dvOf v))) h) : Wp (MM w) A (call (.builtin "isinstance") [v, .type "bool"] []) Q E h := Wp_of fun g d tk os => by
  cases v with
  | none => exact PySem.IsiPair.NoneType_bool ⟨⟨rfl, rfl, rfl⟩, q⟩
  | bool b => exact PySem.IsiPair.bool_bool ⟨⟨rfl, rfl, rfl⟩, q⟩
  | int i t => exact PySem.IsiPair.int_bool ⟨⟨rfl, rfl, rfl⟩, q⟩
  | bytes b t => exact call_isinstance (isinstance_false_bytes (by decide +kernel) F.isi_meta_bool (by rw [isSubtype_type]; kernel_rfl)) ⟨⟨rfl, rfl, rfl⟩, q⟩
  | _ => cases hv
theorem s_dpairs {o : Obj} {tl : Led} {kvs : KV} {Q : Value → Heap → Prop} (hh : A.handled = none) (S : St w hw h₀ L h m led) (ho : OLst o (refs tl)) (e : h.get? a = some o) (hn : tl.length = kvs.length) (hz : kvs.length ≤ 16777216)
    (ht : ∀ (i : Nat) (p : Addr × Obj) (k : List UInt8) (v : Value), tl[i]? = some p → kvs[i]? = some (k, v) → ∃ t, OTup p.2 [.bytes k.toArray t, v]) (hg : ∀ p ∈ tl, h.get? p.1 = some p.2)
    (q : ∀ c oc h', DI w (c, oc) (merged [] kvs) → St w hw h₀ L h' m ((c, oc) :: led) → Q (.ref c) h') : Wp (MM w) A (call (.type "dict") [.ref a] []) Q E h := Wp_of fun g d tk os => by
  obtain ⟨no, rfl⟩ := ho
  refine dict_pairs (knd := bytesKind pw w) (more := kvs) hh ⟨_, e, rfl, no, rfl⟩ (fun o' e' => by rw [e] at e'; cases e'; rfl) (by rw [refs, List.length_map, hn]) (by rw [sizeLine_eq]; exact hz) (fun i v hv => ?_) fun h' tk' hd hk => ⟨⟨rfl, rfl, rfl⟩, ?_⟩
  · rw [refs, List.getElem?_map] at hv
    cases hp : tl[i]? with
    | none => rw [hp] at hv; cases hv
    | some p =>
      rw [hp] at hv
      cases hv
      have hi : i < kvs.length := by rw [← hn]; exact (List.getElem?_eq_some_iff.mp hp).1
      obtain ⟨t, hT⟩ := ht i p kvs[i].1 kvs[i].2 hp (List.getElem?_eq_getElem hi)
      exact ⟨p.1, _, _, kvs[i].1, rfl, isB w _ t, List.getElem?_eq_getElem hi, hT.at (hg p (List.mem_of_getElem? hp))⟩
  · obtain ⟨oc, ec, xc⟩ := Heap.dictOf_iff.mp hd
    refine q _ oc h' ⟨xc, notMod S.wd _ (Nat.le_refl _)⟩ (S.call0 (l' := [(h.objs.size, oc)]) ⟨Same.of hk, fun p hp => ?_, by simp [adr]⟩)
    obtain rfl := List.mem_singleton.mp hp
    exact ⟨ec, .inr (Heap.get?_none_of_le (Nat.le_refl _))⟩
/- a for over zip of two lists -/
theorem led_of {h : Heap} : ∀ {as : List Addr}, (∀ a ∈ as, ∃ o, h.get? a = some o) → ∃ zl : Led, adr zl = as ∧ ∀ p ∈ zl, h.get? p.1 = some p.2
  | [], _ => ⟨[], rfl, fun _ h => nomatch h⟩
  | a :: as, x => by
    obtain ⟨zl, h1, h2⟩ := led_of (as := as) fun b hb => x b (.tail _ hb)
    obtain ⟨o, e⟩ := x a (.head _)
    exact ⟨(a, o) :: zl, by show a :: adr zl = _; rw [h1], fun p hp => by
      cases hp with
      | head => exact e
      | tail _ hp => exact h2 p hp⟩
theorem u_tuple' {elts : List Expr} {k : Nat} {p : Pos} {Q : Unit → Heap → Prop} {vs : List Value} (hh : A.handled = none) (ht : h.IsTuple a vs.toArray)
    (q : ∀ h', h.StaysIn h' → Wp (MM w) A (assignInOrder ((assignEach elts env).map (·.2)) vs) Q E h')
    (hn : (assignEach elts env).length = vs.length := by with_unfolding_all rfl) (hs : (assignEach elts env).findIdx? (·.1) = none := by with_unfolding_all rfl) :
    Wp (MM w) A (assign (.Tuple elts k p) env (.ref a)) Q E h := by
  rw [arm_assign_Tuple]
  refine Wp_bind (Wp_standAt ?_)
  unfold unpack
  rw [hn, hs]
  refine Wp_bind (Wp_holding (Wp_of fun g d tk os => ?_))
  have := unpackItems_tuple (prog := pw) (w := w) (A := A) (E := fun e s' => (s'.gens = g ∧ s'.drawn = d ∧ s'.os = os) ∧ E e s'.heap)
    (s := ⟨h, g, d, tk, os⟩) (t := a) (items := vs.toArray) (Q := fun xs s' => (s'.gens = g ∧ s'.drawn = d ∧ s'.os = os) ∧ Wp (MM w) A (assignInOrder ((assignEach elts env).map (·.2)) xs) Q E s'.heap) hh ht
    (fun h' he => ⟨⟨rfl, rfl, rfl⟩, q h' fun b o e => he b o (Nat.ne_of_lt (Heap.lt_size e)) e⟩)
  rw [List.size_toArray] at this
  exact this
theorem five_of {P : Addr → Prop} {a b c d e : Addr} (x1 : P a) (x2 : P b) (x3 : P c) (x4 : P d) (x5 : P e) : ∀ x ∈ [a, b, c, d, e], P x :=
  List.forall_mem_cons.mpr ⟨x1, List.forall_mem_cons.mpr ⟨x2, List.forall_mem_cons.mpr ⟨x3, List.forall_mem_cons.mpr ⟨x4, List.forall_mem_cons.mpr ⟨x5, fun _ h => nomatch h⟩⟩⟩⟩⟩
theorem four_five {a b c d e x : Addr} (h : x ∈ [a, c, d, e]) : x ∈ [a, b, c, d, e] := (List.Sublist.cons_cons _ (List.Sublist.cons _ (List.Sublist.refl _))).subset h
/- what a zip over two lists stands on -/
noncomputable def ZipT (h : Heap) (n a b : Addr) (xs ys : List Value) (i : Nat) : Prop := IsZip h (n + 4) (n + 2) (n + 3) .none ∧ IsPair h (n + 2) (.ref n) (.ref (n + 1)) ∧ (∃ a b, IsPair h (n + 3) a b) ∧ h.IsListIter n a i ∧ h.IsListIter (n + 1) b i ∧ h.IsList a xs.toArray ∧ h.IsList b ys.toArray
theorem for_zip {elts : List Expr} {ck : Nat} {p : Pos} {body : List Stmt} {Q : Flow → Heap → Prop} {oa ob : Obj} {xs ys : List Value} {l : Led} (hh : A.handled = none) (K : Nat → Loc → Led → Prop)
    (S : St w hw h₀ L h m ([(a, oa), (b, ob)] ++ l)) (ha : OLst oa xs) (hb : OLst ob ys) (hn : xs.length = ys.length) (hK : K 0 m l)
    (turn : ∀ i x y m l T oT zl h, xs[i]? = some x → ys[i]? = some y → K i m l → h.IsTuple T [x, y].toArray → St w hw h₀ L h m ((T, oT) :: (zl ++ ([(a, oa), (b, ob)] ++ l))) → ∀ J : Heap → Prop, (∀ h' m' l', St w hw h₀ L h' m' (zl ++ ([(a, oa), (b, ob)] ++ l')) → K (i + 1) m' l' → J h') →
      Wp (MM w) A (assign (.Tuple elts ck p) env (.ref T)) (KBody w A E env body rest Q J) NoE h)
    (done : ∀ m l h, K xs.length m l → St w hw h₀ L h m ([(a, oa), (b, ob)] ++ l) → Seq w A rest env Q E .next h) :
    Wp (MM w) A (call (.type "zip") [.ref a, .ref b] []) (KFor1 w A E env (.Tuple elts ck p) body [] rest Q) E h := by
  have ga := S.get (a := a) (o := oa) (.head _)
  have gb := S.get (a := b) (o := ob) (.tail _ (.head _))
  have hla := Heap.lt_size ga
  have hlb := Heap.lt_size gb
  refine Wp_of fun g d tk os => call_zip_2 (ha.at ga) (hb.at gb) fun h₁ z1 z2 z3 z4 z5 hsz hk => ⟨⟨rfl, rfl, rfl⟩, ?_⟩
  generalize hz : h.objs.size = n at z1 z2 z3 z4 z5 hsz
  have hla : a < n := by rw [← hz]; exact hla
  have hlb : b < n := by rw [← hz]; exact hlb
  refine Wp_of fun g d tk os => wpAny_pyIter_zip z1 ⟨⟨rfl, rfl, rfl⟩, ?_⟩
  have D : ZipApart (n + 4) (n + 2) (n + 3) n (n + 1) a b := by
    have h1 : @LT.lt Nat instLTNat a n := hla
    have h2 : @LT.lt Nat instLTNat b n := hlb
    constructor <;> (intro e; have e : (_ : Nat) = _ := e; lia)
  have W := WalksT.zip2 (prog := pw) (w := w) (A := A) hh (n + 4) (n + 2) (n + 3) n (n + 1) a b D xs.toArray ys.toArray
  have there : ∀ c ∈ [n + 4, n + 2, n + 3, n, n + 1], h.get? c = none :=
    have k : ∀ {c : Addr}, n ≤ c → h.get? c = none := fun hc => Heap.get?_none_of_le (hz ▸ hc)
    five_of (k (Nat.le_add_right _ _)) (k (Nat.le_add_right _ _)) (k (Nat.le_add_right _ _)) (k (Nat.le_refl _)) (k (Nat.le_add_right _ _))
  refine gh fun CC kk => ?_
  obtain ⟨zl₀, e₀, g₀⟩ := led_of (h := h₁) (as := [n + 4, n + 2, n + 3, n, n + 1]) (five_of ⟨_, z1⟩ ⟨_, z2⟩ ⟨_, z3⟩ ⟨_, z4.choose_spec.1⟩ ⟨_, z5.choose_spec.1⟩)
  refine kk ?_
  clear kk CC
  have ndz : ([n + 4, n + 2, n + 3, n, n + 1] : List Addr).Nodup := by
    have e : ([n + 4, n + 2, n + 3, n, n + 1] : List Addr) = [4, 2, 3, 0, 1].map (n + ·) := rfl
    rw [e]
    exact List.Pairwise.map _ (fun x y hxy he => hxy (Nat.add_left_cancel he)) (by decide : ([4, 2, 3, 0, 1] : List Nat).Nodup)
  have S₁ : St w hw h₀ L h₁ m (zl₀ ++ ([(a, oa), (b, ob)] ++ l)) := S.call0 ⟨Same.of hk, fun q hq => ⟨g₀ q hq, .inr (there _ (by rw [← e₀]; exact List.mem_map_of_mem hq))⟩, by rw [e₀]; exact ndz⟩
  refine loop_for (fun (i : Nat) h' => i ≤ xs.length ∧ ∃ zl m l, adr zl = [n + 4, n + 2, n + 3, n, n + 1] ∧ St w hw h₀ L h' m (zl ++ ([(a, oa), (b, ob)] ++ l)) ∧ ZipT h' n a b xs ys i ∧ K i m l)
    (fun i => xs.length - i) 0 ⟨Nat.zero_le _, zl₀, m, l, e₀, S₁, ⟨z1, z2, ⟨_, _, z3⟩, z4, z5, ha.at (hk _ _ ga), hb.at (hk _ _ gb)⟩, hK⟩ ?_
  intro i h₂ qq
  refine gh fun CC kk => ?_
  obtain ⟨hi, zl, m, l, e, S₂, hT, hK⟩ := qq
  refine kk ?_
  clear kk CC
  have step : ∀ {h₂ h₃ : Heap} {zl : Led} {l} {m : Loc} (ex : Led), adr zl = [n + 4, n + 2, n + 3, n, n + 1] → St w hw h₀ L h₂ m (zl ++ l) → (∀ c o, c ∉ [n + 4, n + 3, n, n + 1] → h₂.get? c = some o → h₃.get? c = some o) →
      (∀ c ∈ [n + 4, n + 2, n + 3, n, n + 1], ∃ o, h₃.get? c = some o) → (∀ q ∈ ex, h₃.get? q.1 = some q.2 ∧ h₂.get? q.1 = none) → (adr ex).Nodup → ∃ zl', adr zl' = [n + 4, n + 2, n + 3, n, n + 1] ∧ St w hw h₀ L h₃ m (ex ++ (zl' ++ l)) := fun {h₂ h₃ zl l m} ex e S hk hg hx ndx => by
    obtain ⟨zl', e', g'⟩ := led_of hg
    refine ⟨zl', e', ?_⟩
    have := St.call (l := zl) (l' := ex ++ zl') S ⟨fun c o hc hx => hk c o (fun hm => hc (by rw [e]; exact four_five hm)) hx, fun q hq => ?_, ?_⟩
    · rw [List.append_assoc] at this; exact this
    · rcases List.mem_append.mp hq with hq | hq
      · exact ⟨(hx q hq).1, .inr (hx q hq).2⟩
      · refine ⟨g' q hq, .inl ?_⟩
        rw [e, ← e']
        exact List.mem_map_of_mem hq
    · show (List.map _ _).Nodup
      rw [List.map_append, List.nodup_append]
      refine ⟨ndx, by rw [show List.map (·.1) zl' = _ from e']; exact ndz, fun x hxm y hym hxy => ?_⟩
      subst hxy
      obtain ⟨q, hq, rfl⟩ := List.mem_map.mp hxm
      have h1 := (hx q hq).2
      rw [show List.map (·.1) zl' = _ from e', ← e] at hym
      obtain ⟨q', hq', e2⟩ := List.mem_map.mp hym
      have := S.get (a := q'.1) (o := q'.2) (List.mem_append_left _ hq')
      rw [e2, h1] at this; cases this
  rcases Nat.lt_or_ge i xs.length with hlt | hge
  · refine Wp_of fun g d tk os => W.item i ⟨h₂, g, d, tk, os⟩ _ _ (by simp; lia) hT fun T vals h₃ tk' hP hle ht hM hk => ⟨⟨rfl, rfl, rfl⟩, ?_⟩
    refine gh fun CC kk => ?_
    obtain ⟨x, y, hx, hy, rfl⟩ := hP
    obtain ⟨oT, hoT, hcT, nT, hdT⟩ := ht
    have m5 : ∀ c ∈ [n + 4, n + 2, n + 3, n, n + 1], ∃ o, h₃.get? c = some o :=
      let ⟨a1, a2, ⟨_, _, a3⟩, a4, a5, _⟩ := hM
      five_of ⟨_, a1⟩ ⟨_, a2⟩ ⟨_, a3⟩ ⟨_, a4.choose_spec.1⟩ ⟨_, a5.choose_spec.1⟩
    obtain ⟨zl₃, e₃, S₃⟩ := step [(T, oT)] e S₂ hk m5 (fun q hq => by obtain rfl := List.mem_singleton.mp hq; exact ⟨hoT, Heap.get?_none_of_le hle⟩) (List.pairwise_singleton _ _)
    refine kk ?_
    clear kk CC m5
    have hTn : T ∉ [n + 4, n + 3, n, n + 1] := W.apart i T h₃ hM
    refine Wp_of fun g d tk os => W.go elts ck p i T ⟨h₃, g, d, tk, os⟩ _ _ hM fun h₄ hT₄ hk₄ => ⟨⟨rfl, rfl, rfl⟩, ?_⟩
    have m5 : ∀ c ∈ [n + 4, n + 2, n + 3, n, n + 1], ∃ o, h₄.get? c = some o :=
      let ⟨a1, a2, ⟨_, _, a3⟩, a4, a5, _⟩ := hT₄
      five_of ⟨_, a1⟩ ⟨_, a2⟩ ⟨_, a3⟩ ⟨_, a4.choose_spec.1⟩ ⟨_, a5.choose_spec.1⟩
    have S₃ : St w hw h₀ L h₃ _ ((T, oT) :: (zl₃ ++ ([(a, oa), (b, ob)] ++ l))) := S₃
    have S₃' : St w hw h₀ L h₃ _ (zl₃ ++ ((T, oT) :: ([(a, oa), (b, ob)] ++ l))) := S₃.perm List.perm_middle.symm
    refine gh fun CC kk => ?_
    obtain ⟨zl₄, e₄, S₄⟩ := step [] e₃ S₃' hk₄ m5 (fun q hq => nomatch hq) .nil
    refine kk ?_
    clear kk CC m5
    have S₄ : St w hw h₀ L h₄ _ ((T, oT) :: (zl₄ ++ ([(a, oa), (b, ob)] ++ l))) := S₄.perm List.perm_middle
    refine Wp_post (turn i x y _ l T oT zl₄ h₄ (by simpa using hx) (by simpa using hy) hK ⟨oT, S₄.get (.head _), hcT, nT, hdT⟩ S₄ (fun h' => ∃ m' l', St w hw h₀ L h' m' (zl₄ ++ ([(a, oa), (b, ob)] ++ l')) ∧ K (i + 1) m' l') fun _ m' l' a b => ⟨m', l', a, b⟩) fun _ h₅ q₅ => Wp_post q₅ fun f h₆ q₆ => ?_
    have next : (∃ m' l', St w hw h₀ L h₆ m' (zl₄ ++ ([(a, oa), (b, ob)] ++ l')) ∧ K (i + 1) m' l') → ∃ x', xs.length - x' < xs.length - i ∧ x' ≤ xs.length ∧ ∃ zl m l, adr zl = [n + 4, n + 2, n + 3, n, n + 1] ∧ St w hw h₀ L h₆ m (zl ++ ([(a, oa), (b, ob)] ++ l)) ∧ ZipT h₆ n a b xs ys x' ∧ K x' m l := by
      rintro ⟨m', l', S₆, hK'⟩
      refine ⟨i + 1, Nat.sub_succ_lt_self xs.length i hlt, hlt, zl₄, m', l', e₄, S₆, W.frame (i + 1) h₄ h₆ hT₄ fun c hc o ho => ?_, hK'⟩
      have key : ∀ r : Led, (∃ o', (c, o') ∈ (zl₄ ++ ([(a, oa), (b, ob)] ++ r))) := fun r => by
        have hc' : c ∈ adr zl₄ ∨ c = a ∨ c = b := by
          rw [e₄]
          simp at hc ⊢
          rcases hc with h | h | h | h | h | h | h <;> simp [h]
        rcases hc' with hm | rfl | rfl
        · obtain ⟨q, hq, rfl⟩ := List.mem_map.mp hm
          exact ⟨q.2, List.mem_append_left _ hq⟩
        · exact ⟨oa, by simp⟩
        · exact ⟨ob, by simp⟩
      have key2 : ∃ o', (c, o') ∈ zl₄ ++ [(a, oa), (b, ob)] := by
        obtain ⟨o', ho'⟩ := key []
        exact ⟨o', by simpa using ho'⟩
      obtain ⟨o', ho'⟩ := key2
      have g4 := S₄.get (a := c) (o := o') (.tail _ (by rw [← List.append_assoc]; exact List.mem_append_left _ ho'))
      rw [ho] at g4; cases g4
      exact S₆.get (by rw [← List.append_assoc]; exact List.mem_append_left _ ho')
    cases f with
    | next => exact next q₆
    | cont => exact next q₆
    | brk => exact q₆
    | ret v => exact q₆
  · have hi' : i = xs.length := Nat.le_antisymm hi hge
    have hmin : min xs.toArray.size ys.toArray.size = xs.length := by simp; lia
    refine Wp_of fun g d tk os => W.done ⟨h₂, g, d, tk, os⟩ _ _ (by rw [hmin, ← hi']; exact hT) fun h₃ tk' hk => ⟨⟨rfl, rfl, rfl⟩, ?_⟩
    have S₃ : St w hw h₀ L h₃ _ ([] ++ ([(a, oa), (b, ob)] ++ l)) := St.call (l := zl) (l' := []) S₂ ⟨fun c o hc hx => hk c o (fun hm => hc (by rw [e]; exact four_five hm)) hx, (fun q hq => nomatch hq), .nil⟩
    exact done _ l h₃ (hi' ▸ hK) S₃
end

end
section
open PySem PySem.W PyProof.Rows PySem.Calls PySem.Spec PySem.SeqAt LCg
set_option Elab.async false
set_option linter.unusedVariables false
set_option maxRecDepth 100000
set_option maxHeartbeats 4000000

section
variable {w : World} {A : Around} {E : Value → Heap → Prop} {hw h₀ h : Heap} {L a b : Addr} {m : Loc} {led : Led} {env : Env} {rest : List Stmt} {fd : FuncData}
theorem s_llist {o : Obj} {vs : List Value} {Q : Value → Heap → Prop} (S : St w hw h₀ L h m led) (ho : OLst o vs) (e : h.get? a = some o) (hz : vs.length ≤ 16777216)
    (q : ∀ c oc h', OLst oc vs → St w hw h₀ L h' m ((c, oc) :: led) → Q (.ref c) h') : Wp (MM w) A (call (.type "list") [.ref a] []) Q E h := Wp_of fun g d tk os =>
  list_copyK S.F S.N (ho.at e) (fun D c h' F' N' l1 => ⟨⟨rfl, rfl, rfl⟩, q D _ h' ⟨c, rfl⟩ ⟨S.D, F', N', by
    rw [List.map_cons]
    exact List.nodup_cons.mpr ⟨fun hm => by obtain ⟨p, hp, e⟩ := List.mem_map.mp hm; exact Nat.lt_irrefl _ (e ▸ l1 p hp), S.nd⟩⟩⟩) (by rw [List.size_toArray, sizeLine_eq]; exact hz)
theorem s_tlist {o : Obj} {vs : List Value} {Q : Value → Heap → Prop} (S : St w hw h₀ L h m led) (ho : OTup o vs) (e : h.get? a = some o) (hz : vs.length ≤ 16777216)
    (q : ∀ c oc h', OLst oc vs → St w hw h₀ L h' m ((c, oc) :: led) → Q (.ref c) h') : Wp (MM w) A (call (.type "list") [.ref a] []) Q E h := Wp_of fun g d tk os =>
  list_copyKT S.F S.N (ho.at e) (fun D c h' F' N' l1 => ⟨⟨rfl, rfl, rfl⟩, q D _ h' ⟨c, rfl⟩ ⟨S.D, F', N', by
    rw [List.map_cons]
    exact List.nodup_cons.mpr ⟨fun hm => by obtain ⟨p, hp, e⟩ := List.mem_map.mp hm; exact Nat.lt_irrefl _ (e ▸ l1 p hp), S.nd⟩⟩⟩) (by rw [List.size_toArray, sizeLine_eq]; exact hz)
end
/- the differences of two descriptions, plain -/
noncomputable def likeV (a b : Value) : Bool := (isBoolD (dvOf a) == isBoolD (dvOf b)) && (dvOf a).eqv (dvOf b)
noncomputable def getV (k : KV) (n : List UInt8) : Value := (valueAt k n).getD .none
noncomputable def leB (a b : List UInt8) : Bool := decide (¬ (b.map (·.toNat) < a.map (·.toNat)))
noncomputable def sortB (l : List (List UInt8)) : List (List UInt8) := l.mergeSort leB
theorem sortB_perm (l : List (List UInt8)) : (sortB l).Perm l := List.mergeSort_perm l leB
theorem sortB_sorted (l : List (List UInt8)) : BSorted (sortB l) := by
  have h := List.pairwise_mergeSort (le := leB) (fun a b c h1 h2 => decide_eq_true (List.not_lt.mpr (List.le_trans (List.not_lt.mp (of_decide_eq_true h1)) (List.not_lt.mp (of_decide_eq_true h2)))))
    (fun a b => by
      unfold leB
      rw [Bool.or_eq_true, decide_eq_true_iff, decide_eq_true_iff, List.not_lt, List.not_lt]
      exact List.le_total _ _) l
  exact h.imp fun h => of_decide_eq_true h
theorem sortB_is {l ns : List (List UInt8)} (hp : ns.Perm l) (hs : BSorted ns) : ns = sortB l := BSorted.unique (hp.trans (sortB_perm l).symm) hs (sortB_sorted l)
noncomputable def keysOf (a b : KV) : List (List UInt8) := a.map (·.1) ++ (b.map (·.1)).filter fun n => (valueAt a n).isNone
noncomputable abbrev R3 := List UInt8 × Value × Value
noncomputable def rowsOf (ns : List (List UInt8)) (a b : KV) : List R3 := ns.filterMap fun n => if likeV (getV a n) (getV b n) then none else some (n, getV a n, getV b n)
noncomputable def diffS (ps : List (KV × KV)) : List R3 := ps.flatMap fun p => rowsOf (sortB (keysOf p.1 p.2)) p.1 p.2
/- a dict as it may be drawn -/
structure KOk (n : Nat) (k : KV) : Prop where
  sc : ∀ p ∈ k, isSc p.2 = true
  nd : (k.map (·.1)).Nodup
  len : k.length ≤ n
theorem KOk.get {n : Nat} {k : KV} (x : KOk n k) (m : List UInt8) : isSc (getV k m) = true := by
  unfold getV valueAt
  cases h : k.find? (fun kv => decide (kv.1 = m)) with
  | none => rfl
  | some p => exact x.sc p (List.mem_of_find?_eq_some h)
theorem valueAt_isSome (k : KV) (m : List UInt8) : (valueAt k m).isSome = true ↔ m ∈ k.map (·.1) := by
  unfold valueAt
  rw [Option.isSome_map, List.find?_isSome]
  constructor
  · rintro ⟨p, hp, e⟩; exact List.mem_map.mpr ⟨p, hp, of_decide_eq_true e⟩
  · intro hm; obtain ⟨p, hp, e⟩ := List.mem_map.mp hm; exact ⟨p, hp, decide_eq_true e⟩
theorem valueAt_isNone (k : KV) (m : List UInt8) : (valueAt k m).isNone = true ↔ m ∉ k.map (·.1) := by
  rw [← valueAt_isSome]
  cases valueAt k m <;> simp
theorem keysOf_nodup {a b : KV} (ha : (a.map (·.1)).Nodup) (hb : (b.map (·.1)).Nodup) : (keysOf a b).Nodup := by
  unfold keysOf
  refine List.nodup_append.mpr ⟨ha, hb.sublist List.filter_sublist, fun x hx y hy e => ?_⟩
  subst e
  exact (valueAt_isNone a x).mp (List.mem_filter.mp hy).2 hx
theorem mem_keysOf (a b : KV) (n : List UInt8) : n ∈ keysOf a b ↔ n ∈ a.map (·.1) ∨ n ∈ b.map (·.1) := by
  unfold keysOf
  rw [List.mem_append, List.mem_filter, valueAt_isNone]
  constructor
  · rintro (h | h)
    · exact .inl h
    · exact .inr h.1
  · rintro (h | h)
    · exact .inl h
    · by_cases h' : n ∈ a.map (·.1)
      · exact .inl h'
      · exact .inr ⟨h, h'⟩
theorem keysOf_comm {a b : KV} (ha : (a.map (·.1)).Nodup) (hb : (b.map (·.1)).Nodup) : (keysOf a b).Perm (keysOf b a) :=
  (List.perm_ext_iff_of_nodup (keysOf_nodup ha hb) (keysOf_nodup hb ha)).mpr fun n => by rw [mem_keysOf, mem_keysOf, Or.comm]
theorem sortB_congr {l k : List (List UInt8)} (h : l.Perm k) : sortB l = sortB k := sortB_is ((sortB_perm l).trans h) (sortB_sorted l)
theorem eqc {α : Type} [BEq α] [LawfulBEq α] (a b : α) : (a == b) = (b == a) := by
  rw [Bool.eq_iff_iff, beq_iff_eq, beq_iff_eq]
  exact eq_comm
theorem sc_symm {a b : Value} (ha : isSc a = true) (hb : isSc b = true) : (dvOf a).eqv (dvOf b) = (dvOf b).eqv (dvOf a) := by
  cases a <;> first | (cases ha; done) | skip
  all_goals (cases b <;> first | (cases hb; done) | skip)
  all_goals first
    | rfl
    | exact eqc (α := Bool) _ _
    | exact eqc (α := Int) _ _
    | exact eqc (α := List UInt8) _ _
theorem sc_refl {a : Value} (ha : isSc a = true) : (dvOf a).eqv (dvOf a) = true := by
  cases a <;> first | (cases ha; done) | rfl | exact beq_self_eq_true (α := Bool) _ | exact beq_self_eq_true (α := Int) _ | exact beq_self_eq_true (α := List UInt8) _
theorem likeV_symm {a b : Value} (ha : isSc a = true) (hb : isSc b = true) : likeV a b = likeV b a := by
  unfold likeV
  rw [sc_symm ha hb, Bool.beq_comm]
theorem likeV_refl {a : Value} (ha : isSc a = true) : likeV a a = true := by
  unfold likeV
  rw [sc_refl ha]; simp
noncomputable def turnR (r : R3) : R3 := (r.1, r.2.2, r.2.1)
theorem rows_turn {n m : Nat} {a b : KV} (ha : KOk n a) (hb : KOk m b) (ns : List (List UInt8)) : rowsOf ns b a = (rowsOf ns a b).map turnR := by
  unfold rowsOf
  rw [List.map_filterMap]
  congr 1
  funext k
  rw [likeV_symm (ha.get k) (hb.get k)]
  split <;> rfl
theorem rows_self {n : Nat} {a : KV} (ha : KOk n a) (ns : List (List UInt8)) : rowsOf ns a a = [] := by
  unfold rowsOf
  rw [List.filterMap_eq_nil_iff]
  intro k _
  rw [likeV_refl (ha.get k)]; rfl
theorem diff_turn {n : Nat} : ∀ {ps : List (KV × KV)}, (∀ p ∈ ps, KOk n p.1 ∧ KOk n p.2) → diffS (ps.map fun p => (p.2, p.1)) = (diffS ps).map turnR
  | [], _ => rfl
  | p :: ps, h => by
    obtain ⟨h1, h2⟩ := h p (.head _)
    unfold diffS
    rw [List.map_cons, List.flatMap_cons, List.flatMap_cons, List.map_append]
    have := diff_turn (ps := ps) fun q hq => h q (.tail _ hq)
    unfold diffS at this
    rw [this, sortB_congr (keysOf_comm h2.nd h1.nd), rows_turn h1 h2]
theorem diff_self {n : Nat} : ∀ {ks : List KV}, (∀ k ∈ ks, KOk n k) → diffS (ks.map fun k => (k, k)) = []
  | [], _ => rfl
  | k :: ks, h => by
    unfold diffS
    rw [List.map_cons, List.flatMap_cons, rows_self (h k (.head _)), List.nil_append]
    exact diff_self fun q hq => h q (.tail _ hq)
/- what the program's dict of names holds -/
noncomputable def addK (ks : List (List UInt8)) (n : List UInt8) : List (List UInt8) := if n ∈ ks then ks else ks ++ [n]
theorem stored_keys (acc : KV) (n : List UInt8) (t : Value) : (stored acc n t).map (·.1) = addK (acc.map (·.1)) n := by
  unfold stored addK
  by_cases hm : n ∈ acc.map (·.1)
  · rw [if_pos hm, if_pos, keys_map_store]
    rw [List.any_eq_true]
    obtain ⟨p, hp, e⟩ := List.mem_map.mp hm
    exact ⟨p, hp, decide_eq_true e⟩
  · rw [if_neg hm, if_neg, List.map_append]; rfl
    rw [List.any_eq_true]
    rintro ⟨p, hp, e⟩
    exact hm (List.mem_map.mpr ⟨p, hp, of_decide_eq_true e⟩)
theorem merged_keys (t : Value) : ∀ (ns : List (List UInt8)) (acc : KV), (merged acc (ns.map fun n => (n, t))).map (·.1) = ns.foldl addK (acc.map (·.1))
  | [], acc => rfl
  | n :: ns, acc => by
    show (merged (stored acc n t) (ns.map fun n => (n, t))).map (·.1) = _
    rw [merged_keys t ns, stored_keys]; rfl
theorem addK_app : ∀ (b acc : List (List UInt8)), b.Nodup → b.foldl addK acc = acc ++ b.filter fun n => decide (n ∉ acc)
  | [], acc, _ => by simp
  | n :: b, acc, h => by
    obtain ⟨h1, h2⟩ := List.nodup_cons.mp h
    rw [List.foldl_cons, addK_app b _ h2, List.filter_cons]
    unfold addK
    by_cases hm : n ∈ acc
    · rw [if_pos hm, if_neg (by simpa using hm)]
    · rw [if_neg hm, if_pos (by simpa using hm), List.append_assoc]
      congr 1
      show n :: _ = n :: _
      congr 1
      refine List.filter_congr fun x hx => ?_
      have : x ≠ n := fun e => h1 (e ▸ hx)
      simp [this]
theorem names_keys {a b : KV} (t : Value) (ha : (a.map (·.1)).Nodup) (hb : (b.map (·.1)).Nodup) : (merged [] ((a.map (·.1) ++ b.map (·.1)).map fun n => (n, t))).map (·.1) = keysOf a b := by
  rw [merged_keys, List.map_nil, List.foldl_append, addK_app _ _ ha, List.nil_append, addK_app _ _ hb]
  unfold keysOf
  have e : (a.map (·.1)).filter (fun n => decide (n ∉ ([] : List (List UInt8)))) = a.map (·.1) := by
    rw [List.filter_eq_self]; intro x _; simp
  rw [e]
  congr 1
  refine List.filter_congr fun x _ => ?_
  rw [Bool.eq_iff_iff, decide_eq_true_iff, valueAt_isNone]
theorem DI.nodup {w : World} {p : Addr × Obj} {k : KV} (x : DI w p k) : (k.map (·.1)).Nodup := let ⟨⟨_, _, _, _, _, _, hn⟩, _⟩ := x; hn
theorem stored_sc {k : KV} {n : List UInt8} {v : Value} (h : ∀ p ∈ k, isSc p.2 = true) (hv : isSc v = true) : ∀ p ∈ stored k n v, isSc p.2 = true := by
  intro p hp
  unfold stored at hp
  split at hp
  · obtain ⟨q, hq, rfl⟩ := List.mem_map.mp hp
    split
    · exact hv
    · exact h q hq
  · rcases List.mem_append.mp hp with hp | hp
    · exact h p hp
    · obtain rfl := List.mem_singleton.mp hp; exact hv

end
section
noncomputable abbrev infoLoc (na : Addr) (d1 d2 d3 d4 : Addr) (ua : Addr) : Loc := [("names", .ref na), ("booleans", .ref d1), ("numbers", .ref d2), ("strings", .ref d3), ("more", .ref d4), ("uses", .ref ua)]
theorem c_init209 {w : World} {hw h : Heap} {A : Around} {Q : Value → Heap → Prop} {E : Value → Heap → Prop} {x dx na ua e1 e2 e3 e4 : Addr} {on ou o1 o2 o3 o4 : Obj} {ns us : List Value} {k1 k2 k3 k4 : KV}
    (D : Wo w hw h) (r : Rm A 2) (own : ∀ p ∈ ([(x, instObj 212 dx), (dx, emptyDict)] : Led), h.get? p.1 = some p.2 ∧ hw.get? p.1 = none) (nd : (adr [(x, instObj 212 dx), (dx, emptyDict)]).Nodup)
    (fr : ∀ a ∈ [na, ua, e1, e2, e3, e4], a ≠ x ∧ a ≠ dx)
    (hn : OLst on ns) (gn : h.get? na = some on) (zn : ns.length ≤ 100) (hu : OTup ou us) (gu : h.get? ua = some ou) (zu : us.length ≤ 100)
    (x1 : DI w (e1, o1) k1) (g1 : h.get? e1 = some o1) (x2 : DI w (e2, o2) k2) (g2 : h.get? e2 = some o2) (x3 : DI w (e3, o3) k3) (g3 : h.get? e3 = some o3) (x4 : DI w (e4, o4) k4) (g4 : h.get? e4 = some o4)
    (z1 : k1.length ≤ 100) (z2 : k2.length ≤ 100) (z3 : k3.length ≤ 100) (z4 : k4.length ≤ 100)
    (q : ∀ h' od na' ua' d1 d2 d3 d4, IObj od (infoLoc na' d1.1 d2.1 d3.1 d4.1 ua') → DI w d1 k1 → DI w d2 k2 → DI w d3 k3 → DI w d4 k4 → Step h [(x, instObj 212 dx), (dx, emptyDict)] h' [(x, instObj 212 dx), (dx, od), d1, d2, d3, d4] → Q .none h') :
    Wp (MM w) A (call (.ref 209) [.ref x, .ref na, .ref e1, .ref e2, .ref e3, .ref e4, .ref ua] []) Q E h := by
  have hid : ∀ {a o}, a ∈ [na, ua, e1, e2, e3, e4] → h.get? a = some o → (hideAll h (adr [(x, instObj 212 dx), (dx, emptyDict)])).get? a = some o := fun ha e => hideAll_get _ e (by
    have := fr _ ha
    simp [adr, this.1, this.2])
  refine enter_ret (body := bodyOf (mAt 20 0)) (binds := [("self", .ref x), ("names", .ref na), ("booleans", .ref e1), ("numbers", .ref e2), ("strings", .ref e3), ("more", .ref e4), ("uses", .ref ua)]) D _ own nd (kf209 _) (kc209 _) r.dep (fun s hs => BindsTo.of_defaults rfl (hs ▸ D.K _ _ (kd202 _)) rfl rfl rfl) rfl (fun h₁ S => ?_) (locs rfl) (by decide +kernel) rfl rfl rfl
  have r1 := (r : Rm A (1 + 1)).deeper (env := callEnv fd209 h.objs.size 209)
  have S : St w hw (hideAll h (adr [(x, instObj 212 dx), (dx, emptyDict)])) h.objs.size h₁ [("uses", .ref ua), ("more", .ref e4), ("strings", .ref e3), ("numbers", .ref e2), ("booleans", .ref e1), ("names", .ref na), ("self", .ref x)] [(x, instObj 212 dx), (dx, emptyDict)] := S
  have gn := hid (by simp) gn
  have gu := hid (by simp) gu
  have g1 := hid (by simp) g1
  have g2 := hid (by simp) g2
  have g3 := hid (by simp) g3
  have g4 := hid (by simp) g4
  clear hid
  have fin : ∀ {h' m' l'}, St w hw (hideAll h (adr [(x, instObj 212 dx), (dx, emptyDict)])) h.objs.size h' m' l' → Step h [(x, instObj 212 dx), (dx, emptyDict)] h' l' := fun S => St.step S
  generalize hideAll h (adr [(x, instObj 212 dx), (dx, emptyDict)]) = h₀ at *
  generalize A.deeper (callEnv fd209 h.objs.size 209) = A' at *
  generalize h.objs.size = L at *
  refine st_AssignAttr ?_
  walk_at "w"
  refine s_llist S hn (S.base gn) (by lia) fun c oc h₂ _ S₂ => ?_
  have S₂ := S₂.sub (List.sublist_cons_self _ _)
  walk_at "w"
  refine o_set S₂ (cl_names _) (.head _) (.tail _ (.head _)) IObj.new (Nat.le_of_ble_eq_true rfl) fun od₁ h₃ I₁ u => ?_
  have S₃ := u _ (.tail .head)
  clear S₂
  walk_at "w"
  refine s_ddict S₃ x1 (S₃.base g1) (by lia) fun d1 p1 h₄ y1 S₄ => ?_
  walk_at "w"
  refine o_set S₄ (cl_booleans _) (.tail _ (.head _)) (.tail _ (.tail _ (.head _))) I₁ (Nat.le_of_ble_eq_true rfl) fun od₂ h₅ I₂ u => ?_
  have S₅ := u _ (.tail (.tail .head))
  clear S₃ S₄
  walk_at "w"
  refine s_ddict S₅ x2 (S₅.base g2) (by lia) fun d2 p2 h₆ y2 S₆ => ?_
  walk_at "w"
  refine o_set S₆ (cl_numbers _) (.tail _ (.tail _ (.head _))) (.tail _ (.tail _ (.tail _ (.head _)))) I₂ (Nat.le_of_ble_eq_true rfl) fun od₃ h₇ I₃ u => ?_
  have S₇ := u _ (.tail (.tail (.tail .head)))
  clear S₅ S₆
  walk_at "w"
  refine s_ddict S₇ x3 (S₇.base g3) (by lia) fun d3 p3 h₈ y3 S₈ => ?_
  walk_at "w"
  refine o_set S₈ (cl_strings _) (.tail _ (.tail _ (.tail _ (.head _)))) (.tail _ (.tail _ (.tail _ (.tail _ (.head _))))) I₃ (Nat.le_of_ble_eq_true rfl) fun od₄ h₉ I₄ u => ?_
  have S₉ := u _ (.tail (.tail (.tail (.tail .head))))
  clear S₇ S₈
  walk_at "w"
  refine s_ddict S₉ x4 (S₉.base g4) (by lia) fun d4 p4 h₁₀ y4 S₁₀ => ?_
  walk_at "w"
  refine o_set S₁₀ (cl_more _) (.tail _ (.tail _ (.tail _ (.tail _ (.head _))))) (.tail _ (.tail _ (.tail _ (.tail _ (.tail _ (.head _)))))) I₄ (Nat.le_of_ble_eq_true rfl) fun od₅ h₁₁ I₅ u => ?_
  have S₁₁ := u _ (.tail (.tail (.tail (.tail (.tail .head)))))
  clear S₉ S₁₀
  walk_at "w"
  refine s_tlist S₁₁ hu (S₁₁.base gu) (by lia) fun c' oc' h₁₂ _ S₁₂ => ?_
  have S₁₂ := S₁₂.sub (List.sublist_cons_self _ _)
  walk_at "w"
  refine o_set S₁₂ (cl_uses _) (.tail _ (.tail _ (.tail _ (.tail _ (.head _))))) (.tail _ (.tail _ (.tail _ (.tail _ (.tail _ (.head _)))))) I₅ (Nat.le_of_ble_eq_true rfl) fun od₆ h₁₃ I₆ u => ?_
  have S₁₃ := u _ (.tail (.tail (.tail (.tail (.tail .head)))))
  walk_at "w"
  refine q _ od₆ c c' (d1, p1) (d2, p2) (d3, p3) (d4, p4) I₆ y1 y2 y3 y4 (fin (S₁₃.perm ?_))
  exact (List.reverse_perm _).symm.trans (by exact (List.Perm.swap _ _ _))

end
section
local macro_rules | `(tactic| walk_at "lv") => `(tactic| walk_at "lk")
section
theorem mk212 (P : Params) : mkOk (KF P) 212 "object.__new__" = true := by kernel_rfl
theorem mks212 (P : Params) : makesIn (KF P) 212 = true := by kernel_rfl
theorem call212 (P : Params) : specialIn (KF P) (.ref 212) "__call__" = some (some (.builtin "type.__call__")) := by kernel_rfl
theorem typ212 (P : Params) : instIn (KF P) (.ref 212) (.type "type") = some true := by kernel_rfl
theorem init212 (P : Params) : findIn (KF P) (.ref 212) "__init__" = some (some (.ref 209)) := by kernel_rfl
noncomputable def isByV : Value → Bool
  | .bytes _ _ => true
  | _ => false
theorem k_names (P : Params) : tupAll (KF P) 265 8 isByV = true := by kernel_rfl
theorem isByV_of {v : Value} (h : isByV v = true) : ∃ b t, v = .bytes (b : List UInt8).toArray t := by
  cases v <;> first | (cases h; done) | exact ⟨_, _, by simp; exact ⟨rfl, rfl⟩⟩
theorem Each.set {α : Type} {P : Addr × Obj → α → Prop} {l : Led} {r : List α} {p : Addr × Obj} {b : α} (x : Each P l r) : ∀ {i : Nat}, P p b → Each P (l.set i p) (r.set i b) := by
  induction x with
  | nil => intro i h; exact .nil
  | cons hp hx ih =>
    intro i h
    cases i with
    | zero => exact .cons h hx
    | succ i => exact .cons hp (ih h)
theorem Each.imp {α : Type} {P P' : Addr × Obj → α → Prop} {l : Led} {r : List α} (x : Each P l r) (h : ∀ p a, P p a → P' p a) : Each P' l r := by
  induction x with
  | nil => exact .nil
  | cons hp _ ih => exact .cons (h _ _ hp) ih
theorem led_out {w : World} {hw h₀ h : Heap} {L : Addr} {m : Loc} {l k : Led} (S : St w hw h₀ L h m (l ++ k)) {p : Addr × Obj} (hp : p ∈ k) : p.1 ∉ adr l := fun hm => by
  have nd := S.nd
  rw [List.map_append, List.nodup_append] at nd
  exact nd.2.2 p.1 hm p.1 (List.mem_map_of_mem hp) rfl
theorem up_set {a : Addr} {o o' : Obj} : ∀ {es : Led} {i : Nat} {k : Led}, es[i]? = some (a, o) → Up a o o' (es ++ k) (es.set i (a, o') ++ k)
  | p :: es, 0, k, h => by cases h; exact .head
  | p :: es, i + 1, k, h => .tail (up_set (es := es) (by simpa using h))
noncomputable def DK (w : World) (n : Nat) (p : Addr × Obj) (k : KV) : Prop := DI w p k ∧ (∀ x ∈ k, isSc x.2 = true) ∧ k.length ≤ n
noncomputable def Menu (p : Addr × Obj) : Prop := ∃ vs, OTup p.2 vs ∧ 0 < vs.length ∧ vs.length ≤ 4 ∧ ∀ v ∈ vs, isSc v = true
/- what stands between two dicts' filling -/
structure InfoK (w : World) (wa ca dl M : Addr) (oc odl oM : Obj) (mt : Led) (n : Nat) (m : Loc) (l : Led) : Prop where
  it : ∃ ow es ks, l = [(wa, ow), (ca, oc)] ++ (es ++ ((M, oM) :: (dl, odl) :: mt)) ∧ WellAt ow oc ca ∧ OLst odl (refs es) ∧ Each (DK w n) es ks ∧ es.length = 4
  lw : lk m "well" = some (.ref wa)
  ld : lk m "dicts" = some (.ref dl)
  lm : lk m "menus" = some (.ref M)
theorem refs_set {es : Led} {i : Nat} {a : Addr} {o o' : Obj} (h : es[i]? = some (a, o)) : refs (es.set i (a, o')) = refs es := by
  unfold refs
  rw [List.map_set]
  refine List.ext_getElem? fun j => ?_
  rw [List.getElem?_set]
  split
  · rename_i e
    subst e
    rw [List.length_map, if_pos (List.getElem?_eq_some_iff.mp h).1, List.getElem?_map, h]; rfl
  · rfl
theorem mr {α : Type} {x : α} {l k : List α} (h : x ∈ k) : x ∈ l ++ k := List.mem_append_right _ h
theorem ml {α : Type} {x : α} {l k : List α} (h : x ∈ l) : x ∈ l ++ k := List.mem_append_left _ h
/- what a for does at each turn -/
noncomputable def forB : Stmt → List Stmt
  | .For _ _ b _ _ => b
  | _ => []
theorem info_put {w : World} {A : Around} {hw h₀ h : Heap} {L wa ca dl M : Addr} {oc odl oM : Obj} {mt : Led} {n : Nat} {m : Loc} {l k : Led} {rest : List Stmt} {i : Nat} {ti : Tok}
    (r : Rm A 4) (hoM : OTup oM (refs mt)) (hmt : ∀ p ∈ mt, Menu p) (hml : mt.length = 4) (hi : i < 4) (hn : n ≤ 20) (I : InfoK w wa ca dl M oc odl oM mt n m l) (S : St w hw h₀ L h m (l ++ k)) (hs : lk m "sort" = some (.int i ti))
    {Q : Flow → Heap → Prop} (q : ∀ h' l', InfoK w wa ca dl M oc odl oM mt (n + 1) m l' → St w hw h₀ L h' m (l' ++ k) → Wp (MM w) A (execs rest (callEnv fd324 L 324)) Q NoE h') :
    ∀ st, (((bodyOf (stAt 35)).drop 2).head?.bind fun s => (forB s).head?.bind fun s => (forB s).head?) = some st → Wp (MM w) A (execs (st :: rest) (callEnv fd324 L 324)) Q NoE h := by
  intro st hst
  cases hst
  refine gh fun CC kk => ?_
  obtain ⟨⟨ow, es, ks, rfl, hW, hodl, hE, hes⟩, lw, ld, lm⟩ := I
  refine kk ?_
  clear kk CC
  have S : St w hw h₀ L h m ([(wa, ow), (ca, oc)] ++ (es ++ ((M, oM) :: (dl, odl) :: mt) ++ k)) := S
  refine gh fun CC kk => ?_
  obtain ⟨oT, vT, hoT, hvT, hnT, hfT⟩ := tupAll_of S.wd.1.X (k_names _)
  refine kk ?_
  clear kk CC
  walk_at "w"
  have him : i < mt.length := by lia
  have hmi := List.getElem?_eq_getElem him
  refine s_titem (k := i) hoM (S.get (mr (ml (mr (.head _))))) (by rw [refs, List.getElem?_map, hmi]; rfl) (by rw [refs, List.length_map]; lia) ?_
  walk_at "w"
  have hmm : mt[i] ∈ mt := List.getElem_mem him
  refine gh fun CC kk => ?_
  obtain ⟨vs, hvs, hv0, hv4, hvsc⟩ := hmt _ hmm
  refine kk ?_
  clear kk CC
  refine c_pick S.wd (r.mono (by decide)) S.own' S.nd' hW (S.get (a := mt[i].1) (o := mt[i].2) (mr (ml (mr (.tail _ (.tail _ hmm)))))) hvs (led_out S (ml (mr (.tail _ (.tail _ hmm))))) hv0 (by lia) fun h₂ ow₂ v hv hW₂ X₂ => ?_
  have S₂ := St.call S X₂
  clear S X₂
  walk_at "w"
  have hie : i < es.length := by lia
  have hei := List.getElem?_eq_getElem hie
  refine s_item (k := i) hodl (S₂.get (mr (ml (mr (.tail _ (.head _)))))) (by rw [refs, List.getElem?_map, hei]; rfl) (by rw [refs, List.length_map]; lia) ?_
  walk_at "w"
  refine c_pick S₂.wd (r.mono (by decide)) S₂.own' S₂.nd' hW₂ (S₂.wd.2 _ _ hoT) hvT (const_out S₂ hoT) (by rw [hnT]; decide) (by rw [hnT]; decide) fun h₃ ow₃ u hu hW₃ X₃ => ?_
  have S₃ := St.call S₂ X₃
  clear S₂ X₃
  refine gh fun CC kk => ?_
  obtain ⟨b, tb, rfl⟩ := isByV_of (hfT u hu)
  refine kk ?_
  clear kk CC
  obtain ⟨pr, kv, hp, hpi, hki, e, hD, hsc, hlen⟩ := hE.at (i := i) (v := .ref es[i].1) (by rw [refs, List.getElem?_map, hei]; rfl)
  rw [hei] at hpi
  cases hpi
  refine s_dset (d := es[i].1) (o := es[i].2) S₃ hD (mr (ml (ml (List.getElem_mem hie)))) (by lia) fun o' h₄ hD' u₄ => ?_
  have S₄ := u₄ _ (Up.app (k := [(wa, ow₃), (ca, oc)]) (up_set (es := es) (i := i) (k := ((M, oM) :: (dl, odl) :: mt) ++ k) (by rw [hei])) |> fun x => by simpa using x)
  walk_at "w"
  refine q _ ([(wa, ow₃), (ca, oc)] ++ (es.set i (es[i].1, o') ++ ((M, oM) :: (dl, odl) :: mt))) ⟨⟨ow₃, es.set i (es[i].1, o'), ks.set i (stored kv b v), rfl, hW₃, by rw [refs_set (o := es[i].2) (show es[i]? = some (es[i].1, es[i].2) from hei)]; exact hodl, ?_, by rw [List.length_set]; exact hes⟩, lw, ld, lm⟩ (by simpa using S₄)
  exact (hE.imp fun p k hk => (⟨hk.1, hk.2.1, by have := hk.2.2; omega⟩ : DK w (n + 1) p k)).set ⟨hD', stored_sc hsc (hvsc v hv), by have := stored_length_le kv b v; omega⟩
theorem Each.unc {α : Type} {P : Addr × Obj → α → Prop} {n : Nat} {l : Led} {r : List α} {C : Prop} (x : Each P l r) (h : l.length = n + 1) (k : ∀ p l' a s, l = p :: l' → r = a :: s → P p a → Each P l' s → l'.length = n → C) : C := by
  cases x with
  | nil => cases h
  | cons y x => exact k _ _ _ _ rfl rfl y x (Nat.succ.inj h)
theorem Each.four' {α : Type} {P : Addr × Obj → α → Prop} {l : Led} {r : List α} (x : Each P l r) (h : l.length = 4) {C : Prop} (k : ∀ e1 e2 e3 e4 k1 k2 k3 k4, l = [e1, e2, e3, e4] → r = [k1, k2, k3, k4] → P e1 k1 → P e2 k2 → P e3 k3 → P e4 k4 → C) : C :=
  x.unc h fun _ _ _ _ a1 b1 h1 x h => x.unc h fun _ _ _ _ a2 b2 h2 x h => x.unc h fun _ _ _ _ a3 b3 h3 x h => x.unc h fun _ _ _ s a4 b4 h4 x h =>
  have e := List.eq_nil_of_length_eq_zero h
  have f : s = [] := List.eq_nil_of_length_eq_zero (x.len.symm.trans h)
  k _ _ _ _ _ _ _ _ (by rw [a1, a2, a3, a4, e]) (by rw [b1, b2, b3, b4, f]) h1 h2 h3 h4
theorem Each.four {α : Type} {P : Addr × Obj → α → Prop} {l : Led} {r : List α} (x : Each P l r) (h : l.length = 4) : ∃ e1 e2 e3 e4 k1 k2 k3 k4, l = [e1, e2, e3, e4] ∧ r = [k1, k2, k3, k4] ∧ P e1 k1 ∧ P e2 k2 ∧ P e3 k3 ∧ P e4 k4 :=
  x.four' h fun _ _ _ _ _ _ _ _ a b c d e f => ⟨_, _, _, _, _, _, _, _, a, b, c, d, e, f⟩
theorem perm_ix {α : Type} {l l' : List α} (d : α) (n : Nat) (is : List Nat) (h : is.Perm (List.range n)) (hn : l.length = n) (e : l' = is.map fun i => l.getD i d) : l.Perm l' := by
  subst hn
  have : l = (List.range l.length).map fun i => l.getD i d := by
    refine List.ext_getElem (by simp) fun i h1 h2 => ?_
    simp [h1]
  rw [e]
  refine List.Perm.trans (List.Perm.of_eq this) (h.symm.map _)
/- an Info and the dicts that it holds -/
noncomputable def InfoL (w : World) (x : Addr) (l : Led) (ks : List KV) : Prop := ∃ dx od na ua d1 d2 d3 d4 k1 k2 k3 k4, l = [(x, instObj 212 dx), (dx, od), d1, d2, d3, d4] ∧ ks = [k1, k2, k3, k4] ∧ IObj od (infoLoc na d1.1 d2.1 d3.1 d4.1 ua) ∧ DI w d1 k1 ∧ DI w d2 k2 ∧ DI w d3 k3 ∧ DI w d4 k4
theorem c_law_info {w : World} {hw h : Heap} {A : Around} {Q : Value → Heap → Prop} {E : Value → Heap → Prop} {wa ca : Addr} {ow oc : Obj}
    (D : Wo w hw h) (r : Rm A 5) (hl : ∀ p ∈ ([(wa, ow), (ca, oc)] : Led), h.get? p.1 = some p.2 ∧ hw.get? p.1 = none) (nd : (adr [(wa, ow), (ca, oc)]).Nodup) (hW : WellAt ow oc ca)
    (q : ∀ h' ow' T oT x il dl odl es ks, WellAt ow' oc ca → OTup oT [.ref x, .ref dl] → InfoL w x il ks → OLst odl (refs es) → Each (DK w 12) es ks → es.length = 4 → Step h [(wa, ow), (ca, oc)] h' ([(wa, ow'), (ca, oc)] ++ ((T, oT) :: (il ++ ((dl, odl) :: es)))) → Q (.ref T) h') :
    Wp (MM w) A (call (.ref 324) [.ref wa] []) Q E h := by
  refine enter_g (body := bodyOf (stAt 35)) (binds := [("well", .ref wa)]) D (r : Rm A (4 + 1)) [(wa, ow), (ca, oc)] hl nd (kf324 _) (kc324 _) (fun s hs => BindsTo.of_eq (by rfl)) rfl [("well", .ref wa)] rfl (fun L h₀ A' h₁ r4 _ fin S => ?_) (locs rfl) (by decide +kernel) rfl rfl rfl
  refine st_Assign ?_
  walk_at "w"
  refine e_Dict0 S fun d1 o1 h₂ x1 S₂ => ?_
  walk_at "w"
  refine e_Dict0 S₂ fun d2 o2 h₃ x2 S₃ => ?_
  walk_at "w"
  refine e_Dict0 S₃ fun d3 o3 h₄ x3 S₄ => ?_
  walk_at "w"
  refine e_Dict0 S₄ fun d4 o4 h₅ x4 S₅ => ?_
  clear S S₂ S₃ S₄
  walk_at "w"
  refine s_list S₅ (Nat.le_of_ble_eq_true rfl) fun dl odl h₆ hodl S₆ => ?_
  walk_at "w"
  rename St _ _ _ _ _ _ _ => SB
  refine s_tuple SB (Nat.le_of_ble_eq_true rfl) fun t1 p1 h₇ y1 S₇ => ?_
  walk_at "w"
  refine s_tuple S₇ (Nat.le_of_ble_eq_true rfl) fun t2 p2 h₈ y2 S₈ => ?_
  walk_at "w"
  refine s_tuple S₈ (Nat.le_of_ble_eq_true rfl) fun t3 p3 h₉ y3 S₉ => ?_
  walk_at "w"
  refine s_tuple S₉ (Nat.le_of_ble_eq_true rfl) fun t4 p4 h₁₀ y4 S₁₀ => ?_
  clear S₅ S₆ SB S₇ S₈ S₉
  walk_at "w"
  refine s_tuple S₁₀ (Nat.le_of_ble_eq_true rfl) fun M oM h₁₁ hoM S₁₁ => ?_
  clear S₁₀
  have hmt : ∀ p ∈ ([(t1, p1), (t2, p2), (t3, p3), (t4, p4)] : Led), Menu p := fun p hp => by
    simp only [List.mem_cons, List.not_mem_nil, or_false] at hp
    rcases hp with rfl | rfl | rfl | rfl
    · exact ⟨_, y1, Nat.le_of_ble_eq_true rfl, Nat.le_of_ble_eq_true rfl, List.all_eq_true.mp rfl⟩
    · exact ⟨_, y2, Nat.le_of_ble_eq_true rfl, Nat.le_of_ble_eq_true rfl, List.all_eq_true.mp rfl⟩
    · exact ⟨_, y3, Nat.le_of_ble_eq_true rfl, Nat.le_of_ble_eq_true rfl, List.all_eq_true.mp rfl⟩
    · exact ⟨_, y4, Nat.le_of_ble_eq_true rfl, Nat.le_of_ble_eq_true rfl, List.all_eq_true.mp rfl⟩
  have hoM : OTup oM (refs [(t1, p1), (t2, p2), (t3, p3), (t4, p4)]) := hoM
  clear y1 y2 y3 y4
  have hI : InfoK w wa ca dl M oc odl oM [(t1, p1), (t2, p2), (t3, p3), (t4, p4)] 0 [("well", .ref wa), ("dicts", .ref dl), ("menus", .ref M)] ([(wa, ow), (ca, oc)] ++ ([(d1, o1), (d2, o2), (d3, o3), (d4, o4)] ++ ((M, oM) :: (dl, odl) :: [(t1, p1), (t2, p2), (t3, p3), (t4, p4)]))) :=
    ⟨⟨ow, [(d1, o1), (d2, o2), (d3, o3), (d4, o4)], [[], [], [], []], rfl, hW, hodl, .cons ⟨x1, (fun _ h => nomatch h), Nat.le_refl _⟩ (.cons ⟨x2, (fun _ h => nomatch h), Nat.le_refl _⟩ (.cons ⟨x3, (fun _ h => nomatch h), Nat.le_refl _⟩ (.cons ⟨x4, (fun _ h => nomatch h), Nat.le_refl _⟩ .nil))), rfl⟩, rfl, rfl, rfl⟩
  walk_at "w"
  rename St _ _ _ _ _ _ _ => S₁₂
  clear S₁₁ x1 x2 x3 x4 hodl
  have S₁₂ := S₁₂.perm (l' := [(wa, ow), (ca, oc)] ++ ([(d1, o1), (d2, o2), (d3, o3), (d4, o4)] ++ ((M, oM) :: (dl, odl) :: [(t1, p1), (t2, p2), (t3, p3), (t4, p4)]))) (perm_ix (M, oM) 12 [10, 11, 9, 8, 7, 6, 0, 5, 4, 3, 2, 1] (by decide) rfl rfl)
  generalize ht : ([(t1, p1), (t2, p2), (t3, p3), (t4, p4)] : Led) = mt at *
  have hml : mt.length = 4 := by rw [← ht]; rfl
  clear ht
  generalize ([(wa, ow), (ca, oc)] ++ ([(d1, o1), (d2, o2), (d3, o3), (d4, o4)] ++ ((M, oM) :: (dl, odl) :: mt)) : Led) = l₀ at *
  refine st_For ?_
  walk_at "w"
  refine call_range S₁₂ fun rg tr t' h₁₃ hrg S₁₃ => ?_
  refine for_r (n := 4) r4.hd (fun i m l' => InfoK w wa ca dl M oc odl oM mt (3 * i) m l') S₁₃ hrg (by decide) hI ?_ ?_
  · intro i tk m l' I o h₁₄ hi K S₁₄ J₁ hJ₁
    refine go_name ?_
    refine gh fun CC kk => ?_
    obtain ⟨⟨ow₁, es, ks, rfl, hW₁, hodl, hE, hes⟩, lw, ld, lm⟩ := K
    refine kk ?_
    clear kk CC
    have S₁₄ : St w hw h₀ L h₁₄ m ([(wa, ow₁), (ca, oc)] ++ ((I, o) :: (es ++ ((M, oM) :: (dl, odl) :: mt)))) := S₁₄.perm (List.perm_middle (l₁ := [(wa, ow₁), (ca, oc)])).symm
    walk_at "w"
    rename St _ _ _ _ _ _ _ => S₁₅
    clear S₁₄ S₁₃ S₁₂
    refine st_For ?_
    walk_at "w"
    refine c_draw (n := 4) S₁₅.wd (r4.mono (by decide)) S₁₅.own' S₁₅.nd' hW₁ (by decide) (by decide) fun h₁₆ ow₁₆ nG t₁₆ hnG hW₁₆ X₁₆ => ?_
    have S₁₆ := St.call S₁₅ X₁₆
    clear S₁₅ X₁₆
    walk_at "w"
    refine call_range S₁₆ fun rg₂ tr₂ t₁₇ h₁₇ hrg₂ S₁₇ => ?_
    clear S₁₆
    have S₁₇ := S₁₇.perm (l' := [(wa, ow₁₆), (ca, oc)] ++ (es ++ ((M, oM) :: (dl, odl) :: mt)) ++ [(I, o)]) (by rw [List.append_assoc]; exact (List.perm_append_singleton _ _).symm.append_left _)
    refine for_r (n := nG) r4.hd (fun j m l' => ∃ l, l' = l ++ [(I, o)] ∧ InfoK w wa ca dl M oc odl oM mt (3 * i + j) m l ∧ lk m "sort" = some (.int i tk)) S₁₇ hrg₂ (by lia) ⟨_, rfl, ⟨⟨_, _, ks, rfl, hW₁₆, hodl, hE, hes⟩, by walk_at "lk", by walk_at "lk", by walk_at "lk"⟩, by walk_at "lk"⟩ ?_ ?_
    · rintro j tk₂ m₂ l₂ J oJ h₁₈ hj ⟨l, rfl, K, ls⟩ S₁₈ J₂ hJ₂
      refine go_name ?_
      have S₁₈ : St w hw h₀ L h₁₈ m₂ (l ++ [(I, o), (J, oJ)]) := S₁₈.perm (by simpa using (List.perm_append_singleton (J, oJ) (l ++ [(I, o)])).symm)
      refine as_name ?_
      refine n_store (by assumption) fun _ S₁₉ => ?_
      refine info_put (i := i) (ti := tk) r4 hoM hmt hml hi (by lia) ⟨K.it, ?_, ?_, ?_⟩ S₁₉ ?_ (fun h' l' K' S' => ?_) _ rfl
      · have := K.lw; walk_at "lk"
      · have := K.ld; walk_at "lk"
      · have := K.lm; walk_at "lk"
      · walk_at "lk"
      refine execs_nil ?_
      refine Turn_next (hJ₂ _ _ _ (S'.perm (l' := (J, oJ) :: (l' ++ [(I, o)])) (by simpa using List.perm_append_singleton (J, oJ) (l' ++ [(I, o)]))) ⟨_, rfl, K', ?_⟩)
      walk_at "lk"
    · rintro m₂ l₂ h₁₈ ⟨l, rfl, K, ls⟩ S₁₈
      refine Seq_next (execs_nil ?_)
      refine Turn_next (hJ₁ _ _ _ (S₁₈.perm (List.perm_append_singleton _ _)) ⟨?_, K.lw, K.ld, K.lm⟩)
      refine gh fun CC kk => ?_
      obtain ⟨ow₃, es₃, ks₃, e, h1, h2, h3, h4⟩ := K.it
      refine kk ?_
      clear kk CC
      exact ⟨ow₃, es₃, ks₃, e, h1, h2, h3.imp fun p k hk => ⟨hk.1, hk.2.1, by have := hk.2.2; lia⟩, h4⟩
  rintro m l h₁₄ ⟨⟨ow₁, es, ks, rfl, hW₁, hodl, hE, hes⟩, lw, ld, lm⟩ S₁₄
  clear S₁₂ S₁₃
  walk_at "w"
  refine Wp_post (Q := fun v h' => ∃ ua ou ow' vs, v = .ref ua ∧ OTup ou vs ∧ vs.length ≤ 1 ∧ WellAt ow' oc ca ∧ St w hw h₀ L h' m ([(wa, ow'), (ca, oc)] ++ ((ua, ou) :: (es ++ ((M, oM) :: (dl, odl) :: mt))))) ?_ ?_
  · refine e_IfExp ?_
    walk_at "w"
    refine c_draw (n := 2) S₁₄.wd (r4.mono (by decide)) S₁₄.own' S₁₄.nd' hW₁ (by decide) (by decide) fun h₁₆ ow₁₆ nG t₁₆ hnG hW₁₆ X₁₆ => ?_
    have S₁₆ := St.call S₁₄ X₁₆
    clear S₁₄ X₁₆
    walk_at "w"
    refine ⟨fun _ => ?_, fun _ => ?_⟩
    · walk_at "w"
      refine s_tuple S₁₆ (Nat.le_of_ble_eq_true rfl) fun ua ou h₁₇ hu S₁₇ => ?_
      exact ⟨ua, ou, _, _, rfl, hu, Nat.le_refl _, hW₁₆, S₁₇.perm (List.perm_middle (l₁ := [(wa, ow₁₆), (ca, oc)])).symm⟩
    · walk_at "w"
      refine s_tuple S₁₆ (Nat.le_of_ble_eq_true rfl) fun ua ou h₁₇ hu S₁₇ => ?_
      exact ⟨ua, ou, _, _, rfl, hu, Nat.zero_le _, hW₁₆, S₁₇.perm (List.perm_middle (l₁ := [(wa, ow₁₆), (ca, oc)])).symm⟩
  rintro v h₁₆ qq1
  refine gh fun CC kk => ?_
  obtain ⟨ua, ou, ow₁₆, us, rfl, hu, hun, hW₁₆, S₁₆⟩ := qq1
  refine kk ?_
  clear kk CC
  clear S₁₄ hW₁
  walk_at "w"
  rename St _ _ _ _ _ _ _ => S₁₇
  clear S₁₆
  refine s_tuple S₁₇ (Nat.le_of_ble_eq_true rfl) fun tp op h₁₈ hop S₁₈ => ?_
  clear S₁₇
  have S₁₈ := S₁₈.perm (l' := [(wa, ow₁₆), (ca, oc)] ++ ((tp, op) :: (ua, ou) :: (es ++ ((M, oM) :: (dl, odl) :: mt)))) (List.perm_middle (l₁ := [(wa, ow₁₆), (ca, oc)])).symm
  walk_at "w"
  refine c_pick S₁₈.wd (r4.mono (by decide)) S₁₈.own' S₁₈.nd' hW₁₆ (S₁₈.get (a := tp) (o := op) (.tail _ (.tail _ (.head _)))) hop (led_out S₁₈ (.head _)) (Nat.le_of_ble_eq_true rfl) (Nat.le_of_ble_eq_true rfl) fun h₁₉ ow₁₉ v hv hW₁₉ X₁₉ => ?_
  have S₁₉ := St.call S₁₈ X₁₉
  clear S₁₈ X₁₉ hop
  walk_at "w"
  refine s_list S₁₉ (Nat.le_of_ble_eq_true rfl) fun na on h₂₀ hon S₂₀ => ?_
  clear S₁₉
  refine gh fun CC kk => ?_
  obtain ⟨e1, e2, e3, e4, k1, k2, k3, k4, rfl, rfl, x1, x2, x3, x4⟩ := hE.four hes
  refine kk ?_
  clear kk CC
  have gd := S₂₀.get (a := dl) (o := odl) (.tail _ (mr (.tail _ (.tail _ (mr (.tail _ (.head _)))))))
  walk_at "w"
  refine s_item (k := 0) hodl gd rfl (Nat.le_of_ble_eq_true rfl) ?_
  walk_at "w"
  refine s_item (k := 1) hodl gd rfl (Nat.le_of_ble_eq_true rfl) ?_
  walk_at "w"
  refine s_item (k := 2) hodl gd rfl (Nat.le_of_ble_eq_true rfl) ?_
  walk_at "w"
  refine s_item (k := 3) hodl gd rfl (Nat.le_of_ble_eq_true rfl) ?_
  walk_at "w"
  refine o_new S₂₀ (mk212 _) (mks212 _) (call212 _) (typ212 _) (init212 _) (tf _ (kf209 _)) fun x dx h₂₁ S₂₁ => ?_
  clear S₂₀ gd
  generalize hk0 : ((na, on) :: ([(wa, ow₁₉), (ca, oc)] ++ ((tp, op) :: (ua, ou) :: ([e1, e2, e3, e4] ++ ((M, oM) :: (dl, odl) :: mt)))) : Led) = k0
  have hk0' : ∀ p ∈ ([(na, on), (ua, ou), e1, e2, e3, e4] : Led), p ∈ k0 := fun p hp => by
    rw [← hk0]
    exact (List.Sublist.cons_cons _ (.cons _ (.cons _ (.cons _ (.cons_cons _ (.cons_cons _ (.cons_cons _ (.cons_cons _ (.cons_cons _ (List.nil_sublist _)))))))))).mem hp
  have S₂₁ : St w hw h₀ L h₂₁ _ ([(x, instObj 212 dx), (dx, emptyDict)] ++ k0) := hk0 ▸ S₂₁
  have gg : ∀ p ∈ ([(na, on), (ua, ou), e1, e2, e3, e4] : Led), h₂₁.get? p.1 = some p.2 := fun p hp => S₂₁.get (List.mem_append_right _ (hk0' p hp))
  refine Wp_post (c_init209 (e1 := e1.1) (e2 := e2.1) (e3 := e3.1) (e4 := e4.1) (o1 := e1.2) (o2 := e2.2) (o3 := e3.2) (o4 := e4.2) (Q := fun v h' => v = .none ∧ ∃ od na' ua' d1 d2 d3 d4, IObj od (infoLoc na' d1.1 d2.1 d3.1 d4.1 ua') ∧ DI w d1 k1 ∧ DI w d2 k2 ∧ DI w d3 k3 ∧ DI w d4 k4 ∧ Step h₂₁ [(x, instObj 212 dx), (dx, emptyDict)] h' [(x, instObj 212 dx), (dx, od), d1, d2, d3, d4]) S₂₁.wd (Rm.mono (Rm.make (n := 3) r4) (by decide)) S₂₁.own' S₂₁.nd' (fun a ha => ?_) hon (gg _ (.head _)) (Nat.le_of_ble_eq_true rfl) hu (gg _ (.tail _ (.head _))) (Nat.le_trans hun (by decide))
    x1.1 (gg _ (.tail _ (.tail _ (.head _)))) x2.1 (gg _ (.tail _ (.tail _ (.tail _ (.head _))))) x3.1 (gg _ (.tail _ (.tail _ (.tail _ (.tail _ (.head _)))))) x4.1 (gg _ (.tail _ (.tail _ (.tail _ (.tail _ (.tail _ (.head _))))))) (Nat.le_trans x1.2.2 (by decide)) (Nat.le_trans x2.2.2 (by decide)) (Nat.le_trans x3.2.2 (by decide)) (Nat.le_trans x4.2.2 (by decide))
    (fun h' od na' ua' d1 d2 d3 d4 I y1 y2 y3 y4 X => ⟨rfl, od, na', ua', d1, d2, d3, d4, I, y1, y2, y3, y4, X⟩)) ?_
  · have : ∃ p ∈ ([(na, on), (ua, ou), e1, e2, e3, e4] : Led), p.1 = a := by
      simp only [List.mem_cons, List.not_mem_nil, or_false] at ha
      rcases ha with rfl | rfl | rfl | rfl | rfl | rfl <;> simp
    refine gh fun CC kk => ?_
    obtain ⟨p, hp, rfl⟩ := this
    refine kk ?_
    clear kk CC
    have := led_out S₂₁ (hk0' p hp)
    simpa [adr] using this
  rintro v h₂₂ qq1
  refine gh fun CC kk => ?_
  obtain ⟨rfl, od, na', ua', d1, d2, d3, d4, I, y1, y2, y3, y4, X⟩ := qq1
  refine kk ?_
  clear kk CC
  refine ⟨rfl, ?_⟩
  have S₂₂ := St.call S₂₁ X
  clear S₂₁ X gg hk0'
  walk_at "w"
  refine s_tuple S₂₂ (Nat.le_of_ble_eq_true rfl) fun T oT h₂₃ hT S₂₃ => ?_
  subst hk0
  have S₂₃ := S₂₃.sub (l' := [(T, oT), (x, instObj 212 dx), (dx, od), d1, d2, d3, d4, (wa, ow₁₉), (ca, oc), e1, e2, e3, e4, (dl, odl)]) (.cons₂ _ (.cons₂ _ (.cons₂ _ (.cons₂ _ (.cons₂ _ (.cons₂ _ (.cons₂ _ (.cons _ (.cons₂ _ (.cons₂ _ (.cons _ (.cons _ (.cons₂ _ (.cons₂ _ (.cons₂ _ (.cons₂ _ (.cons _ (.cons₂ _ (List.nil_sublist _)))))))))))))))))))
  exact q _ _ T oT x _ dl odl [e1, e2, e3, e4] [k1, k2, k3, k4] hW₁₉ hT ⟨dx, od, na', ua', d1, d2, d3, d4, k1, k2, k3, k4, rfl, rfl, I, y1, y2, y3, y4⟩ hodl (.cons x1 (.cons x2 (.cons x3 (.cons x4 .nil)))) rfl (fin (S₂₃.perm (perm_ix (T, oT) 14 [7, 8, 0, 1, 2, 3, 4, 5, 6, 13, 9, 10, 11, 12] (by decide) rfl rfl)))

end
section
noncomputable def RowD (p : Addr × Obj) (r : R3) : Prop := ∃ t, OTup p.2 [.bytes r.1.toArray t, r.2.1, r.2.2]
/- names = dict([(name, True) for name in list(near) + list(far)]) -/
theorem df_names {w : World} {A : Around} {hw h₀ h : Heap} {L d1 d2 : Addr} {o1 o2 : Obj} {k1 k2 : KV} {m : Loc} {l : Led} {rest : List Stmt} {Q : Flow → Heap → Prop}
    (r : Rm A 1) (S : St w hw h₀ L h m l) (x1 : DI w (d1, o1) k1) (g1 : h₀.get? d1 = some o1) (x2 : DI w (d2, o2) k2) (g2 : h₀.get? d2 = some o2) (z1 : k1.length ≤ 12) (z2 : k2.length ≤ 12) (ln : lk m "near" = some (.ref d1)) (lf : lk m "far" = some (.ref d2))
    (q : ∀ h' c oc kk, DI w (c, oc) kk → kk.map (·.1) = keysOf k1 k2 → St w hw h₀ L h' (put "names" (.ref c) m) ((c, oc) :: l) → Wp (MM w) A (execs rest (callEnv fd221 L 221)) Q NoE h') :
    ∀ st, (((bodyOf (stAt 21)).drop 2).head?.bind fun s => (forB s)[0]?) = some st → Wp (MM w) A (execs (st :: rest) (callEnv fd221 L 221)) Q NoE h := by
  intro st hst
  cases hst
  walk_at "w"
  refine e_ListComp (hw := hw) (h₀ := h₀) (L := L) (m := m) (cl := []) ?_ (hclos := by with_unfolding_all rfl)
  walk_at "w"
  refine s_dlist r.hd S x1 (S.base g1) (by lia) fun c1 p1 h₂ v1 hv1 b1 S₂ => ?_
  walk_at "w"
  refine s_dlist r.hd S₂ x2 (S₂.base g2) (by lia) fun c2 p2 h₃ v2 hv2 b2 S₃ => ?_
  walk_at "w"
  have e1 : v1.length = k1.length := by rw [b1.1, List.length_map]
  have e2 : v2.length = k2.length := by rw [b2.1, List.length_map]
  refine s_addl S₃ hv1 (S₃.get (.tail _ (.head _))) hv2 (S₃.get (.head _)) (by lia) fun c3 p3 h₄ hv3 S₄ => ?_
  have S₄ : St w hw h₀ L h₄ m ([(c3, p3)] ++ l) := S₄.sub (.cons₂ _ (.cons _ (.cons _ (List.Sublist.refl _))))
  clear S S₂ S₃ hv1 hv2
  have b3 : BL (v1 ++ v2) (k1.map (·.1) ++ k2.map (·.1)) := ⟨by rw [List.length_append, List.length_append, b1.1, b2.1], fun j v b h1 h2 => by
    rcases Nat.lt_or_ge j v1.length with hj | hj
    · rw [List.getElem?_append_left hj] at h1
      rw [List.getElem?_append_left (by rw [← b1.1]; exact hj)] at h2
      exact b1.2 j v b h1 h2
    · rw [List.getElem?_append_right hj] at h1
      rw [List.getElem?_append_right (by rw [← b1.1]; exact hj), ← b1.1] at h2
      exact b2.2 _ v b h1 h2⟩
  have ez : (v1 ++ v2).length = (k1.map (·.1) ++ k2.map (·.1)).length := b3.1
  have hz : (k1.map (·.1) ++ k2.map (·.1)).length ≤ 24 := by simp; lia
  generalize hns : k1.map (·.1) ++ k2.map (·.1) = ns at *
  refine compOn_l r.hd (fun i ys l' => ∃ tl, l' = tl ++ l ∧ ys = refs tl ∧ Each (fun p n => ∃ t, OTup p.2 [.bytes n.toArray t, .bool true]) tl (ns.take i)) S₄ hv3 (.head _) (by lia) ⟨[], rfl, rfl, .nil⟩ ?_ ?_
  · rintro i v ys l' I o C oC D oD mc h₅ hv ⟨tl, rfl, rfl, hE⟩ hit hD hC S₅
    have hi : i < ns.length := by rw [← ez]; exact (List.getElem?_eq_some_iff.mp hv).1
    have hni := List.getElem?_eq_getElem hi
    obtain ⟨t, rfl⟩ := b3.2 i v _ hv hni
    refine go_name ?_
    refine as_name ?_
    refine c_store S₅ (.tail _ (.tail _ (.head _))) hC fun oC1 h₆ hC1 u₆ => ?_
    have S₆ := u₆ _ (.tail (.tail .head))
    clear S₅ hC
    refine tests_nil ?_
    refine ⟨fun _ => ?_, fun hb => nomatch hb⟩
    refine e_Tuple ?_
    refine sp_cons ?_
    refine c_local S₆ (.tail _ (.tail _ (.head _))) hC1 lkp_self ?_
    walk_at "w"
    refine s_tuple S₆ (Nat.le_of_ble_eq_true rfl) fun T oT h₇ hT S₇ => ?_
    refine ⟨oC1, _, (tl ++ [(T, oT)]) ++ l, hC1, S₇.perm ?_, tl ++ [(T, oT)], rfl, (by rw [refs_snoc]), ?_⟩
    · have := (List.perm_middle (l₁ := (I, o) :: (c3, p3) :: (C, oC1) :: (D, oD) :: tl) (a := (T, oT)) (l₂ := l)).symm
      simpa using this
    · rw [List.take_add_one, hni]
      exact hE.snoc ⟨_, hT⟩
  · rintro D oD ys l' h₅ hD hys ⟨tl, rfl, rfl, hE⟩ S₅
    rw [ez, List.take_length] at hE
    walk_at "w"
    refine s_dpairs (tl := tl) (kvs := ns.map fun n => (n, .bool true)) r.hd S₅ hD (S₅.get (.head _)) (by rw [List.length_map, hE.len]) (by rw [List.length_map]; lia) (fun i p k v hp hk => ?_) (fun p hp => S₅.get (.tail _ (mr (ml hp)))) fun c oc h₆ hc S₆ => ?_
    · rw [List.getElem?_map] at hk
      cases hn : ns[i]? with
      | none => rw [hn] at hk; cases hk
      | some n =>
        rw [hn] at hk
        cases hk
        obtain ⟨p', a, _, h1, h2, h3, h4⟩ := hE.at (i := i) (v := .ref p.1) (by rw [refs, List.getElem?_map, hp]; rfl)
        rw [hp] at h1; cases h1
        rw [hn] at h2; cases h2
        exact h4
    · have S₆ : St w hw h₀ L h₆ m ((c, oc) :: l) := S₆.sub (.cons₂ _ (.cons _ (.cons _ (List.sublist_append_right _ _))))
      clear S₅
      walk_at "w"
      refine q _ c oc _ hc ?_ (by assumption)
      rw [← hns]
      exact names_keys _ x1.nodup x2.nodup
theorem sc_ok {a b : Value} (ha : isSc a = true) (hb : isSc b = true) : (dvOf a).cmpOk (dvOf b) = true := by
  cases a <;> first | (cases ha; done) | skip
  all_goals (cases b <;> first | (cases hb; done) | rfl)
theorem sc_flat {a : Value} (ha : isSc a = true) : (dvOf a).flat 0 = true := by
  cases a <;> first | (cases ha; done) | rfl
theorem rows_take {ns : List (List UInt8)} {a b : KV} {i : Nat} {n : List UInt8} (h : ns[i]? = some n) : rowsOf (ns.take (i + 1)) a b = rowsOf (ns.take i) a b ++ (if likeV (getV a n) (getV b n) then [] else [(n, getV a n, getV b n)]) := by
  unfold rowsOf
  rw [List.take_add_one, h, List.filterMap_append]
  congr 1
  show List.filterMap _ [n] = _
  rw [List.filterMap_cons, List.filterMap_nil]
  cases hl : likeV (getV a n) (getV b n) <;> rfl
theorem df_loop {w : World} {A : Around} {hw h₀ h : Heap} {L d1 d2 c R : Addr} {o1 o2 oc oR : Obj} {k1 k2 kk : KV} {m : Loc} {tl k : Led} {acc : List R3} {rest : List Stmt} {Q : Flow → Heap → Prop}
    (r : Rm A 1) (S : St w hw h₀ L h m ((R, oR) :: (tl ++ k))) (x1 : DI w (d1, o1) k1) (g1 : h₀.get? d1 = some o1) (x2 : DI w (d2, o2) k2) (g2 : h₀.get? d2 = some o2) (z1 : KOk 12 k1) (z2 : KOk 12 k2) (ln : lk m "near" = some (.ref d1)) (lf : lk m "far" = some (.ref d2))
    (lr : lk m "found" = some (.ref R)) (lc : lk m "names" = some (.ref c)) (hc : DI w (c, oc) kk) (gc : h.get? c = some oc) (hkk : kk.map (·.1) = keysOf k1 k2) (hoR : OLst oR (refs tl)) (hE : Each RowD tl acc) (hz : tl.length ≤ 1000)
    (q : ∀ h' oR' tl' m', OLst oR' (refs tl') → Each RowD tl' (acc ++ rowsOf (sortB (keysOf k1 k2)) k1 k2) → tl'.length ≤ tl.length + 24 → lk m' "found" = some (.ref R) → St w hw h₀ L h' m' ((R, oR') :: (tl' ++ k)) → Wp (MM w) A (execs rest (callEnv fd221 L 221)) Q NoE h') :
    ∀ st, (((bodyOf (stAt 21)).drop 2).head?.bind fun s => (forB s)[1]?) = some st → Wp (MM w) A (execs (st :: rest) (callEnv fd221 L 221)) Q NoE h := by
  intro st hst
  cases hst
  have hkl : kk.length ≤ 24 := by
    have : kk.length = (keysOf k1 k2).length := by rw [← hkk, List.length_map]
    rw [this]
    unfold keysOf
    rw [List.length_append, List.length_map]
    have h1 := List.length_filter_le (fun n => (valueAt k1 n).isNone) (k2.map (·.1))
    rw [List.length_map] at h1
    have := z1.len; have := z2.len
    lia
  refine st_For ?_
  walk_at "w"
  refine s_dsorted r.hd S hc gc (by lia) fun sc so h₂ vs ns hso hb hp hs S₂ => ?_
  rw [hkk] at hp
  obtain rfl := sortB_is hp hs
  have hvl : vs.length ≤ 24 := by
    rw [hb.1, hp.length_eq, ← hkk, List.length_map]; exact hkl
  clear S gc
  generalize hns : sortB (keysOf k1 k2) = ns at *
  refine for_l (src := [(sc, so)]) r.hd (fun i m' l' => ∃ oR' tl', l' = (R, oR') :: (tl' ++ k) ∧ OLst oR' (refs tl') ∧ Each RowD tl' (acc ++ rowsOf (ns.take i) k1 k2) ∧ tl'.length ≤ tl.length + i ∧ lk m' "found" = some (.ref R) ∧ lk m' "near" = some (.ref d1) ∧ lk m' "far" = some (.ref d2)) S₂ hso (.head _) ⟨oR, tl, rfl, hoR, by simpa [rowsOf] using hE, Nat.le_refl _, lr, ln, lf⟩ ?_ ?_
  · rintro i v m' l' I o h₃ hv ⟨oR', tl', rfl, hoR', hE', hl', lr', ln', lf'⟩ hit S₃ J hJ
    have hi : i < ns.length := by rw [← hb.1]; exact (List.getElem?_eq_some_iff.mp hv).1
    have hi' : i < vs.length := (List.getElem?_eq_some_iff.mp hv).1
    have hni := List.getElem?_eq_getElem hi
    obtain ⟨t, rfl⟩ := hb.2 i v _ hv hni
    have hrt := rows_take (a := k1) (b := k2) hni
    generalize ns[i] = n at *
    refine go_name ?_
    refine as_name ?_
    refine n_store S₃ fun _ S₄ => ?_
    clear S₃ S₂
    walk_at "w"
    refine s_mget x1 (S₄.base g1) ?_
    walk_at "w"
    refine s_dget x1 (S₄.base g1) ?_
    walk_at "w"
    refine s_mget x2 (S₄.base g2) ?_
    walk_at "w"
    refine s_dget x2 (S₄.base g2) ?_
    walk_at "w"
    show Wp _ _ (newTuple [getV k1 n, getV k2 n]) _ _ _
    have hu := z1.get n
    have hv' := z2.get n
    generalize getV k1 n = u at *
    generalize getV k2 n = v at *
    refine s_tuple S₄ (Nat.le_of_ble_eq_true rfl) fun T oT h₅ hT S₅ => ?_
    clear S₄
    walk_at "w"
    rename St _ _ _ _ _ _ _ => S₆
    clear S₅
    have gT := S₆.get (a := T) (o := oT) (.head _)
    refine st_If ?_
    refine Wp_hereB (a := !likeV u v) ?_ ?_
    · have hul := r.un
      walk_at "w"
      refine s_titem (k := 0) hT gT rfl (Nat.le_of_ble_eq_true rfl) ?_
      walk_at "w"
      refine s_titem (k := 1) hT gT rfl (Nat.le_of_ble_eq_true rfl) ?_
      walk_at "w"
      refine d_ne (n := 0) (rd_sc hu) (rd_sc hv') (sc_ok hu hv') (sc_flat hu) (by lia) ?_
      walk_at "w"
      unfold likeV
      cases hev : (dvOf u).eqv (dvOf v)
      · refine ⟨fun _ => ⟨rfl, by simp⟩, fun hb => nomatch hb⟩
      · refine ⟨(fun hb => nomatch hb), fun _ => ?_⟩
        walk_at "w"
        refine s_titem (k := 0) hT gT rfl (Nat.le_of_ble_eq_true rfl) ?_
        walk_at "w"
        refine s_isbool hu ?_
        walk_at "w"
        refine s_titem (k := 1) hT gT rfl (Nat.le_of_ble_eq_true rfl) ?_
        walk_at "w"
        refine s_isbool hv' ?_
        walk_at "w"
        refine d_ne (n := 0) (.bool _) (.bool _) rfl rfl (by lia) ?_
        walk_at "w"
        rw [show ∀ x y, (Dv.bool x).eqv (.bool y) = (x == y) from fun _ _ => rfl]
        cases isBoolD (dvOf u) == isBoolD (dvOf v)
        · exact ⟨fun _ => ⟨rfl, rfl⟩, (fun hb => nomatch hb)⟩
        · refine ⟨(fun hb => nomatch hb), fun _ => ?_⟩
          walk_at "w"
          exact ⟨rfl, rfl⟩
    refine ⟨fun hb => ?_, fun hb => ?_⟩
    · have hb : likeV u v = false := by simpa using hb
      rw [hb, if_neg (by decide)] at hrt
      walk_at "w"
      refine s_mappend hoR' (S₆.get (.tail _ (.tail _ (.tail _ (.head _))))) ?_
      walk_at "w"
      refine s_titem (k := 0) hT gT rfl (Nat.le_of_ble_eq_true rfl) ?_
      walk_at "w"
      refine s_titem (k := 1) hT gT rfl (Nat.le_of_ble_eq_true rfl) ?_
      walk_at "w"
      refine s_tuple S₆ (Nat.le_of_ble_eq_true rfl) fun T' oT' h₇ hT' S₇ => ?_
      walk_at "w"
      have S₇ := S₇.sub (l' := (T', oT') :: (I, o) :: (sc, so) :: (R, oR') :: (tl' ++ k)) (.cons₂ _ (.cons _ (List.Sublist.refl _)))
      clear S₆ gT
      refine s_append S₇ hoR' (.tail _ (.tail _ (.tail _ (.head _)))) (by rw [refs, List.length_map]; lia) fun oR'' h₈ hR'' u₈ => ?_
      have S₈ := u₈ _ (.tail (.tail (.tail .head)))
      walk_at "w"
      refine hJ _ _ ((R, oR'') :: ((tl' ++ [(T', oT')]) ++ k)) (S₈.perm ?_) ⟨oR'', tl' ++ [(T', oT')], rfl, by rw [refs_snoc]; exact hR'', ?_, by rw [List.length_append]; show _ + 1 ≤ _; lia, by walk_at "lk", by walk_at "lk", by walk_at "lk"⟩
      · have := (List.perm_middle (l₁ := (I, o) :: (sc, so) :: (R, oR'') :: tl') (a := (T', oT')) (l₂ := k)).symm
        simpa using this
      · rw [hrt, ← List.append_assoc]
        exact hE'.snoc ⟨_, hT'⟩
    · have hb : likeV u v = true := by simpa using hb
      rw [hb, if_pos rfl, List.append_nil] at hrt
      walk_at "w"
      refine hJ _ _ ((R, oR') :: (tl' ++ k)) (S₆.sub (List.sublist_cons_self _ _)) ⟨oR', tl', rfl, hoR', by rw [hrt]; exact hE', by lia, by walk_at "lk", by walk_at "lk", by walk_at "lk"⟩
  · rintro m' l' h₃ ⟨oR', tl', rfl, hoR', hE', hl', lr', ln', lf'⟩ S₃
    refine Seq_next (q _ oR' tl' m' hoR' ?_ (by lia) lr' (S₃.sub (List.sublist_cons_self _ _)))
    rw [hb.1, List.take_length] at hE'
    exact hE'
theorem diffS_take {ps : List (KV × KV)} {i : Nat} {p : KV × KV} (h : ps[i]? = some p) : diffS (ps.take (i + 1)) = diffS (ps.take i) ++ rowsOf (sortB (keysOf p.1 p.2)) p.1 p.2 := by
  unfold diffS
  rw [List.take_add_one, h, List.flatMap_append]
  simp
/- a pair of dicts that stand -/
noncomputable def PairD (w : World) (h₀ : Heap) (p : Addr × Obj) (k : KV × KV) : Prop := ∃ d1 d2 o1 o2, OTup p.2 [.ref d1, .ref d2] ∧ DI w (d1, o1) k.1 ∧ DI w (d2, o2) k.2 ∧ h₀.get? d1 = some o1 ∧ h₀.get? d2 = some o2 ∧ KOk 12 k.1 ∧ KOk 12 k.2
theorem c_differences {w : World} {hw h : Heap} {A : Around} {Q : Value → Heap → Prop} {E : Value → Heap → Prop} {x1 x2 : Addr} {l1 l2 : Led} {ks1 ks2 : List KV}
    (D : Wo w hw h) (r : Rm A 3) (i1 : InfoL w x1 l1 ks1) (g1 : ∀ p ∈ l1, h.get? p.1 = some p.2) (i2 : InfoL w x2 l2 ks2) (g2 : ∀ p ∈ l2, h.get? p.1 = some p.2) (z1 : ∀ k ∈ ks1, KOk 12 k) (z2 : ∀ k ∈ ks2, KOk 12 k)
    (q : ∀ h' R oR tl, OLst oR (refs tl) → Each RowD tl (diffS (ks1.zip ks2)) → tl.length ≤ 96 → Step h [] h' ((R, oR) :: tl) → Q (.ref R) h') : Wp (MM w) A (call (.ref 221) [.ref x1, .ref x2] []) Q E h := by
  refine enter_k (body := bodyOf (stAt 21)) (binds := [("one", .ref x1), ("other", .ref x2)]) D (r : Rm A (2 + 1)) (kf221 _) (kc221 _) (fun s hs => BindsTo.of_eq (by rfl)) rfl [("other", .ref x2), ("one", .ref x1)] rfl (fun L A' h₁ r2 fin S => ?_) (locs rfl) (by decide +kernel) rfl rfl rfl
  refine gh fun CC kk => ?_
  obtain ⟨dx1, od1, na1, ua1, a1, a2, a3, a4, k1, k2, k3, k4, rfl, rfl, I1, ya1, ya2, ya3, ya4⟩ := i1
  obtain ⟨dx2, od2, na2, ua2, b1, b2, b3, b4, j1, j2, j3, j4, rfl, rfl, I2, yb1, yb2, yb3, yb4⟩ := i2
  refine kk ?_
  clear kk CC
  have gx1 := g1 _ (.head _)
  have gd1 := g1 _ (.tail _ (.head _))
  have gx2 := g2 _ (.head _)
  have gd2 := g2 _ (.tail _ (.head _))
  refine st_Assign ?_
  walk_at "w"
  refine s_list S (Nat.le_of_ble_eq_true rfl) fun R oR h₂ hoR S₂ => ?_
  clear S
  walk_at "w"
  rename St _ _ _ _ _ _ _ => S₃
  clear S₂
  refine o_get S₃.wd (cl_booleans _) (S₃.base gx1) (S₃.base gd1) I1 rfl rfl ?_
  walk_at "w"
  refine o_get S₃.wd (cl_booleans _) (S₃.base gx2) (S₃.base gd2) I2 rfl rfl ?_
  walk_at "w"
  refine s_tuple S₃ (Nat.le_of_ble_eq_true rfl) fun t1 p1 h₄ y1 S₄ => ?_
  clear S₃
  walk_at "w"
  refine o_get S₄.wd (cl_numbers _) (S₄.base gx1) (S₄.base gd1) I1 rfl rfl ?_
  walk_at "w"
  refine o_get S₄.wd (cl_numbers _) (S₄.base gx2) (S₄.base gd2) I2 rfl rfl ?_
  walk_at "w"
  refine s_tuple S₄ (Nat.le_of_ble_eq_true rfl) fun t2 p2 h₅ y2 S₅ => ?_
  clear S₄
  walk_at "w"
  refine o_get S₅.wd (cl_strings _) (S₅.base gx1) (S₅.base gd1) I1 rfl rfl ?_
  walk_at "w"
  refine o_get S₅.wd (cl_strings _) (S₅.base gx2) (S₅.base gd2) I2 rfl rfl ?_
  walk_at "w"
  refine s_tuple S₅ (Nat.le_of_ble_eq_true rfl) fun t3 p3 h₆ y3 S₆ => ?_
  clear S₅
  walk_at "w"
  refine s_list S₆ (Nat.le_of_ble_eq_true rfl) fun P oP h₇ hP S₇ => ?_
  clear S₆
  walk_at "w"
  rename St _ _ _ _ _ _ _ => S₈
  clear S₇
  refine st_For ?_
  walk_at "w"
  refine o_get S₈.wd (cl_more _) (S₈.base gx1) (S₈.base gd1) I1 rfl rfl ?_
  walk_at "w"
  refine o_get S₈.wd (cl_more _) (S₈.base gx2) (S₈.base gd2) I2 rfl rfl ?_
  walk_at "w"
  refine s_tuple S₈ (Nat.le_of_ble_eq_true rfl) fun t4 p4 h₉ y4 S₉ => ?_
  clear S₈
  walk_at "w"
  refine s_list S₉ (Nat.le_of_ble_eq_true rfl) fun P' oP' h₁₀ hP' S₁₀ => ?_
  clear S₉
  walk_at "w"
  refine s_addl S₁₀ hP (S₁₀.get (.tail _ (.tail _ (.head _)))) hP' (S₁₀.get (.head _)) (Nat.le_of_ble_eq_true rfl) fun C oC h₁₁ hC S₁₁ => ?_
  have S₁₁ : St w hw h L h₁₁ _ (((C, oC) :: [(t1, p1), (t2, p2), (t3, p3), (t4, p4)]) ++ (R, oR) :: ([] ++ [])) :=
    (S₁₁.perm (perm_ix (C, oC) 8 [0, 6, 5, 4, 2, 7, 1, 3] (by decide) rfl rfl)).sub (List.sublist_append_left _ [(P', oP'), (P, oP)])
  clear S₁₀ hP hP' gx1 gd1 gx2 gd2
  have hT : Each (PairD w h) [(t1, p1), (t2, p2), (t3, p3), (t4, p4)] ([k1, k2, k3, k4].zip [j1, j2, j3, j4]) :=
    .cons ⟨_, _, a1.2, b1.2, y1, ya1, yb1, g1 _ (List.mem_of_getElem? (i := 2) rfl), g2 _ (List.mem_of_getElem? (i := 2) rfl), z1 _ (List.mem_of_getElem? (i := 0) rfl), z2 _ (List.mem_of_getElem? (i := 0) rfl)⟩
    (.cons ⟨_, _, a2.2, b2.2, y2, ya2, yb2, g1 _ (List.mem_of_getElem? (i := 3) rfl), g2 _ (List.mem_of_getElem? (i := 3) rfl), z1 _ (List.mem_of_getElem? (i := 1) rfl), z2 _ (List.mem_of_getElem? (i := 1) rfl)⟩
    (.cons ⟨_, _, a3.2, b3.2, y3, ya3, yb3, g1 _ (List.mem_of_getElem? (i := 4) rfl), g2 _ (List.mem_of_getElem? (i := 4) rfl), z1 _ (List.mem_of_getElem? (i := 2) rfl), z2 _ (List.mem_of_getElem? (i := 2) rfl)⟩
    (.cons ⟨_, _, a4.2, b4.2, y4, ya4, yb4, g1 _ (List.mem_of_getElem? (i := 5) rfl), g2 _ (List.mem_of_getElem? (i := 5) rfl), z1 _ (List.mem_of_getElem? (i := 3) rfl), z2 _ (List.mem_of_getElem? (i := 3) rfl)⟩ .nil)))
  have hC : OLst oC (refs [(t1, p1), (t2, p2), (t3, p3), (t4, p4)]) := hC
  generalize [k1, k2, k3, k4].zip [j1, j2, j3, j4] = ps at *
  generalize hts : ([(t1, p1), (t2, p2), (t3, p3), (t4, p4)] : Led) = ts at *
  have hts4 : ts.length = 4 := by rw [← hts]; rfl
  clear hts z1 z2 g1 g2 I1 I2 ya1 ya2 ya3 ya4 yb1 yb2 yb3 yb4 y1 y2 y3 y4
  refine for_l r2.hd (fun i m' l' => ∃ oR' tl', l' = (R, oR') :: (tl' ++ []) ∧ OLst oR' (refs tl') ∧ Each RowD tl' (diffS (ps.take i)) ∧ tl'.length ≤ 24 * i ∧ lk m' "found" = some (.ref R)) S₁₁ hC (.head _) ⟨oR, [], rfl, hoR, .nil, Nat.le_refl _, by walk_at "lk"⟩ ?_ ?_
  · rintro i v m' l' I o h₁₂ hv ⟨oR', tl', rfl, hoR', hE', hl', lr'⟩ hit S₁₂ J hJ
    refine gh fun CC kk => ?_
    obtain ⟨p, ⟨ka, kb⟩, hp, hpi, hki, rfl, d1, d2, o1, o2, hO, x1, x2, e1, e2, za, zb⟩ := hT.at hv
    refine kk ?_
    clear kk CC
    have hi4 : i < 4 := by have := (List.getElem?_eq_some_iff.mp hpi).1; lia
    refine go_list hit ?_
    have hpm : p ∈ (I, o) :: ((C, oC) :: ts ++ (R, oR') :: (tl' ++ [])) := .tail _ (List.mem_append_left _ (.tail _ hp))
    refine u_tuple r2.hd (S₁₂.get hpm) hO fun h₁₃ k₁₃ => ?_
    have S₁₃ := S₁₂.grow k₁₃
    clear S₁₂ S₁₁
    refine a_cons ?_
    refine as_name ?_
    refine n_store S₁₃ fun _ S₁₄ => ?_
    refine a_cons ?_
    refine as_name ?_
    refine n_store S₁₄ fun _ S₁₅ => ?_
    refine a_nil ?_
    clear S₁₃ S₁₄
    refine df_names (r2.mono (by decide)) S₁₅ x1 e1 x2 e2 za.len zb.len (by walk_at "lk") (by walk_at "lk") (fun h₁₆ c oc kk hc hkk S₁₆ => ?_) _ rfl
    have S₁₆ : St w hw h L h₁₆ _ ((R, oR') :: (tl' ++ ((c, oc) :: (I, o) :: (C, oC) :: ts))) := S₁₆.perm (by
      rw [List.append_nil]
      have := List.perm_append_comm (l₁ := (c, oc) :: (I, o) :: (C, oC) :: ts) (l₂ := (R, oR') :: tl')
      simpa using this)
    refine df_loop (r2.mono (by decide)) S₁₆ x1 e1 x2 e2 za zb (by walk_at "lk") (by walk_at "lk") (by walk_at "lk") (by walk_at "lk") hc (S₁₆.get (.tail _ (mr (.head _)))) hkk hoR' hE' (by lia) (fun h₁₇ oR'' tl'' m'' hR'' hE'' hl'' lr'' S₁₇ => ?_) _ rfl
    refine execs_nil ?_
    refine Turn_next (hJ _ m'' ((R, oR'') :: (tl'' ++ [])) ?_ ⟨oR'', tl'', rfl, hR'', by rw [diffS_take hki]; exact hE'', by lia, lr''⟩)
    have S₁₇ := S₁₇.perm (l' := (c, oc) :: ((I, o) :: (((C, oC) :: ts) ++ (R, oR'') :: (tl'' ++ [])))) (by
      rw [List.append_nil]
      have := List.perm_append_comm (l₂ := (c, oc) :: (I, o) :: (C, oC) :: ts) (l₁ := (R, oR'') :: tl'')
      simpa using this)
    exact S₁₇.sub (List.sublist_cons_self _ _)
  · rintro m' l' h₁₂ ⟨oR', tl', rfl, hoR', hE', hl', lr'⟩ S₁₂
    refine Seq_next ?_
    have el : (refs ts).length = ps.length := by rw [refs, List.length_map, hT.len]
    rw [el, List.take_length] at hE'
    rw [refs, List.length_map, hts4] at hl'
    walk_at "w"
    refine q _ R oR' tl' hoR' hE' hl' (fin (S₁₂.sub ?_))
    rw [List.append_nil]
    exact List.sublist_append_right _ _

end
section
theorem c_like {w : World} {hw h : Heap} {A : Around} {Q : Value → Heap → Prop} {E : Value → Heap → Prop} {u v : Value} (D : Wo w hw h) (r : Rm A 2) (hu : isSc u = true) (hv : isSc v = true)
    (q : ∀ h', h.StaysIn h' → Q (.bool (likeV u v)) h') : Wp (MM w) A (call (.ref 331) [u, v] []) Q E h := by
  refine enter0 (body := bodyOf (stAt 36)) (binds := [("one", u), ("other", v)]) D r.dep (kf331 _) (kc331 _) (fun s hs => BindsTo.of_eq (by rfl)) rfl [("other", v), ("one", u)] rfl (fun h₁ S => ?_) (locs rfl) (by decide +kernel) rfl rfl rfl
  have r1 := (r : Rm A (1 + 1)).deeper (env := callEnv fd331 h.objs.size 331)
  have hul := r1.un
  refine st_Return ?_
  walk_at "w"
  refine s_isbool hu ?_
  walk_at "w"
  refine s_isbool hv ?_
  walk_at "w"
  refine d_eq (n := 0) (.bool _) (.bool _) rfl rfl (by lia) ?_
  rw [show ∀ x y, (Dv.bool x).eqv (.bool y) = (x == y) from fun _ _ => rfl]
  have q' := q _ S.stay
  unfold likeV at q'
  walk_at "w"
  cases hb : isBoolD (dvOf u) == isBoolD (dvOf v)
  · rw [hb] at q'
    exact ⟨(fun hb => nomatch hb), fun _ => q'⟩
  · rw [hb] at q'
    refine ⟨fun _ => ?_, (fun hb => nomatch hb)⟩
    walk_at "w"
    exact d_eq (n := 0) (rd_sc hu) (rd_sc hv) (sc_ok hu hv) (sc_flat hu) (by lia) q'
noncomputable abbrev irEnv (L : Addr) : Env := callEnvC fd336 L 336
/- names = sorted(list(near) + [name for name in far if name not in near]) -/
theorem dg_names {w : World} {A : Around} {hw h₀ h : Heap} {L d1 d2 : Addr} {o1 o2 on : Obj} {k1 k2 : KV} {m : Loc} {l : Led} {rest : List Stmt} {Q : Flow → Heap → Prop}
    (r : Rm A 1) (S : St w hw h₀ L h m l) (x1 : DI w (d1, o1) k1) (m1 : (d1, o1) ∈ l) (x2 : DI w (d2, o2) k2) (m2 : (d2, o2) ∈ l) (z1 : k1.length ≤ 12) (z2 : k2.length ≤ 12) (mn : (L + 1, on) ∈ l) (hn : on.data = .cell (some (.ref d1))) (lf : lk m "far" = some (.ref d2))
    (q : ∀ h' c oc vs, OLst oc vs → BL vs (sortB (keysOf k1 k2)) → vs.length ≤ 24 → St w hw h₀ L h' (put "names" (.ref c) m) ((c, oc) :: l) → Wp (MM w) A (execs rest (irEnv L)) Q NoE h') :
    ∀ st, (((bodyOf (stAt 37)).drop 3).head?.bind fun s => (forB s)[0]?) = some st → Wp (MM w) A (execs (st :: rest) (irEnv L)) Q NoE h := by
  intro st hst
  cases hst
  walk_at "w"
  refine nc_cell (c := L + 1) S mn hn ?_
  walk_at "w"
  refine s_dlist r.hd S x1 (S.get m1) (by lia) fun c1 p1 h₂ v1 hv1 b1 S₂ => ?_
  walk_at "w"
  refine e_ListComp (hw := hw) (h₀ := h₀) (L := L) (m := m) (cl := [("near", L + 1)]) ?_ (hclos := by with_unfolding_all rfl)
  walk_at "w"
  refine compOn_d (src := (c1, p1) :: l) (l := []) r.hd (fun i ys l' => l' = [] ∧ BL ys (((k2.map (·.1)).take i).filter fun n => (valueAt k1 n).isNone)) (by rw [List.append_nil]; exact S₂) x2 (.tail _ m2) (by lia) ⟨rfl, .nil⟩ ?_ ?_
  · rintro i n t ys l' I o C oC D oD mc h₅ ⟨v, hkv⟩ ⟨rfl, hys⟩ hD hC S₅
    have hi := (List.getElem?_eq_some_iff.mp hkv).1
    have hkn : (k2.map (·.1))[i]? = some n := by rw [List.getElem?_map, hkv]; rfl
    refine go_name ?_
    refine as_name ?_
    refine c_store S₅ (.tail _ (List.mem_append_right _ (.head _))) hC fun oC1 h₆ hC1 u₆ => ?_
    have S₆ := u₆ _ (.tail (Up.app .head))
    clear S₅ hC
    have mm : ∀ {p}, p ∈ l → p ∈ (I, o) :: ((c1, p1) :: l ++ (C, oC1) :: (D, oD) :: []) := fun hp => .tail _ (List.mem_append_left _ (.tail _ hp))
    have mC : (C, oC1) ∈ (I, o) :: ((c1, p1) :: l ++ (C, oC1) :: (D, oD) :: []) := .tail _ (List.mem_append_right _ (.head _))
    have ht : ((k2.map (·.1)).take (i + 1)).filter (fun n => (valueAt k1 n).isNone) = ((k2.map (·.1)).take i).filter (fun n => (valueAt k1 n).isNone) ++ (if (valueAt k1 n).isNone then [n] else []) := by
      rw [List.take_add_one, hkn, List.filter_append]
      congr 1
      exact List.filter_cons
    refine tests_cons ?_
    refine t_Compare ?_
    refine c_local S₆ mC hC1 lkp_self ?_
    walk_at "w"
    refine c_cell (c := L + 1) S₆ (mm mn) hn ?_
    walk_at "w"
    refine s_dnotin x1 (S₆.get (mm m1)) ?_
    have e : (!(valueAt k1 n).isSome) = (valueAt k1 n).isNone := by cases valueAt k1 n <;> rfl
    rw [e]
    walk_at "w"
    refine ⟨fun hb => ?_, fun hb => ?_⟩
    · walk_at "w"
      refine c_local S₆ mC hC1 lkp_self ?_
      refine ⟨_, _, _, hC1, S₆, rfl, ?_⟩
      rw [ht, hb]
      exact hys.snoc ⟨_, rfl⟩
    · refine ⟨_, _, _, hC1, S₆, rfl, ?_⟩
      rw [ht, hb]
      rw [if_neg (by decide), List.append_nil]
      exact hys
  · rintro D oD ys l' h₅ hD hys ⟨rfl, hE⟩ S₅
    rw [show k2.length = (k2.map (·.1)).length by rw [List.length_map], List.take_length] at hE
    walk_at "w"
    have e1 : v1.length = k1.length := by rw [b1.1, List.length_map]
    refine s_addl S₅ hv1 (S₅.get (.tail _ (.head _))) hD (S₅.get (.head _)) (by lia) fun c3 p3 h₄ hv3 S₄ => ?_
    clear S₂ S₅ hv1 hD
    walk_at "w"
    have b3 : BL (v1 ++ ys) (keysOf k1 k2) := ⟨by unfold keysOf; rw [List.length_append, List.length_append, b1.1, hE.1], fun j v b h1 h2 => by
      unfold keysOf at h2
      rcases Nat.lt_or_ge j v1.length with hj | hj
      · rw [List.getElem?_append_left hj] at h1
        rw [List.getElem?_append_left (by rw [← b1.1]; exact hj)] at h2
        exact b1.2 j v b h1 h2
      · rw [List.getElem?_append_right hj] at h1
        rw [List.getElem?_append_right (by rw [← b1.1]; exact hj), ← b1.1] at h2
        exact hE.2 _ v b h1 h2⟩
    have hl24 : (v1 ++ ys).length ≤ 24 := by rw [List.length_append]; lia
    refine s_sorted S₄ (S₄.get (.head _)) hv3 b3 (by lia) fun c4 p4 h₆ vs' ls' hv4 b4 hp hs S₆ => ?_
    obtain rfl := sortB_is hp hs
    have S₆ : St w hw h₀ L h₆ m ((c4, p4) :: l) := S₆.sub (by rw [List.append_nil]; exact .cons₂ _ (.cons _ (.cons _ (.cons _ (List.Sublist.refl _)))))
    clear S₄ hv3
    walk_at "w"
    refine q _ c4 p4 vs' hv4 b4 ?_ (by assumption)
    rw [b4.1, hp.length_eq, ← b3.1]
    exact hl24
theorem dg_loop {w : World} {A : Around} {hw h₀ h : Heap} {L d1 d2 c R : Addr} {o1 o2 oc oR on : Obj} {k1 k2 : KV} {vs : List Value} {m : Loc} {tl k : Led} {acc : List R3} {rest : List Stmt} {Q : Flow → Heap → Prop}
    (r : Rm A 3) (S : St w hw h₀ L h m ((c, oc) :: (R, oR) :: (tl ++ k))) (x1 : DI w (d1, o1) k1) (m1 : (d1, o1) ∈ k) (x2 : DI w (d2, o2) k2) (m2 : (d2, o2) ∈ k) (z1 : KOk 12 k1) (z2 : KOk 12 k2) (mn : (L + 1, on) ∈ k) (hn : on.data = .cell (some (.ref d1))) (lf : lk m "far" = some (.ref d2))
    (lr : lk m "due" = some (.ref R)) (lc : lk m "names" = some (.ref c)) (hc : OLst oc vs) (hb : BL vs (sortB (keysOf k1 k2))) (hvl : vs.length ≤ 24) (hoR : OLst oR (refs tl)) (hE : Each RowD tl acc) (hz : tl.length ≤ 1000)
    (q : ∀ h' oR' tl' m', OLst oR' (refs tl') → Each RowD tl' (acc ++ rowsOf (sortB (keysOf k1 k2)) k1 k2) → tl'.length ≤ tl.length + 24 → lk m' "due" = some (.ref R) → (∀ x, x ∉ (["far", "due", "names", "name"] : List Str) → lk m' x = lk m x) → St w hw h₀ L h' m' ((R, oR') :: (tl' ++ k)) → Wp (MM w) A (execs rest (irEnv L)) Q NoE h') :
    ∀ st, (((bodyOf (stAt 37)).drop 3).head?.bind fun s => (forB s)[1]?) = some st → Wp (MM w) A (execs (st :: rest) (irEnv L)) Q NoE h := by
  intro st hst
  cases hst
  refine st_For ?_
  walk_at "w"
  generalize hns : sortB (keysOf k1 k2) = ns at *
  refine for_l (src := [(c, oc)]) r.hd (fun i m' l' => ∃ oR' tl', l' = (R, oR') :: (tl' ++ k) ∧ OLst oR' (refs tl') ∧ Each RowD tl' (acc ++ rowsOf (ns.take i) k1 k2) ∧ tl'.length ≤ tl.length + i ∧ lk m' "due" = some (.ref R) ∧ lk m' "far" = some (.ref d2) ∧ (∀ x, x ∉ (["far", "due", "names", "name"] : List Str) → lk m' x = lk m x)) S hc (.head _) ⟨oR, tl, rfl, hoR, by simpa [rowsOf] using hE, Nat.le_refl _, lr, lf, fun _ _ => rfl⟩ ?_ ?_
  · rintro i v m' l' I o h₃ hv ⟨oR', tl', rfl, hoR', hE', hl', lr', lf', lo⟩ hit S₃ J hJ
    have hi' : i < vs.length := (List.getElem?_eq_some_iff.mp hv).1
    have hi : i < ns.length := by rw [← hb.1]; exact hi'
    have hni := List.getElem?_eq_getElem hi
    obtain ⟨t, rfl⟩ := hb.2 i v _ hv hni
    have hrt := rows_take (a := k1) (b := k2) hni
    generalize ns[i] = n at *
    refine go_name ?_
    refine as_name ?_
    refine nc_store (fd := fd336) S₃ fun h₄ S₄ => ?_
    have lo' : ∀ x, x ∉ (["far", "due", "names", "name"] : List Str) → lk (put "name" (.bytes n.toArray t) m') x = lk m x := fun x hx => by
      rw [lkp_ne (fun e => hx (by rw [← e]; simp))]
      exact lo x hx
    clear S₃ S lo
    have mm : ∀ {p}, p ∈ k → p ∈ (I, o) :: ([(c, oc)] ++ (R, oR') :: (tl' ++ k)) := fun hp => .tail _ (mr (.tail _ (mr hp)))
    refine st_If ?_
    refine Wp_post (Q := fun b h' => b = (!likeV (getV k1 n) (getV k2 n)) ∧ St w hw h₀ L h' (put "name" (.bytes n.toArray t) m') ((I, o) :: ([(c, oc)] ++ (R, oR') :: (tl' ++ k)))) ?_ ?_
    · walk_at "w"
      refine nc_cell (c := L + 1) S₄ (mm mn) hn ?_
      refine s_mget x1 (S₄.get (mm m1)) ?_
      walk_at "w"
      refine s_dget x1 (S₄.get (mm m1)) ?_
      walk_at "w"
      refine s_mget x2 (S₄.get (mm m2)) ?_
      walk_at "w"
      refine s_dget x2 (S₄.get (mm m2)) ?_
      walk_at "w"
      refine c_like S₄.wd (r.mono (by decide)) (z1.get n) (z2.get n) fun h₅ k₅ => ?_
      have S₅ := S₄.grow k₅
      walk_at "w"
      exact ⟨rfl, S₅⟩
    rintro b h₅ ⟨rfl, S₅⟩
    clear S₄
    refine ⟨fun hb => ?_, fun hb => ?_⟩
    · have hb : likeV (getV k1 n) (getV k2 n) = false := by simpa using hb
      rw [hb, if_neg (by decide)] at hrt
      walk_at "w"
      refine s_mappend hoR' (S₅.get (.tail _ (mr (.head _)))) ?_
      walk_at "w"
      refine nc_cell (c := L + 1) S₅ (mm mn) hn ?_
      refine s_mget x1 (S₅.get (mm m1)) ?_
      walk_at "w"
      refine s_dget x1 (S₅.get (mm m1)) ?_
      walk_at "w"
      refine s_mget x2 (S₅.get (mm m2)) ?_
      walk_at "w"
      refine s_dget x2 (S₅.get (mm m2)) ?_
      walk_at "w"
      refine s_tuple S₅ (Nat.le_of_ble_eq_true rfl) fun T' oT' h₇ hT' S₇ => ?_
      walk_at "w"
      refine s_append S₇ hoR' (.tail _ (.tail _ (mr (.head _)))) (by rw [refs, List.length_map]; lia) fun oR'' h₈ hR'' u₈ => ?_
      have S₈ := u₈ _ (.tail (.tail (.tail .head)))
      walk_at "w"
      refine hJ _ _ ((R, oR'') :: ((tl' ++ [(T', oT')]) ++ k)) (S₈.perm ?_) ⟨oR'', tl' ++ [(T', oT')], rfl, by rw [refs_snoc]; exact hR'', ?_, by rw [List.length_append]; show _ + 1 ≤ _; lia, by walk_at "lk", by walk_at "lk", lo'⟩
      · have := (List.perm_middle (l₁ := (I, o) :: (c, oc) :: (R, oR'') :: tl') (a := (T', oT')) (l₂ := k)).symm
        simpa using this
      · rw [hrt, ← List.append_assoc]
        exact hE'.snoc ⟨_, hT'⟩
    · have hb : likeV (getV k1 n) (getV k2 n) = true := by simpa using hb
      rw [hb, if_pos rfl, List.append_nil] at hrt
      walk_at "w"
      exact hJ _ _ ((R, oR') :: (tl' ++ k)) S₅ ⟨oR', tl', rfl, hoR', by rw [hrt]; exact hE', by lia, by walk_at "lk", by walk_at "lk", lo'⟩
  · rintro m' l' h₃ ⟨oR', tl', rfl, hoR', hE', hl', lr', lf', lo⟩ S₃
    refine Seq_next (q _ oR' tl' m' hoR' ?_ (by lia) lr' lo (S₃.sub (List.sublist_cons_self _ _)))
    rw [hb.1, List.take_length] at hE'
    exact hE'

end
section
open PySem PySem.W PyProof.Rows PySem.Calls PySem.Spec PySem.SeqAt LCg
set_option Elab.async false
set_option linter.unusedVariables false
set_option maxRecDepth 100000
set_option maxHeartbeats 4000000

section
variable {w : World} {A : Around} {E : Value → Heap → Prop} {hw h₀ h : Heap} {L a C : Addr} {m mc : Loc} {led : Led} {env : Env} {rest : List Stmt} {scope : Scope} {cl : List (Str × Addr)} {oC : Obj}
theorem comp_useU {elt target iter : Expr} {ifs : List Expr} {pos : Pos} {fpos : Pos} {u : Value → Sem Unit} {Q : Value → Heap → Prop} (hif : ifs = [] ∨ ∃ c, ifs = [c])
    (hclos : closureFor scope env = pure cl) (hcell : ∀ y ∈ scope.names, y.2 ≠ .cell) (hkind : scope.kind = .function) (hnames : ∀ y ∈ scope.names, y.2 = .local → scope.names.lookup y.1 = some .local)
    (hs : ∀ x, foldedSetIterable iter env x = pure x)
    (x : Wp (MM w) A (eval iter env) (fun xv h₁ => Wp (MM w) A (pyIter xv) (fun it h₂ => CompOnU w A hw h₀ L m env elt target ifs scope cl (UseFin w A u Q E) it h₂) E h₁) E h) :
    Wp (MM w) A (comprehension (.ListComp elt [⟨target, iter, ifs, 0⟩] scope pos) scope env fpos (newList []) false (eval iter env) (some u)) Q E h :=
  comp_use (hw := hw) (h₀ := h₀) (L := L) (m := m) (u := some u) hif hclos hcell hkind hnames hs x
theorem e_CompUse {elt target iter : Expr} {ifs : List Expr} {pos : Pos} {u : Value → Sem Unit} {Q : Unit → Heap → Prop}
    (x : Wp (MM w) A (eval iter env) (fun xv h₁ => Wp (MM w) A (pyIter xv) (fun it h₂ => CompOnU w A hw h₀ L m env elt target ifs scope cl (UseFin w A u (fun _ h' => Q () h') E) it h₂) E h₁) E h)
    (hif : ifs = [] ∨ ∃ c, ifs = [c] := by first | exact .inl rfl | exact .inr ⟨_, rfl⟩) (hclos : closureFor scope env = pure cl := by with_unfolding_all rfl) (hcell : ∀ y ∈ scope.names, y.2 ≠ .cell := by decide +kernel) (hkind : scope.kind = .function := by with_unfolding_all rfl)
    (hnames : ∀ y ∈ scope.names, y.2 = .local → scope.names.lookup y.1 = some .local := by decide +kernel) (hs : ∀ x, foldedSetIterable iter env x = pure x := by intro _; with_unfolding_all rfl) :
    Wp (MM w) A (evalThenUse (.ListComp elt [⟨target, iter, ifs, 0⟩] scope pos) env u) Q E h := by
  rw [arm_evalThenUse_ListComp]
  exact Wp_bind (Wp_post (comp_useU hif hclos hcell hkind hnames hs x) fun _ h' q => Wp_pure q)
theorem compOn_lU {elt target : Expr} {ifs : List Expr} {U : Addr → Value → Heap → Prop} {src l : Led} {oa : Obj} {items : List Value} (hh : A.handled = none) (K : Nat → List Value → Led → Prop) (S : St w hw h₀ L h m (src ++ l)) (hv : OLst oa items) (hm : (a, oa) ∈ src) (hz : items.length ≤ 16777216) (hK : K 0 [] l)
    (turn : ∀ i v ys l I o C oC D oD mc h, items[i]? = some v → K i ys l → h.IsListIter I a (i + 1) → OLst oD ys → NsObj oC (lk mc) → St w hw h₀ L h m ((I, o) :: (src ++ (C, oC) :: (D, oD) :: l)) → CompBody w A hw h₀ L m env elt target ifs scope cl I src K i v ys o C D oD h)
    (done : ∀ C oC mc D oD ys l h', NsObj oC (lk mc) → OLst oD ys → K items.length ys l → St w hw h₀ L h' m ((C, oC) :: (D, oD) :: (src ++ l)) → U C (.ref D) h') : Wp (MM w) A (pyIter (.ref a)) (fun it h₂ => CompOnU w A hw h₀ L m env elt target ifs scope cl U it h₂) E h := by
  refine iter_list S hv (List.mem_append_left _ hm) fun I o h' hI S' => ?_
  have hne : a ≠ I := fun e => (List.nodup_cons.mp S'.nd).1 (List.mem_map.mpr ⟨(a, oa), List.mem_append_left _ hm, e⟩)
  have ha := S'.get (.tail _ (List.mem_append_left _ hm))
  refine ⟨I, _, items.toArray.size, _, _, src, l, o, K, rfl, Walks.list hh I a hne items.toArray, list_there, (fun b hb => ?_), by rw [List.size_toArray]; exact hz, S', ⟨hI, hv.at ha⟩, hK, (fun i v ys l o C oC D oD mc h hi hP hK hT hD hC S => ?_), fun C oC mc D oD ys l h' hC hD hys hK S => done C oC mc D oD ys l h' hC hD (by simpa using hK) S⟩
  · simp at hb
    rcases hb with rfl | rfl
    · exact .inl rfl
    · exact .inr (.inl (List.mem_map_of_mem (f := (·.1)) hm))
  · exact turn i v ys l I o C oC D oD mc h (by simpa using hP) hK hT.1 hD hC S
end
/- the list is stored in a name of a frame with cells -/
theorem use_store {w : World} {A : Around} {E : Value → Heap → Prop} {hw h₀ h : Heap} {L a C : Addr} {m mc : Loc} {led : Led} {fd : FuncData} {x : Str} {pos : Pos} {v : Value} {oC : Obj} {Q : Value → Heap → Prop} (S : St w hw h₀ L h m ((C, oC) :: led)) (hC : NsObj oC (lk mc))
    (q : ∀ h', St w hw h₀ L h' (put x v m) led → Q .none h') (hk : fd.scope.kind = .function := by with_unfolding_all rfl) (hl : (callEnvC fd L a).kindOf x = some .local := by with_unfolding_all rfl) :
    UseFin w A (assign (.Name x pos) (callEnvC fd L a)) Q E C v h := by
  unfold UseFin
  refine as_name ?_
  refine nc_store' S (fun h₂ S₂ => ?_) hk hl
  refine ⟨oC, mc, hC, S₂.get (.head _), fun h₃ hs => q h₃ (St.call (l := [(C, oC)]) (l' := []) S₂ ⟨fun b o hb e => hs.extBut b o (by simpa [adr] using hb) e, (fun p hp => nomatch hp), .nil⟩)⟩

end
section
/- rows of differences, read -/
noncomputable def rdv (r : R3) : Dv := .tup [.bytes r.1, dvOf r.2.1, dvOf r.2.2]
noncomputable def ScR (rs : List R3) : Prop := ∀ r ∈ rs, isSc r.2.1 = true ∧ isSc r.2.2 = true
theorem diff_sc {ps : List (KV × KV)} (h : ∀ p ∈ ps, KOk 12 p.1 ∧ KOk 12 p.2) : ScR (diffS ps) := fun r hr => by
  obtain ⟨p, hp, hr⟩ := List.mem_flatMap.mp hr
  obtain ⟨n, _, hn⟩ := List.mem_filterMap.mp hr
  obtain ⟨h1, h2⟩ := h p hp
  split at hn
  · cases hn
  · cases hn; exact ⟨h1.get n, h2.get n⟩
theorem rd_tup3 {h : Heap} {a : Addr} {o : Obj} {v₁ v₂ v₃ : Value} {d₁ d₂ d₃ : Dv} (ho : h.get? a = some o) (hv : OTup o [v₁, v₂, v₃]) (r₁ : Rd h v₁ d₁) (r₂ : Rd h v₂ d₂) (r₃ : Rd h v₃ d₃) : Rd h (.ref a) (.tup [d₁, d₂, d₃]) :=
  .tup ho hv rfl fun j v d h1 h2 => by
    match j with
    | 0 => cases h1; cases h2; exact r₁
    | 1 => cases h1; cases h2; exact r₂
    | 2 => cases h1; cases h2; exact r₃
    | j + 3 => cases h1
theorem rd_rows3 {h : Heap} {a : Addr} {o : Obj} {tl : Led} {rs : List R3} (ho : h.get? a = some o) (hv : OLst o (refs tl)) (hr : Each RowD tl rs) (hs : ScR rs) (hm : ∀ p ∈ tl, h.get? p.1 = some p.2) : Rd h (.ref a) (.lst (rs.map rdv)) :=
  .lst ho hv (by rw [refs, List.length_map, List.length_map, hr.len]) fun j v d h1 h2 => by
    obtain ⟨p, r, hp, _, hrj, rfl, t, hrow⟩ := hr.at h1
    rw [List.getElem?_map, hrj] at h2
    cases h2
    have := hs r (List.mem_of_getElem? hrj)
    exact rd_tup3 (hm p hp) hrow (.bytes _ _) (rd_sc this.1) (rd_sc this.2)
theorem cmp_rows3 : ∀ rs : List R3, ScR rs → Dv.cmpOkL (rs.map rdv) (rs.map rdv) = true
  | [], _ => rfl
  | r :: rs, h => by
    have h1 := h r (.head _)
    show ((true && ((dvOf r.2.1).cmpOk (dvOf r.2.1) && ((dvOf r.2.2).cmpOk (dvOf r.2.2) && true))) && Dv.cmpOkL (rs.map rdv) (rs.map rdv)) = true
    rw [cmp_rows3 rs fun x hx => h x (.tail _ hx), sc_ok h1.1 h1.1, sc_ok h1.2 h1.2]; rfl
theorem flat_rows3 : ∀ rs : List R3, ScR rs → Dv.flatL (rs.map rdv) 1 = true
  | [], _ => rfl
  | r :: rs, h => by
    have h1 := h r (.head _)
    show ((true && ((dvOf r.2.1).flat 0 && ((dvOf r.2.2).flat 0 && true))) && Dv.flatL (rs.map rdv) 1) = true
    rw [flat_rows3 rs fun x hx => h x (.tail _ hx), sc_flat h1.1, sc_flat h1.2]; rfl
theorem ScR.turn {rs : List R3} (h : ScR rs) : ScR (rs.map turnR) := fun r hr => by
  obtain ⟨q, hq, rfl⟩ := List.mem_map.mp hr
  exact ⟨(h q hq).2, (h q hq).1⟩
/- two lists of the same rows -/
theorem rows_eqv {h : Heap} {a : Addr} {rs : List R3} (hs : ScR rs) (ra : Rd h (.ref a) (.lst (rs.map rdv))) : (Dv.lst (rs.map rdv)).cmpOk (.lst (rs.map rdv)) = true ∧ (Dv.lst (rs.map rdv)).flat 2 = true ∧ (Dv.lst (rs.map rdv)).eqv (.lst (rs.map rdv)) = true :=
  ⟨cmp_rows3 rs hs, flat_rows3 rs hs, ra.det ra⟩
noncomputable def boolsR (rs : List R3) : List Value := rs.map fun r => .bool (isBoolD (dvOf r.2.1))
noncomputable def boolsD (rs : List R3) : Dv := .lst (rs.map fun r => .bool (isBoolD (dvOf r.2.1)))
theorem rd_bools {h : Heap} {a : Addr} {o : Obj} {rs : List R3} (ho : h.get? a = some o) (hv : OLst o (boolsR rs)) : Rd h (.ref a) (boolsD rs) :=
  .lst ho hv (by simp [boolsR]) fun j v d h1 h2 => by
    unfold boolsR at h1
    rw [List.getElem?_map] at h1 h2
    cases hr : rs[j]? with
    | none => rw [hr] at h1; cases h1
    | some r => rw [hr] at h1 h2; cases h1; cases h2; exact .bool _
theorem bools_ok (rs : List R3) : (boolsD rs).cmpOk (boolsD rs) = true ∧ (boolsD rs).flat 1 = true := by
  unfold boolsD
  constructor
  · show Dv.cmpOkL _ _ = true
    induction rs with
    | nil => rfl
    | cons r rs ih => show (true && Dv.cmpOkL _ _) = true; rw [ih]; rfl
  · show Dv.flatL _ 0 = true
    induction rs with
    | nil => rfl
    | cons r rs ih => show (true && Dv.flatL _ 0) = true; rw [ih]; rfl
noncomputable def catL : List Led → Led
  | [] => []
  | x :: r => (match r with | [] => x | y :: s => x ++ catL (y :: s))
theorem catL_eq (bs : List Led) : catL bs = bs.flatten := by
  induction bs with
  | nil => rfl
  | cons x r ih =>
    cases r with
    | nil => exact (List.append_nil x).symm
    | cons y s => exact congrArg (x ++ ·) ih
theorem perm_blocks {l l' : Led} (bs : List Led) (n : Nat) (is : List Nat) (h : is.Perm (List.range n)) (hn : bs.length = n) (e : l = catL bs) (e' : l' = catL (is.map fun i => bs.getD i [])) : l.Perm l' := by
  rw [e, e', catL_eq, catL_eq]
  exact (perm_ix (l := bs) [] n is h hn rfl).flatten
/- turned = [(name, b, a) for name, a, b in due] -/
theorem ir_turned {w : World} {A : Around} {hw h₀ h : Heap} {L R : Addr} {oR : Obj} {m : Loc} {tl k : Led} {rs : List R3} {rest : List Stmt} {Q : Flow → Heap → Prop}
    (r : Rm A 1) (S : St w hw h₀ L h m ((R, oR) :: (tl ++ k))) (lr : lk m "due" = some (.ref R)) (hoR : OLst oR (refs tl)) (hE : Each RowD tl rs) (hz : tl.length ≤ 100)
    (q : ∀ h' R' oR' tl', OLst oR' (refs tl') → Each RowD tl' (rs.map turnR) → St w hw h₀ L h' (put "turned" (.ref R') m) ((R', oR') :: (tl' ++ ((R, oR) :: (tl ++ k)))) → Wp (MM w) A (execs rest (irEnv L)) Q NoE h') :
    ∀ st, ((bodyOf (stAt 37)).drop 4).head? = some st → Wp (MM w) A (execs (st :: rest) (irEnv L)) Q NoE h := by
  intro st hst
  cases hst
  refine st_AssignC ?_
  refine e_CompUse (hw := hw) (h₀ := h₀) (L := L) (m := m) (cl := []) ?_ (hclos := by with_unfolding_all rfl)
  walk_at "w"
  refine compOn_lU (src := [(R, oR)]) (l := [] ++ (tl ++ k)) r.hd (fun i ys l' => ∃ tl', l' = tl' ++ (tl ++ k) ∧ ys = refs tl' ∧ Each RowD tl' ((rs.take i).map turnR)) S hoR (.head _) (by rw [refs, List.length_map]; lia) ⟨[], rfl, rfl, .nil⟩ ?_ ?_
  · rintro i v ys l' I o C oC D oD mc h₂ hv ⟨tl', rfl, rfl, hE'⟩ hit hD hC S₂
    obtain ⟨p, row, hp, hpi, hri, rfl, t, hrow⟩ := hE.at hv
    refine go_list hit ?_
    refine u_tuple r.hd (S₂.get (a := p.1) (o := p.2) (.tail _ (.tail _ (.tail _ (.tail _ (mr (ml hp))))))) hrow fun h₃ k₃ => ?_
    have S₃ := S₂.grow k₃
    refine a_cons ?_
    refine as_name ?_
    refine c_store S₃ (.tail _ (.tail _ (.head _))) hC fun oC1 h₄ hC1 u₄ => ?_
    have S₄ := u₄ _ (.tail (.tail .head))
    refine a_cons ?_
    refine as_name ?_
    refine c_store S₄ (.tail _ (.tail _ (.head _))) hC1 fun oC2 h₅ hC2 u₅ => ?_
    have S₅ := u₅ _ (.tail (.tail .head))
    refine a_cons ?_
    refine as_name ?_
    refine c_store S₅ (.tail _ (.tail _ (.head _))) hC2 fun oC3 h₆ hC3 u₆ => ?_
    have S₆ := u₆ _ (.tail (.tail .head))
    refine a_nil ?_
    clear S₂ S₃ S₄ S₅ hC hC1 hC2
    refine tests_nil ?_
    refine ⟨fun _ => ?_, fun hb => nomatch hb⟩
    refine e_Tuple ?_
    refine sp_cons ?_
    refine c_local S₆ (.tail _ (.tail _ (.head _))) hC3 ((lkp_ne (by decide)).trans ((lkp_ne (by decide)).trans lkp_self)) ?_
    refine sp_cons ?_
    refine c_local S₆ (.tail _ (.tail _ (.head _))) hC3 lkp_self ?_
    refine sp_cons ?_
    refine c_local S₆ (.tail _ (.tail _ (.head _))) hC3 ((lkp_ne (by decide)).trans lkp_self) ?_
    refine sp_nil ?_
    refine s_tuple S₆ (Nat.le_of_ble_eq_true rfl) fun T oT h₇ hT S₇ => ?_
    refine ⟨oC3, _, (tl' ++ [(T, oT)]) ++ (tl ++ k), hC3, S₇.perm ?_, tl' ++ [(T, oT)], rfl, (by rw [refs_snoc]), ?_⟩
    · have := (List.perm_middle (l₁ := (I, o) :: (R, oR) :: (C, oC3) :: (D, oD) :: tl') (a := (T, oT)) (l₂ := tl ++ k)).symm
      simpa using this
    · rw [List.take_add_one, hri, List.map_append]
      exact hE'.snoc ⟨t, hT⟩
  · rintro C oC mc D oD ys l' h₂ hC hD ⟨tl', rfl, rfl, hE'⟩ S₂
    have el : (refs tl).length = rs.length := by rw [refs, List.length_map, hE.len]
    rw [el, List.take_length] at hE'
    have S₂ := S₂.perm (l' := (C, oC) :: (D, oD) :: (tl' ++ ((R, oR) :: (tl ++ k)))) (.cons _ (.cons _ (by
      have := (List.perm_middle (l₁ := tl') (a := (R, oR)) (l₂ := tl ++ k)).symm
      simpa using this)))
    exact use_store S₂ hC fun h₃ S₃ => q h₃ D oD tl' hD hE' S₃

end
section
theorem cells336 {n : Nat} : cellsFrom (n + 1) fd336.scope.names [] = ([("near", n + 1)] : List (Str × Addr)) := by with_unfolding_all rfl
/- the two descriptions, the dicts that they were made of, an empty list for what is due -/
theorem ir_made {w : World} {A : Around} {hw h₀ h : Heap} {L wa ca cn : Addr} {ow oc on : Obj} {Q : Flow → Heap → Prop}
    (r : Rm A 5) (hW : WellAt ow oc ca) (S : St w hw h₀ L h [("well", .ref wa)] ([(wa, ow), (ca, oc)] ++ [(cn, on)]))
    (q : ∀ h' ow' x1 x2 f1 f2 R of1 of2 oR i1 i2 es1 es2 ks1 ks2 m', WellAt ow' oc ca → InfoL w x1 i1 ks1 → InfoL w x2 i2 ks2 → OLst of1 (refs es1) → OLst of2 (refs es2) → Each (DK w 12) es1 ks1 → Each (DK w 12) es2 ks2 → es1.length = 4 → es2.length = 4 → OLst oR [] →
      lk m' "one" = some (.ref x1) → lk m' "first" = some (.ref f1) → lk m' "other" = some (.ref x2) → lk m' "second" = some (.ref f2) → lk m' "due" = some (.ref R) →
      St w hw h₀ L h' m' ([(f1, of1), (f2, of2)] ++ ((cn, on) :: (R, oR) :: ([] ++ ([(wa, ow'), (ca, oc)] ++ (i2 ++ (es2 ++ (i1 ++ es1))))))) → Wp (MM w) A (execs ((bodyOf (stAt 37)).drop 3) (irEnv L)) Q NoE h') :
    Wp (MM w) A (execs (bodyOf (stAt 37)) (irEnv L)) Q NoE h := by
  refine st_AssignTup ?_
  walk_at "w"
  refine c_law_info S.wd r S.own' S.nd' hW fun h₂ ow₂ T oT x1 i1 f1 of1 es1 ks1 hW₂ hT I1 hf1 hE1 he1 X => ?_
  have S₂ := St.call S X
  clear S X hW
  have hm1 : (T, oT) ∈ [(wa, ow₂), (ca, oc)] ++ (T, oT) :: (i1 ++ (f1, of1) :: es1) ++ [(cn, on)] := ml (mr (.head _))
  refine u_tuple r.hd (S₂.get hm1) hT fun h₃ k₃ => ?_
  have S₃ : St w hw h₀ L h₃ _ ([(wa, ow₂), (ca, oc)] ++ ((i1 ++ (f1, of1) :: es1) ++ [(cn, on)])) := (S₂.grow k₃).sub (.cons₂ _ (.cons₂ _ (.cons _ (List.Sublist.refl _))))
  clear S₂ hm1
  walk_at "w"
  rename St _ _ _ _ _ _ _ => S₄
  clear S₃
  refine c_law_info S₄.wd r S₄.own' S₄.nd' hW₂ fun h₅ ow₅ T' oT' x2 i2 f2 of2 es2 ks2 hW₅ hT' I2 hf2 hE2 he2 X => ?_
  have S₅ := St.call S₄ X
  clear S₄ X hW₂
  have hm2 : (T', oT') ∈ [(wa, ow₅), (ca, oc)] ++ (T', oT') :: (i2 ++ (f2, of2) :: es2) ++ ((i1 ++ (f1, of1) :: es1) ++ [(cn, on)]) := ml (mr (.head _))
  refine u_tuple r.hd (S₅.get hm2) hT' fun h₆ k₆ => ?_
  have S₆ : St w hw h₀ L h₆ _ ([(wa, ow₅), (ca, oc)] ++ ((i2 ++ (f2, of2) :: es2) ++ ((i1 ++ (f1, of1) :: es1) ++ [(cn, on)]))) := (S₅.grow k₆).sub (.cons₂ _ (.cons₂ _ (.cons _ (List.Sublist.refl _))))
  clear S₅ hm2
  walk_at "w"
  rename St _ _ _ _ _ _ _ => S₇
  clear S₆
  refine s_list S₇ (Nat.le_of_ble_eq_true rfl) fun R oR h₈ hoR S₈ => ?_
  clear S₇
  have S₈ := S₈.perm (l' := [(f1, of1), (f2, of2)] ++ ((cn, on) :: (R, oR) :: ([] ++ ([(wa, ow₅), (ca, oc)] ++ (i2 ++ (es2 ++ (i1 ++ es1))))))) (perm_blocks [[(R, oR)], [(wa, ow₅), (ca, oc)], i2, [(f2, of2)], es2, i1, [(f1, of1)], es1, [(cn, on)]] 9 [6, 3, 8, 0, 1, 2, 4, 5, 7] (by decide) rfl (by rw [List.append_assoc i2, List.append_assoc i1]; rfl) rfl)
  walk_at "w"
  rename St _ _ _ _ _ _ _ => S₉
  exact q _ ow₅ x1 x2 f1 f2 R of1 of2 oR i1 i2 es1 es2 ks1 ks2 _ hW₅ I1 I2 hf1 hf2 hE1 hE2 he1 he2 hoR rfl rfl rfl rfl rfl S₉
theorem dk_ok {w : World} {p : Addr × Obj} {k : KV} (x : DK w 12 p k) : KOk 12 k := ⟨x.2.1, x.1.nodup, x.2.2⟩
theorem dk_all {w : World} {es : Led} {ks : List KV} (x : Each (DK w 12) es ks) : ∀ c ∈ ks, KOk 12 c := by
  induction x with
  | nil => exact fun _ h => nomatch h
  | cons y _ ih => exact List.forall_mem_cons.mpr ⟨dk_ok y, ih⟩
/- the rows that are due -/
theorem ir_due {w : World} {A : Around} {hw h₀ h : Heap} {L cn f1 f2 R : Addr} {on of1 of2 oR : Obj} {es1 es2 kk : Led} {ks1 ks2 : List KV} {m : Loc} {Q : Flow → Heap → Prop} {x1 x2 : Value} {v₀ : Option Value} {rest : List Stmt}
    (r : Rm A 4) (hcn : cn = L + 1) (hon : on.data = .cell v₀) (hf1 : OLst of1 (refs es1)) (hf2 : OLst of2 (refs es2)) (hE1 : Each (DK w 12) es1 ks1) (hE2 : Each (DK w 12) es2 ks2) (he1 : es1.length = 4) (he2 : es2.length = 4) (hoR : OLst oR [])
    (hk1 : ∀ p ∈ es1, p ∈ kk) (hk2 : ∀ p ∈ es2, p ∈ kk)
    (l1 : lk m "one" = some x1) (l2 : lk m "first" = some (.ref f1)) (l3 : lk m "other" = some x2) (l4 : lk m "second" = some (.ref f2)) (l5 : lk m "due" = some (.ref R))
    (S : St w hw h₀ L h m ([(f1, of1), (f2, of2)] ++ ((cn, on) :: (R, oR) :: ([] ++ kk))))
    (q : ∀ h' oR' tl m', OLst oR' (refs tl) → Each RowD tl (diffS (ks1.zip ks2)) → tl.length ≤ 96 → lk m' "one" = some x1 → lk m' "other" = some x2 → lk m' "due" = some (.ref R) →
      St w hw h₀ L h' m' ((R, oR') :: (tl ++ kk)) → Wp (MM w) A (execs rest (irEnv L)) Q NoE h') :
    ∀ st, ((bodyOf (stAt 37)).drop 3).head? = some st → Wp (MM w) A (execs (st :: rest) (irEnv L)) Q NoE h := by
  intro st hst
  cases hst
  refine st_For ?_
  walk_at "w"
  have z1 : (refs es1).length = 4 := by rw [refs, List.length_map, he1]
  have z2 : (refs es2).length = 4 := by rw [refs, List.length_map, he2]
  have zp : (ks1.zip ks2).length = 4 := by rw [List.length_zip, ← hE1.len, ← hE2.len, he1, he2]; rfl
  refine for_zip r.hd (fun i m' l' => ∃ on' v' oR' tl, l' = (cn, on') :: (R, oR') :: (tl ++ kk) ∧ on'.data = .cell v' ∧ OLst oR' (refs tl) ∧ Each RowD tl (diffS ((ks1.zip ks2).take i)) ∧ tl.length ≤ 24 * i ∧ lk m' "one" = some x1 ∧ lk m' "other" = some x2 ∧ lk m' "due" = some (.ref R)) S hf1 hf2 (z1.trans z2.symm) ⟨on, v₀, oR, [], rfl, hon, hoR, .nil, Nat.le_refl _, l1, l3, l5⟩ ?_ ?_
  · rintro i x y m' l' T oT zl h₂ hx hy ⟨on', v', oR', tl, rfl, hon', hoR', hE', hl', k1, k3, k5⟩ hT S₂ J hJ
    obtain ⟨p1, ka, hp1, hpi1, hka, rfl, y1⟩ := hE1.at hx
    obtain ⟨p2, kb, hp2, hpi2, hkb, rfl, y2⟩ := hE2.at hy
    have hi4 : i < 4 := by have := (List.getElem?_eq_some_iff.mp hpi1).1; lia
    have hki : (ks1.zip ks2)[i]? = some (ka, kb) := by rw [List.getElem?_zip_eq_some]; exact ⟨hka, hkb⟩
    refine u_tuple' r.hd hT fun h₃ k₃ => ?_
    have S₃ := S₂.grow k₃
    clear S₂ S hx hy
    refine a_cons ?_
    refine as_name ?_
    refine nc_cellset (c := L + 1) (oc := on') S₃ (by rw [← hcn]; exact .tail _ (mr (mr (.head _)))) hon' fun on'' h₄ hon'' u₄ => ?_
    rw [← hcn] at u₄
    have S₄ := u₄ ((T, oT) :: (zl ++ ([(f1, of1), (f2, of2)] ++ ((cn, on'') :: (R, oR') :: (tl ++ kk))))) (.tail (Up.app (.tail (.tail .head))))
    clear S₃ u₄
    refine a_cons ?_
    refine as_name ?_
    refine nc_store (fd := fd336) S₄ fun h₅ S₅ => ?_
    clear S₄
    refine a_nil ?_
    have mk1 := hk1 _ hp1
    have mk2 := hk2 _ hp2
    have d1 : (p1.1, p1.2) ∈ (T, oT) :: (zl ++ ([(f1, of1), (f2, of2)] ++ ((cn, on'') :: (R, oR') :: (tl ++ kk)))) := .tail _ (mr (mr (.tail _ (.tail _ (mr mk1)))))
    have d2 : (p2.1, p2.2) ∈ (T, oT) :: (zl ++ ([(f1, of1), (f2, of2)] ++ ((cn, on'') :: (R, oR') :: (tl ++ kk)))) := .tail _ (mr (mr (.tail _ (.tail _ (mr mk2)))))
    have d3 : (L + 1, on'') ∈ (T, oT) :: (zl ++ ([(f1, of1), (f2, of2)] ++ ((cn, on'') :: (R, oR') :: (tl ++ kk)))) := by rw [← hcn]; exact .tail _ (mr (mr (.head _)))
    refine dg_names (r.mono (by decide)) S₅ y1.1 d1 y2.1 d2 y1.2.2 y2.2.2 d3 hon'' (by walk_at "lk") (fun h₆ c oc vs hc hb hvl S₆ => ?_) _ rfl
    have S₆ := S₆.perm (l' := (c, oc) :: (R, oR') :: (tl ++ ((T, oT) :: (zl ++ ([(f1, of1), (f2, of2)] ++ ((cn, on'') :: kk)))))) (perm_blocks [[(c, oc)], [(T, oT)], zl, [(f1, of1), (f2, of2)], [(cn, on'')], [(R, oR')], tl, kk] 8 [0, 5, 6, 1, 2, 3, 4, 7] (by decide) rfl rfl rfl)
    clear S₅ d1 d2 d3
    have d1 : (p1.1, p1.2) ∈ (T, oT) :: (zl ++ ([(f1, of1), (f2, of2)] ++ ((cn, on'') :: kk))) := .tail _ (mr (mr (.tail _ mk1)))
    have d2 : (p2.1, p2.2) ∈ (T, oT) :: (zl ++ ([(f1, of1), (f2, of2)] ++ ((cn, on'') :: kk))) := .tail _ (mr (mr (.tail _ mk2)))
    have d3 : (L + 1, on'') ∈ (T, oT) :: (zl ++ ([(f1, of1), (f2, of2)] ++ ((cn, on'') :: kk))) := by rw [← hcn]; exact .tail _ (mr (mr (.head _)))
    refine dg_loop (r.mono (by decide)) S₆ y1.1 d1 y2.1 d2 (dk_ok y1) (dk_ok y2) d3 hon'' (by walk_at "lk") (by walk_at "lk") (by walk_at "lk") hc hb hvl hoR' hE' (by lia) (fun h₇ oR'' tl' m'' hR'' hE'' hl'' k5' lo S₇ => ?_) _ rfl
    have S₇ := S₇.perm (l' := (T, oT) :: (zl ++ ([(f1, of1), (f2, of2)] ++ ((cn, on'') :: (R, oR'') :: (tl' ++ kk))))) (perm_blocks [[(R, oR'')], tl', [(T, oT)], zl, [(f1, of1), (f2, of2)], [(cn, on'')], kk] 7 [2, 3, 4, 5, 0, 1, 6] (by decide) rfl rfl rfl)
    refine execs_nil ?_
    refine Turn_next (hJ _ m'' ((cn, on'') :: (R, oR'') :: (tl' ++ kk)) (S₇.sub (List.sublist_cons_self _ _)) ⟨on'', _, oR'', tl', rfl, hon'', hR'', by rw [diffS_take hki]; exact hE'', by lia, ?_, ?_, k5'⟩)
    · rw [lo "one" (by decide)]; walk_at "lk"
    · rw [lo "other" (by decide)]; walk_at "lk"
  · rintro m' l' h₂ ⟨on', v', oR', tl, rfl, hon', hoR', hE', hl', k1, k3, k5⟩ S₂
    rw [z1, ← zp, List.take_length] at hE'
    rw [z1] at hl'
    exact Seq_next (q _ oR' tl m' hoR' hE' hl' k1 k3 k5 (S₂.sub (List.sublist_append_of_sublist_right (.cons _ (List.Sublist.refl _)))))

end
section
/- [isinstance(row[1], bool) for row in rows] -/
theorem ir_bools {w : World} {A : Around} {E : Value → Heap → Prop} {hw h₀ h : Heap} {L R : Addr} {oR : Obj} {m : Loc} {tl k : Led} {rs : List R3} {x : Str} {p1 p2 p3 p4 p5 p6 p7 p8 p9 : Pos} {Q : Value → Heap → Prop}
    (r : Rm A 1) (S : St w hw h₀ L h m k) (hm : (R, oR) ∈ k) (lr : lk m x = some (.ref R)) (hoR : OLst oR (refs tl)) (hE : Each RowD tl rs) (hs : ScR rs) (htl : ∀ p ∈ tl, p ∈ k) (hz : tl.length ≤ 100) (hx : (irEnv L).kindOf x = some .local) (hd : (x == ("__debug__" : Str)) = false)
    (hf : foldedSetIterable (.Name x p8) (irEnv L) = pure)
    (q : ∀ h' B oB, OLst oB (boolsR rs) → St w hw h₀ L h' m ((B, oB) :: k) → Q (.ref B) h') :
    Wp (MM w) A (eval (.ListComp (.Call (.Name "isinstance" p1) [.Subscript (.Name "row" p2) (.Constant (.int 1) 0 p3) p4, .Name "bool" p5] [] p6) [⟨.Name "row" p7, .Name x p8, [], 0⟩] { kind := .function, names := [(".0", .local), ("row", .local), ("isinstance", .globalImplicit), ("bool", .globalImplicit)], isGenerator := false, isCoroutine := false } p9) (irEnv L)) Q E h := by
  refine e_ListComp (hw := hw) (h₀ := h₀) (L := L) (m := m) (cl := []) ?_ (hclos := by with_unfolding_all rfl) (hs := fun x => by rw [hf])
  refine nc_local' S lr ?_ (hl := hx) (hd := hd)
  refine compOn_l (src := k) (l := []) r.hd (fun i ys l' => l' = [] ∧ ys = boolsR (rs.take i)) (by rw [List.append_nil]; exact S) hoR hm (by rw [refs, List.length_map]; lia) ⟨rfl, rfl⟩ ?_ ?_
  · rintro i v ys l' I o C oC D oD mc h₂ hv ⟨rfl, rfl⟩ hit hD hC S₂
    obtain ⟨p, row, hp, hpi, hri, rfl, t, hrow⟩ := hE.at hv
    refine go_name ?_
    refine as_name ?_
    refine c_store S₂ (.tail _ (List.mem_append_right _ (.head _))) hC fun oC1 h₄ hC1 u₄ => ?_
    have S₄ := u₄ _ (.tail (Up.app .head))
    clear S₂ hC
    refine tests_nil ?_
    refine ⟨fun _ => ?_, fun hb => nomatch hb⟩
    walk_at "w"
    refine c_local S₄ (.tail _ (List.mem_append_right _ (.head _))) hC1 lkp_self ?_
    walk_at "w"
    refine s_titem (k := 1) hrow (S₄.get (.tail _ (List.mem_append_left _ (htl _ hp)))) rfl (Nat.le_of_ble_eq_true rfl) ?_
    walk_at "w"
    refine s_isbool (hs row (List.mem_of_getElem? hri)).1 ?_
    walk_at "w"
    refine ⟨oC1, _, [], hC1, S₄, rfl, ?_⟩
    unfold boolsR
    rw [List.take_add_one, hri, List.map_append]; rfl
  · rintro D oD ys l' h₂ hD hys ⟨rfl, rfl⟩ S₂
    have el : (refs tl).length = rs.length := by rw [refs, List.length_map, hE.len]
    rw [el, List.take_length] at hD
    exact q _ D oD hD (by simpa using S₂)
theorem zip_turn {α : Type} : ∀ a b : List α, (a.zip b).map (fun p => (p.2, p.1)) = b.zip a
  | [], [] => rfl
  | [], _ :: _ => rfl
  | _ :: _, [] => rfl
  | x :: a, y :: b => by rw [List.zip_cons_cons, List.map_cons, zip_turn a b]; rfl
theorem zip_same {α : Type} : ∀ a : List α, a.zip a = a.map fun k => (k, k)
  | [] => rfl
  | x :: a => by rw [List.zip_cons_cons, zip_same a]; rfl
theorem zip_ok {a b : List KV} (ha : ∀ k ∈ a, KOk 12 k) (hb : ∀ k ∈ b, KOk 12 k) : ∀ p ∈ a.zip b, KOk 12 p.1 ∧ KOk 12 p.2 := fun p hp =>
  have := List.of_mem_zip (a := p.1) (b := p.2) hp
  ⟨ha _ this.1, hb _ this.2⟩
theorem ir_end {w : World} {A : Around} {hw h₀ h : Heap} {L x1 x2 R R' : Addr} {oR oR' : Obj} {m : Loc} {tl tl' i1 i2 k : Led} {ks1 ks2 : List KV} {Q : Flow → Heap → Prop}
    (r : Rm A 4) (S : St w hw h₀ L h m k) (lr : lk m "due" = some (.ref R)) (lt : lk m "turned" = some (.ref R')) (l1 : lk m "one" = some (.ref x1)) (l2 : lk m "other" = some (.ref x2))
    (hoR : OLst oR (refs tl)) (hE : Each RowD tl (diffS (ks1.zip ks2))) (hz : tl.length ≤ 96) (hoR' : OLst oR' (refs tl')) (hE' : Each RowD tl' ((diffS (ks1.zip ks2)).map turnR))
    (mR : (R, oR) ∈ k) (mt : ∀ p ∈ tl, p ∈ k) (mR' : (R', oR') ∈ k) (mt' : ∀ p ∈ tl', p ∈ k) (I1 : InfoL w x1 i1 ks1) (I2 : InfoL w x2 i2 ks2) (m1 : ∀ p ∈ i1, p ∈ k) (m2 : ∀ p ∈ i2, p ∈ k) (z1 : ∀ c ∈ ks1, KOk 12 c) (z2 : ∀ c ∈ ks2, KOk 12 c)
    (q : ∀ h' m' l', St w hw h₀ L h' m' (l' ++ k) → Q (.ret (.bool true)) h') :
    Wp (MM w) A (execs ((bodyOf (stAt 37)).drop 5) (irEnv L)) Q NoE h := by
  have hsc := diff_sc (zip_ok z1 z2)
  have hul := r.un
  have et : diffS (ks2.zip ks1) = (diffS (ks1.zip ks2)).map turnR := by rw [← zip_turn]; exact diff_turn (zip_ok z1 z2)
  have e1 : diffS (ks1.zip ks1) = [] := by rw [zip_same]; exact diff_self z1
  have e2 : diffS (ks2.zip ks2) = [] := by rw [zip_same]; exact diff_self z2
  refine st_Assign ?_
  walk_at "w"
  refine c_differences S.wd (r.mono (by decide)) I1 (fun p hp => S.get (m1 p hp)) I2 (fun p hp => S.get (m2 p hp)) z1 z2 fun h₂ B oB tb hoB hEB hzB X => ?_
  have S₂ := S.call0 X
  clear X S
  generalize diffS (ks1.zip ks2) = rs at *
  walk_at "w"
  rename St _ _ _ _ _ _ _ => S₃
  clear S₂
  have S₃ : St w hw h₀ L _ _ ((B, oB) :: (tb ++ k)) := S₃
  have hlen : rs.length ≤ 96 := by rw [← hE.len]; exact hz
  have mm : ∀ {p}, p ∈ k → p ∈ (B, oB) :: (tb ++ k) := fun hp => .tail _ (List.mem_append_right _ hp)
  have mb : ∀ p ∈ tb, p ∈ tb ++ k := fun p hp => List.mem_append_left _ hp
  refine st_If ?_
  refine Wp_post (Q := fun b h' => b = false ∧ St w hw h₀ L h' (put "rows" (.ref B) m) ((B, oB) :: (tb ++ k))) ?_ ?_
  · walk_at "w"
    have rA := rd_rows3 (S₃.get (.head _)) hoB hEB hsc fun p hp => S₃.get (.tail _ (mb p hp))
    have rB := rd_rows3 (S₃.get (mm mR)) hoR hE hsc fun p hp => S₃.get (mm (mt p hp))
    obtain ⟨c1, c2, c3⟩ := rows_eqv hsc rA
    refine d_ne (n := 2) rA rB c1 c2 (by lia) ?_
    rw [c3, Bool.not_true]
    walk_at "w"
    refine ir_bools (r.mono (by decide)) S₃ (.head _) (by walk_at "lk") hoB hEB hsc (fun p hp => .tail _ (mb p hp)) (by lia) (by with_unfolding_all rfl) (by decide) (by with_unfolding_all rfl) fun h₄ C1 oC1 hC1 S₄ => ?_
    walk_at "w"
    refine ir_bools (r.mono (by decide)) S₄ (.tail _ (mm mR)) (by walk_at "lk") hoR hE hsc (fun p hp => .tail _ (mm (mt p hp))) (by lia) (by with_unfolding_all rfl) (by decide) (by with_unfolding_all rfl) fun h₅ C2 oC2 hC2 S₅ => ?_
    walk_at "w"
    obtain ⟨b1, b2⟩ := bools_ok rs
    have rC := rd_bools (S₅.get (.tail _ (.head _))) hC1
    refine d_ne (n := 1) rC (rd_bools (S₅.get (.head _)) hC2) b1 b2 (by lia) ?_
    rw [rC.det rC, Bool.not_true]
    walk_at "w"
    exact ⟨rfl, S₅.sub (.cons _ (.cons _ (List.Sublist.refl _)))⟩
  rintro b h₄ ⟨rfl, S₄⟩
  clear S₃
  have S₄ := S₄.sub (l' := k) (.cons _ (List.sublist_append_right _ _))
  refine ⟨(fun hb => nomatch hb), fun _ => ?_⟩
  clear mm mb hoB hEB hzB
  walk_at "w"
  refine c_differences S₄.wd (r.mono (by decide)) I2 (fun p hp => S₄.get (m2 p hp)) I1 (fun p hp => S₄.get (m1 p hp)) z2 z1 fun h₅ B1 oB1 tb1 hoB1 hEB1 hzB1 X => ?_
  have S₅ := S₄.call0 X
  clear X S₄
  rw [et] at hEB1
  walk_at "w"
  have rA := rd_rows3 (S₅.get (.head _)) hoB1 hEB1 hsc.turn fun p hp => S₅.get (.tail _ (List.mem_append_left _ hp))
  have rB := rd_rows3 (S₅.get (.tail _ (List.mem_append_right _ mR'))) hoR' hE' hsc.turn fun p hp => S₅.get (.tail _ (List.mem_append_right _ (mt' p hp)))
  obtain ⟨c1, c2, c3⟩ := rows_eqv hsc.turn rA
  refine d_eq (n := 2) rA rB c1 c2 (by lia) ?_
  rw [c3]
  have S₅ := S₅.sub (l' := k) (.cons _ (List.sublist_append_right _ _))
  clear rA rB c1 c2 c3 hoB1 hEB1
  walk_at "w"
  refine c_differences S₅.wd (r.mono (by decide)) I1 (fun p hp => S₅.get (m1 p hp)) I1 (fun p hp => S₅.get (m1 p hp)) z1 z1 fun h₆ B2 oB2 tb2 hoB2 hEB2 hzB2 X => ?_
  have S₆ := S₅.call0 X
  clear X S₅
  rw [e1] at hEB2
  walk_at "w"
  refine s_list S₆ (Nat.le_of_ble_eq_true rfl) fun E1 oE1 h₇ hoE1 S₇ => ?_
  refine d_eq (n := 2) (rd_rows3 (S₇.get (.tail _ (.head _))) hoB2 hEB2 (fun _ h => nomatch h) fun p hp => S₇.get (.tail _ (.tail _ (List.mem_append_left _ hp)))) (rd_rows3 (tl := []) (rs := []) (S₇.get (.head _)) hoE1 .nil (fun _ h => nomatch h) (fun _ h => nomatch h)) rfl rfl (by lia) ?_
  have S₇ := S₇.sub (l' := k) (.cons _ (.cons _ (List.sublist_append_right _ _)))
  clear S₆ hoB2 hEB2
  rw [show (Dv.lst (List.map rdv [])).eqv (Dv.lst (List.map rdv [])) = true from rfl]
  walk_at "w"
  refine c_differences S₇.wd (r.mono (by decide)) I2 (fun p hp => S₇.get (m2 p hp)) I2 (fun p hp => S₇.get (m2 p hp)) z2 z2 fun h₈ B3 oB3 tb3 hoB3 hEB3 hzB3 X => ?_
  have S₈ := S₇.call0 X
  clear X S₇
  rw [e2] at hEB3
  walk_at "w"
  refine s_list S₈ (Nat.le_of_ble_eq_true rfl) fun E2 oE2 h₉ hoE2 S₉ => ?_
  refine d_eq (n := 2) (rd_rows3 (S₉.get (.tail _ (.head _))) hoB3 hEB3 (fun _ h => nomatch h) fun p hp => S₉.get (.tail _ (.tail _ (List.mem_append_left _ hp)))) (rd_rows3 (tl := []) (rs := []) (S₉.get (.head _)) hoE2 .nil (fun _ h => nomatch h) (fun _ h => nomatch h)) rfl rfl (by lia) ?_
  exact q _ _ [] (S₉.sub (.cons _ (.cons _ (List.sublist_append_right _ _))))
theorem c_infos_right {w : World} {hw h : Heap} {A : Around} {Q : Value → Heap → Prop} {E : Value → Heap → Prop} {wa ca : Addr} {ow oc : Obj}
    (D : Wo w hw h) (r : Rm A 6) (hl : ∀ p ∈ ([(wa, ow), (ca, oc)] : Led), h.get? p.1 = some p.2 ∧ hw.get? p.1 = none) (nd : (adr [(wa, ow), (ca, oc)]).Nodup) (hW : WellAt ow oc ca)
    (q : ∀ h' ow', WellAt ow' oc ca → Step h [(wa, ow), (ca, oc)] h' [(wa, ow'), (ca, oc)] → Q (.bool true) h') :
    Wp (MM w) A (call (.ref 336) [.ref wa] []) Q E h := by
  refine enter_c (body := bodyOf (stAt 37)) (binds := [("well", .ref wa)]) D [(wa, ow), (ca, oc)] hl nd (kf336 _) (kc336 _) r.dep rfl rfl rfl [("well", .ref wa)] (by with_unfolding_all exact lk_one _ _) (fun x hx => by obtain rfl := List.mem_singleton.mp hx; exact .inl (by with_unfolding_all rfl)) ?_ ?_ rfl rfl rfl
  · rw [cells336]; exact look_one
  intro h₁ cl e1 e2 S
  rw [cells336] at e1 e2
  obtain ⟨on, rfl, hon⟩ := led_one e1 (e2 "near" (h.objs.size + 1) rfl)
  have hon : on.data = .cell none := hon
  have r5 := (r : Rm A (5 + 1)).deeper (env := callEnvC fd336 h.objs.size 336)
  have fin : ∀ {h' m' l'}, St w hw (hideAll h (adr [(wa, ow), (ca, oc)])) h.objs.size h' m' l' → Step h [(wa, ow), (ca, oc)] h' l' := fun S => St.step S
  generalize hideAll h (adr [(wa, ow), (ca, oc)]) = h₀ at *
  generalize A.deeper (callEnvC fd336 h.objs.size 336) = A' at *
  generalize h.objs.size = L at *
  have S : St w hw h₀ L h₁ [("well", .ref wa)] ([(wa, ow), (ca, oc)] ++ [(L + 1, on)]) := S.perm (List.perm_append_comm (l₁ := [(L + 1, on)]))
  refine ir_made r5 hW S fun h₂ ow₂ x1 x2 f1 f2 R of1 of2 oR i1 i2 es1 es2 ks1 ks2 m hW₂ I1 I2 hf1 hf2 hE1 hE2 he1 he2 hoR l1 l2 l3 l4 l5 S₂ => ?_
  have z1 := dk_all hE1
  have z2 := dk_all hE2
  refine ir_due (r5.mono (by decide)) rfl hon hf1 hf2 hE1 hE2 he1 he2 hoR (fun p hp => mr (mr (mr (mr hp)))) (fun p hp => mr (mr (ml hp))) l1 l2 l3 l4 l5 S₂ (fun h₃ oR₃ tl m₃ hoR₃ hE₃ hz₃ n1 n3 n5 S₃ => ?_) _ rfl
  refine ir_turned (r5.mono (by decide)) S₃ n5 hoR₃ hE₃ (by lia) (fun h₄ R' oR' tl' hoR' hE' S₄ => ?_) _ rfl
  refine ir_end (r5.mono (by decide)) S₄ (by walk_at "lk") (by walk_at "lk") (by walk_at "lk") (by walk_at "lk") hoR₃ hE₃ hz₃ hoR' hE' (.tail _ (mr (.head _))) (fun p hp => .tail _ (mr (.tail _ (ml hp)))) (.head _) (fun p hp => .tail _ (ml hp)) I1 I2 (fun p hp => .tail _ (mr (.tail _ (mr (mr (mr (mr (ml hp)))))))) (fun p hp => .tail _ (mr (.tail _ (mr (mr (ml hp)))))) z1 z2 fun h₅ m₅ l' S₅ => ?_
  refine q h₅ ow₂ hW₂ (fin (S₅.sub ?_))
  refine List.sublist_append_of_sublist_right (.cons _ (List.sublist_append_of_sublist_right (.cons _ (List.sublist_append_of_sublist_right ?_))))
  exact List.sublist_append_left _ _

end
section
theorem St.callL {w : World} {hw h₀ h h' : Heap} {L : Addr} {m : Loc} {l l' k : Led} {oL : Obj} {sl : Array (Option Value)} (S : St w hw h₀ L h m (l ++ k)) (hoL : h.get? L = some oL) (x : Step h ((L, oL) :: l) h' ((L, { oL with slots := sl }) :: l')) :
    St w hw h₀ L h' m (l' ++ k) := by
  have memF : ∀ a ∈ adr l, a ≠ L ∧ h₀.get? a = none := fun a ha => by
    obtain ⟨p, hp, rfl⟩ := List.mem_map.mp ha
    exact (S.N p (List.mem_append_left _ hp)).2
  have ndx := x.nd
  obtain ⟨nd1, nd2⟩ := List.nodup_cons.mp ndx
  have ndS := S.nd
  rw [List.map_append, List.nodup_append] at ndS
  have news : ∀ p ∈ l', h'.get? p.1 = some p.2 ∧ p.1 ≠ L ∧ h₀.get? p.1 = none ∧ p.1 ∉ adr k := fun p hp => by
    have hne : p.1 ≠ L := fun e => nd1 (by have := List.mem_map_of_mem (f := (·.1)) hp; rw [e] at this; exact this)
    obtain ⟨h1, h2⟩ := x.own p (.tail _ hp)
    refine ⟨h1, hne, ?_⟩
    rcases h2 with h2 | h2
    · rcases List.mem_cons.mp h2 with h2 | h2
      · exact absurd h2 hne
      · exact ⟨(memF _ h2).2, fun hk => ndS.2.2 p.1 h2 p.1 hk rfl⟩
    · refine ⟨?_, fun hk => ?_⟩
      · cases e : h₀.get? p.1 with
        | none => rfl
        | some o => have := S.F.keep _ _ e; rw [h2] at this; cases this
      · obtain ⟨q, hq, e⟩ := List.mem_map.mp hk
        have := (S.N q (List.mem_append_right _ hq)).1
        rw [e, h2] at this; cases this
  refine ⟨S.D, ⟨?_, fun b o e => ?_, S.F.above⟩, fun p hp => ?_, ?_⟩
  · obtain ⟨o, es, ep, ho, hd, r⟩ := S.F.ns
    rw [hoL] at ho; cases ho
    exact ⟨_, es, ep, (x.own (L, { oL with slots := sl }) (.head _)).1, hd, r⟩
  · refine x.same b o (fun hm => ?_) (S.F.keep b o e)
    rcases List.mem_cons.mp hm with rfl | hm
    · exact absurd (Heap.lt_size e) (Nat.not_lt.mpr S.F.above)
    · rw [(memF b hm).2] at e; cases e
  · rcases List.mem_append.mp hp with hp | hp
    · exact ⟨(news p hp).1, (news p hp).2.1, (news p hp).2.2.1⟩
    · have h1 := S.N p (List.mem_append_right _ hp)
      refine ⟨x.same _ _ (fun hm => ?_) h1.1, h1.2⟩
      rcases List.mem_cons.mp hm with hm | hm
      · exact h1.2.1 hm
      · exact ndS.2.2 p.1 hm p.1 (List.mem_map_of_mem hp) rfl
  · rw [List.map_append, List.nodup_append]
    refine ⟨nd2, ndS.2.1, fun a ha b hb e => ?_⟩
    subst e
    obtain ⟨p, hp, rfl⟩ := List.mem_map.mp ha
    exact (news p hp).2.2.2 hb
theorem s_lslice {w : World} {A : Around} {E : Value → Heap → Prop} {hw h₀ h : Heap} {L a : Addr} {m : Loc} {led : Led} {value slice : Expr} {its : Array Value} {n : Int} {t : Tok} {Q : Value → Heap → Prop} (S : St w hw h₀ L h m led) (hl : h.IsList a its) (hz : its.size ≤ 16777216)
    (q : ∀ c oc h', OLst oc (slicePick its none (some n) none).toList → St w hw h₀ L h' m ((c, oc) :: led) → Q (.ref c) h')
    (hs : subscripted slice false (.ref a) (.ref h.objs.size) = operate [.ref h.objs.size, .ref a] (getItem (.ref a) (.ref h.objs.size)) := by with_unfolding_all rfl) (ht : ∀ r, letTemporaryGo value (.ref a) r = pure () := by intro _; with_unfolding_all rfl) :
    Wp (MM w) A (subscriptTail value slice (.ref a) (.ref h.objs.size)) Q E (h.push { cls := .type "slice", data := .fields #[.none, .int n t, .none] }) := Wp_of fun g d tk os =>
  slice_list (s := ⟨h, g, d, tk, os⟩) S.F S.N hl .none (.int n t) (fun h' F' N' => ⟨⟨rfl, rfl, rfl⟩, q _ _ h' ⟨0, by rw [Array.toArray_toList]⟩ ⟨S.D, F', N', by
    rw [List.map_cons]
    refine List.nodup_cons.mpr ⟨fun hm => ?_, S.nd⟩
    obtain ⟨p, hp, e⟩ := List.mem_map.mp hm
    have h1 : @LT.lt Nat instLTNat p.1 h.objs.size := Heap.lt_size (S.get hp)
    have h2 : @Eq Nat p.1 (h.objs.size + 1) := e
    rw [h2] at h1
    exact absurd h1 (Nat.not_lt.mpr (Nat.le_succ _))⟩⟩) hs ht (by rw [sizeLine_eq]; exact hz)
theorem c_law {w : World} {h : Heap} {A : Around} {Q : Value → Heap → Prop} {E : Value → Heap → Prop} {Ls : Addr} {vs : List Value} {ns : List Int}
    (D : Wo w h h) (r : Rm A 14) (hf : A.frames = some []) (hLs : h.IsList Ls vs.toArray) (hI : IntsAre vs ns) (hn : ns.length ≤ 63) (q : ∀ h', h.StaysIn h' → Q (.bool true) h') : Wp (MM w) A (call (.ref 341) [.ref Ls] []) Q E h := by
  refine enter_ret (body := bodyOf (stAt 38)) (binds := [("script", .ref Ls)]) D [] (fun _ h => nomatch h) .nil (kf341 _) (kc341 _) r.dep (fun s hs => BindsTo.of_eq (by rfl)) rfl (fun h₁ S => ?_) (locs rfl) (by decide +kernel) rfl rfl rfl
  have S : St w h h h.objs.size h₁ [("script", .ref Ls)] [] := S
  have r13 := (r : Rm A (13 + 1)).deeper (env := callEnv fd341 h.objs.size 341)
  have hf' := Around.frames_deeper (env := callEnv fd341 h.objs.size 341) hf
  generalize A.deeper (callEnv fd341 h.objs.size 341) = A' at *
  generalize h.objs.size = L at *
  refine st_Assign ?_
  refine e_List ?_
  refine sp_cons ?_
  refine e_ListComp (hw := h) (h₀ := h) (L := L) (m := [("script", .ref Ls)]) (cl := []) ?_ (hclos := by with_unfolding_all rfl)
  walk_at "w"
  have h63 : (slicePick vs.toArray none (some 63) none).toList.length ≤ 63 := by
    rw [(slice_ints_uptoW hI (y := 63) (by decide)).length, List.length_take]
    exact Nat.min_le_left _ _
  have hIn : ∀ (i : Nat) (v : Value), (slicePick vs.toArray none (some 63) none).toList[i]? = some v → ∃ n t, v = .int n t := fun i v hv => by
    obtain ⟨n, t, e, _⟩ := (slice_ints_uptoW hI (y := 63) (by decide)).at i v hv
    exact ⟨n, t, e⟩
  refine s_lslice S (let ⟨o, e, hc, n, hd⟩ := hLs; ⟨o, S.base e, hc, n, hd⟩) (by rw [List.size_toArray, hI.length]; lia) fun c oc h₂ hc S₂ => ?_
  generalize (slicePick vs.toArray none (some 63) none).toList = cs at *
  refine compOn_l (src := [(c, oc)]) (l := []) r13.hd (fun i ys l' => l' = [] ∧ IntCells ys) S₂ hc (.head _) (by lia) ⟨rfl, fun _ h => nomatch h⟩ ?_ ?_
  · rintro i v ys l' I o C oC D oD mc h₄ hv ⟨rfl, hys⟩ hit hD hC S₄
    obtain ⟨n, t, rfl⟩ := hIn i v hv
    refine go_name ?_
    refine as_name ?_
    refine c_store S₄ (.tail _ (.tail _ (.head _))) hC fun oC1 h₅ hC1 u₅ => ?_
    have S₅ := u₅ _ (.tail (.tail .head))
    refine tests_nil ?_
    refine ⟨fun _ => ?_, fun hb => nomatch hb⟩
    refine e_BinOp ?_
    refine c_local S₅ (.tail _ (.tail _ (.head _))) hC1 lkp_self ?_
    walk_at "w"
    refine i_mod (by decide) fun _ => ?_
    refine ⟨oC1, _, [], hC1, S₅, rfl, fun u hu => ?_⟩
    rcases List.mem_append.mp hu with hu | hu
    · exact hys u hu
    · obtain rfl := List.mem_singleton.mp hu
      obtain ⟨d, _, e⟩ := fmod_nat n 2147483647 (by decide)
      exact ⟨d, _, by rw [show n.fmod 2147483647 = (d : Int) from e]⟩
  rintro ca cb cs' l' h₃ hcs hlen ⟨rfl, hci⟩ S₃
  have S₃ : St w h h L h₃ _ [(ca, cb)] := S₃.sub (.cons₂ _ (List.nil_sublist _))
  walk_at "w"
  refine s_list S₃ (Nat.le_of_ble_eq_true rfl) fun wa ow h₄ how S₄ => ?_
  walk_at "w"
  rename St _ _ _ _ _ _ _ => S₅
  clear S₃ S₄
  have hW : WellAt ow cb ca := ⟨0, 8585, cs', _, _, how, hcs, hci, Nat.le_trans hlen h63, by decide⟩
  have S₅ : St w h h L _ _ ([(wa, ow), (ca, cb)] ++ []) := S₅
  refine c_delays_right S₅.wd (r13.mono (by decide)) S₅.own' S₅.nd' hW fun h₆ ow₆ hW₆ X => ?_
  have S₆ := St.call S₅ X
  clear S₅ X hW how hcs hci
  walk_at "w"
  obtain ⟨oL, es, ep, hoL, hdL, _⟩ := id S₆.F.ns
  have hL : h.get? L = none := by
    cases e : h.get? L with
    | none => rfl
    | some o => exact absurd (Heap.lt_size e) (Nat.not_lt.mpr S₆.F.above)
  have nd6 : (adr ([(L, oL)] ++ [(wa, ow₆), (ca, cb)])).Nodup := List.nodup_cons.mpr ⟨fun hm => by
    obtain ⟨p, hp, e⟩ := List.mem_map.mp hm
    exact (S₆.N p (List.mem_append_left _ hp)).2.1 e, S₆.nd'⟩
  refine c_most_right (fr := [(L, oL)]) S₆.wd (r13.mono (by decide)) (fun p hp => ?_) nd6 hW₆ ⟨_, hf', fun env he => ?_⟩ (fun p hp vs e => ?_) fun h₇ fr' ow₇ u hW₇ X => ?_
  · cases hp with
    | head => exact ⟨hoL, hL⟩
    | tail _ hp => exact S₆.own' p hp
  · obtain rfl := List.mem_singleton.mp he
    exact ⟨(fun x => nomatch x), L, rfl, .head _⟩
  · obtain rfl := List.mem_singleton.mp hp
    rw [hdL] at e; cases e
  cases u with
  | cons sl u =>
  cases u
  have S₇ : St w h h L h₇ _ ([(wa, ow₇), (ca, cb)] ++ []) := St.callL S₆ hoL X
  clear S₆ X hW₆ hoL hdL
  walk_at "w"
  refine c_infos_right S₇.wd (r13.mono (by decide)) S₇.own' S₇.nd' hW₇ fun h₈ ow₈ hW₈ X => ?_
  have S₈ := St.call S₇ X
  exact q _ S₈.stay
theorem main (w : World) (h : Heap) (L : Addr) (vs : List Value) (ns : List Int) (D : Wd w h) (hL : h.IsList L vs.toArray) (hI : IntsAre vs ns) (hn : ns.length ≤ 63) :
    Wp (model pw w) callerA (call (.ref 341) [.ref L] []) (fun v h' => v = .bool true ∧ h.StaysIn h') (fun _ _ => False) h :=
  c_law ⟨D, fun _ _ e => e⟩ ⟨rfl, by decide, by decide, rfl⟩ rfl hL hI hn fun h' k => ⟨rfl, k⟩

end
end
section
open PySem PySem.W PyProof.Rows PySem.Calls PySem.Spec
set_option Elab.async false
set_option linter.unusedVariables false
set_option maxRecDepth 100000
set_option maxHeartbeats 0

/- a thread of the caller's ends: said of the stacks that wpB speaks of -/
theorem ends_B {prog : Program} {w : World} {t : Sem Fin} {s : Shared} {R : Result → Shared → Prop} (hz : s.asleep)
    (h : wpB (model prog w) callerA t (fun fin s' => ∃ f, fin = .done f ∧ (R (.ok f) s' ∧ leftWithCleanup s'.gens = false)) (fun e s' => R (.error e) s' ∧ leftWithCleanup s'.gens = false) s) :
    ∃ n r s₁ s₂, schedN (denote table) prog w n (.single s ⟨t, .builtin "claim.caller" {}, default, []⟩) = .halted (outcomeOf r) s₂ ∧ s₂.forget = s₁.forget ∧ R r s₁ ∧ s₂.heap.life = s.heap.life := by
  have x := h _ default caller_in (by decide +kernel) (fun _ h => nomatch h)
  obtain ⟨n, r, s₁, s₂, hs, hn, hf, hR⟩ := wp_halts_full (M := model prog w) (R := R) hz (Sem.wp_mono _ _ _ (fun fin p s' hfin => by
    obtain ⟨f, rfl, q⟩ := hfin
    exact q) (fun _ _ _ q => q) default s x)
  exact ⟨n, r, s₁, s₂, hs, hf, hR, runN_life _ _ _ hn⟩
theorem mem_if {b : Bool} {x n : Str} (h : n ∈ (if b then [x] else [])) : n = x := by
  cases b with
  | true => exact List.mem_singleton.mp h
  | false => exact nomatch h
theorem holds_B {r : OpenRow} {q : Program} {loose : List Str} {Xt : Shared → Bool} {XP : (Str → Option Value) → Heap → Prop} {α : Type} {Yf : Shared → α} {Ya : World → α} {YP : World → Heap → Prop} {d : DefRec} {kwd : List (Str × Expr)} {N : Nat}
    (left : LeftO r.prog q loose Xt Yf Ya N) (hY : ∀ w s, Yf s = Ya w → YP w s.heap) (hYk : ∀ w h h', YP w h → (∀ b o, h.get? b = some o → h'.get? b = some o) → YP w h')
    (hX : ∀ s, Xt s = true → XP (s.heap.nsMap mainGlobals) s.heap) (hXk : ∀ mg h h', XP mg h → (∀ b o, h.get? b = some o → h'.get? b = some o) → XP mg h')
    (hdef : defOf q r.name = some (d, kwd)) (hp : r.prog.theDef r.name = some (d.params, d.body, d.scope)) (hk : kwWritten? d.params.kwonlyargs d.params.kw_defaults = some kwd) (hRf : ∀ s, Xt s = true → RecFacts r.records s.heap) (hwr : r.writes = false)
    (k1 : r.wellSaid = true) (ok : (chainsOk q && opensWell r.prog && (frees r.toRowW && r.within.isEmpty)) = true) (hb : r.prog.bare) (hw : r.toRowW.promised)
    (call : ∀ (w : World) (s₀ s₁ : Shared) (mg mb : Str → Option Value), Ground q loose r.records XP w s₀ mg mb s₁.heap → YP w s₁.heap → ∀ a : Addr, mg d.name = some (.ref a) → s₁.gens = #[] →
      ∀ (args : List WData) (vals : List Value) (as : List Addr), r.claim.pre args = true → WData.layableAll args = true → ReadsAllW r.records (classAt s₀.heap) s₁.heap vals args as → WellAll w.params s₁.heap vals args → (∀ a ∈ as, (a == sysModules) = false) →
        wpB (model r.prog w) callerA (PySem.call (.ref a) vals) (fun v s' => GoodWG r.claim (classAt s₀.heap) (ExcName.means s₀.heap) args s₁ (.ok (.ret v)) s') (fun e s' => GoodWG r.claim (classAt s₀.heap) (ExcName.means s₀.heap) args s₁ (.error e) s') s₁) : r.Holds := by
  simp only [Bool.and_eq_true] at ok
  obtain ⟨⟨hch, ho⟩, hfr, hin⟩ := ok
  obtain ⟨hsame, hu, ha, hap, hm⟩ := frees_parts hfr
  have seen := left.behind (XP := fun mg h => XP mg h ∧ RecFacts r.records h) (fun s hs => ⟨hX s hs, hRf s hs⟩) hch
  refine ⟨k1, hw, ⟨hb, ho, by show r.makers.map _ = []; rw [hm]; rfl⟩, hw.witness, fun w => ⟨(seen w).1, fun s' hs' => ?_⟩⟩
  refine gh fun C2 k2 => ?_
  obtain ⟨s₀, hf, hg0, s, hT, hz, hgens, hg, G', y⟩ := (seen w).2 s' hs'
  have G : Ground q loose [] XP w s (s.heap.nsMap mainGlobals) (s.heap.nsMap builtinsNs) s.heap := { G' with X := G'.X.1 }
  have RF : RecFacts r.records s.heap := G'.X.2
  refine k2 ⟨s₀, hf, hg0, s, hT, fun n hn => ?_, RF.1, RF.2.1, fun args hpre hlay ord hord => ?_⟩
  · obtain rfl : n = r.name := mem_if hn
    exact pinned_of_view hg G hdef hp hk
  have hgens : s.gens = #[] := Array.eq_empty_of_size_eq_zero (beq_iff_eq.mp hgens)
  have G := RF.ground G
  refine gh fun CC kk => ?_
  obtain ⟨⟨vs, s₁⟩, hlaid⟩ := Option.isSome_iff_exists.mp (layAllW_isSome (P := w.params) (ord := ord) G.has args r.args s (pre_splitW hpre).1)
  have keeps := layAllW_keeps _ _ _ hlaid
  have rest := layAllW_rest _ _ _ hlaid
  obtain ⟨as, hrd, hi, hold⟩ := reads_layAllW hord _ _ _ hlaid hlay s₁.heap (fun _ _ e => e)
  have L : Laid r.records w s s₁ args vs as := ⟨⟨ord, hord, hlaid⟩, hrd, hi, hold, keeps, rest.1.trans hgens, rest.2.2.1⟩
  have G₁ := G.keeps hXk keeps
  obtain ⟨a, o, pm, cd, doc, dV, kV, e1, _, _, _, _⟩ := G₁.fn hdef
  have run := call w s s₁ _ _ G₁ (hYk _ _ _ (hY w s y) keeps) a (defOf_name hdef ▸ e1) L.gens args vs as hpre hlay L.reads L.well (L.low G.low)
  have done : ∀ res s₂, GoodWG r.claim (classAt s.heap) (ExcName.means s.heap) args s₁ res s₂ → (r.claim.Ends s args vs s₁ res s₂ ∧ s₂.os = s.os) ∧ leftWithCleanup s₂.gens = false := fun res s₂ g =>
    have z := g.laid (c := r.claim) hsame (List.isEmpty_iff.mp hin) (ident_freeW hu ha hap) L
    ⟨⟨z.1, z.2.1⟩, leftWithCleanup_false_of_bare z.2.2⟩
  obtain ⟨n, res, t₁, t₂, hs, hfo, ⟨hE, hos⟩, hlife⟩ := ends_B (prog := r.prog) (w := w) (R := fun res s₂ => r.claim.Ends s args vs s₁ res s₂ ∧ s₂.os = s.os) (t := do match ← nsGet mainNs r.name with
      | some f => do ret (← PySem.call f vs)
      | none => unsupported "claim.caller:no-such-global") (Shared.asleep_of_life rest.2.2.2 hz) (wpB_bind (wpB_of (wpAny_nsGet G₁.T.g (by
    rw [e1]
    exact wpB_bind (wpB_mono run (fun v s' g => wpB_of (wpAny_pure ⟨_, rfl, done _ _ g⟩)) fun e s' g => done _ _ g)))))
  obtain ⟨eh, _, _, eo, _⟩ := Shared.forget_eq hfo
  have hE := hE.congr eh
  rw [← eo] at hos
  refine kk ⟨vs, s₁, hlaid, n, _, t₂, hs, ?_, (fun _ i x hx => by rw [hgens] at hx; simp at hx), (fun e => by rw [hwr] at e; cases e), by rw [hlife, rest.2.2.2], Shared.rest_eq hos⟩
  clear kk CC
  rcases hE with ⟨v, hr, c1, c2, c3, c4, c5⟩ | ⟨e, ob, cls, hr, c1, c2, c3, c4, c5⟩
  · exact .inl ⟨v, by rw [hr]; rfl, c1, c2, c3, fun b o y _ => c4 b o y, c5⟩
  · exact .inr ⟨e, ob, cls, by rw [hr]; rfl, c1, c2, c3, c4, fun b o y _ => c5 b o y⟩
theorem fa_is {w : World} {h : Heap} {mg : Str → Option Value} {fa : Addr} (X : (KF w.params).In h) (G : h.Ns mainGlobals mg) (e : mg "law" = some (.ref fa)) : fa = 341 := by
  have := mg_of (v := .ref 341) (n := "law") X G (by kernel_rfl)
  rw [this] at e
  cases e
  rfl
theorem said_look : looksOpen PySem.Challenge.rw_og0258_01.row.prog = true := by
  unfold looksOpen
  refine look_both (look_both (look_both (look_both (look_both ?_ ?_) ?_) ?_) ?_) ?_ <;> decide +kernel
theorem said_part : OpenRow.partSaid PySem.Challenge.rw_og0258_01.row = true := by
  unfold OpenRow.partSaid
  iterate 13 (refine look_both ?_ (by decide +kernel))
  exact said_look
theorem said_all : OpenLaw.wellSaid PySem.Challenge.rw_og0258_01 = true := by
  unfold OpenLaw.wellSaid
  iterate 18 (refine look_both ?_ (by decide +kernel))
  unfold OpenRow.wellSaid
  iterate 2 (refine look_both ?_ (by decide +kernel))
  exact said_part

end
end Mine
set_option maxHeartbeats 0
open PySem PySem.W PyProof.Rows PySem.Calls PySem.Spec
theorem PySem.Challenge.cw_og0258_01_holds : PySem.Challenge.rw_og0258_01.Holds := by
  w_on
  refine holds_law Mine.said_all fun said => ?_
  refine Mine.holds_B (q := Mine.q1) (loose := Mine.loose1) (Xt := fun s => xlAt Mine.q1 [] s && recOk [] s) (XP := XL Mine.q1 []) (Yf := Hook.obs Mine.HK) (Ya := Hook.val Mine.HK) (YP := Hook.says Mine.HK) (N := 6000) Mine.l1 (Hook.of Mine.HK) (Hook.keeps Mine.HK) (fun s e => xl_of s (Bool.and_eq_true_iff.mp e).1) XL.keeps (by rfl) (by rfl) (by rfl) (fun s e => recFacts_of (Bool.and_eq_true_iff.mp e).2) (by rfl) (by first | assumption | decide +kernel) (by decide +kernel) ⟨rfl, rfl, rfl, rfl, rfl, by decide +kernel⟩ ?hw ?hc
  case hw => w_witness2
  intro w s₀ s₁ mg mb G Y fa hmg hg args vals as hpre hlay hrd hwl hlo
  refine Ground.open G ?_
  intro T B D TE TW
  wrow_args hpre hlay hrd hwl hlo
  rename_i ns _ _ _ _ _ _ _ L vs _ hL _ _ _ hI _ hlen _
  have X : (Mine.KF w.params).In s₁.heap := PySem.W.kIn_of Y
  obtain rfl := Mine.fa_is X T.g hmg
  refine Mine.wpB_mono ((Mine.main w s₁.heap L vs ns ⟨X, ⟨_, _, _, T⟩⟩ hL hI (by lia)).run s₁ rfl) (fun v s' q => ?_) (fun e s' q => q.2.elim)
  obtain ⟨⟨q1, q2, q3⟩, rfl, q5⟩ := q
  refine GoodW.toG ⟨.inl ⟨_, .bool true, [], rfl, ?_, .bool true, ?_, fun _ => ⟨.nil, fun _ h => nomatch h⟩⟩, q5, q3, q1.trans hg⟩
  · exact raisesW_false (by wrow_none_raised)
  · with_unfolding_all rfl
