import PyProof.Rows.All
import Wide.All
import OpenK.AllK
import Wide.FinOn
import Lean
import PySem.Challenge.RW_nz0030_01
open PySem PySem.W PySem.Calls PyProof.Rows
set_option Elab.async false
set_option linter.unusedVariables false
set_option linter.unusedSimpArgs false
set_option maxRecDepth 100000
set_option compiler.extract_closed false
set_option genSizeOf false
set_option genInjectivity false
set_option bootstrap.genMatcherCode false
set_option tactic.hygienic false
set_option maxHeartbeats 4000000
namespace Nz
local macro_rules | `(tactic| omega) => `(tactic| first | lia | omega +splitDisjunctions)
section
noncomputable abbrev pw : Program := PySem.Challenge.pw_nz0030_01
noncomputable def nthS : List Stmt → Nat → Stmt
  | [], _ => .Pass ⟨0, 0, 0, 0⟩
  | s :: _, 0 => s
  | _ :: r, n + 1 => nthS r n
noncomputable def bodyC : Stmt → List Stmt
  | .ClassDef _ _ _ b _ _ _ _ _ _ _ => b
  | _ => []
noncomputable def tp (i : Nat) : Stmt := nthS pw.main.body i
noncomputable def mt (i j : Nat) : Stmt := nthS (bodyC (tp i)) j
noncomputable def kr (a : Addr) : Value := .ref a
noncomputable def ks (x : Str) (t : Nat) : Value := .str x t
noncomputable def kn (i : Int) (t : Nat) : Value := .int i t
noncomputable def ke (P : Params) (x : Str) (t : Nat) (v : Value) : DictEntry := ⟨PyData.keyHash P x, .str x t, v⟩
noncomputable def fnO (st : Stmt) (q : Str) (dV pm cdv : Value) (cl : List (Str × Addr)) (ct : Value) : Obj := match st with
  | .FunctionDef nm args b _ _ _ scope _ _ _ => ⟨.type "function", none, .func { name := nm, qualname := q, params := args, body := .stmts b, scope := scope, globals := 3, closure := cl, defaults := dV, kwdefaults := .none, doc := .none, pyModule := pm, annotations := none, code := cdv, closureTuple := ct, builtins := 0 }, #[]⟩
  | _ => ⟨.none, none, .plain, #[]⟩
noncomputable def KF (P : Params) : Frag := [
  (2, ⟨.none, none, .dict #[ke P "type.__subclasses__.Exception.0" 254 (kn 68 0), ke P "type.__subclasses__.Exception.n" 255 (kn 1 0)] 2, #[]⟩),
  (3, ⟨.type "dict", none, .dict #[ke P "__name__" 165 (ks "law_nz0030_01" 745), ke P "__doc__" 166 (.none), ke P "__package__" 167 (.none), ke P "__loader__" 168 (.builtin "__main__.__loader__#opaque"), ke P "__spec__" 169 (.none), ke P "__annotations__" 170 (kr 6), ke P "__builtins__" 171 (kr 4), ke P "__file__" 173 (ks "/claim/cut.py" 172), ke P "__cached__" 174 (.none), ke P "_wall" 193 (kr 21), ke P "range_of" 203 (kr 28), ke P "least" 210 (kr 35), ke P "greatest" 217 (kr 42), ke P "FdError" 257 (kr 68), ke P "LimitFault" 273 (kr 81), ke P "Flat" 338 (kr 128), ke P "MOST_SHOWN" 342 (kn 1000 341), ke P "within_figures" 349 (kr 139), ke P "TRUTHS" 354 (kr 141), ke P "TURNED" 373 (kr 142), ke P "is_made" 381 (kr 149), ke P "is_truth" 388 (kr 156), ke P "sum_of" 395 (kr 163), ke P "plus" 401 (kr 168), ke P "contrary" 408 (kr 175), ke P "common_of" 418 (kr 182), ke P "Gatherer" 559 (kr 276), ke P "Functions" 744 (kr 416), ke P "_law_draw" 757 (kr 425), ke P "_law_rows" 763 (kr 430), ke P "_law_domain" 772 (kr 437), ke P "_law_number" 783 (kr 444), ke P "_law_worth" 794 (kr 451), ke P "_law_is_ahead" 805 (kr 458), ke P "_law_holds" 811 (kr 463), ke P "_law_speaks_of" 819 (kr 470), ke P "_law_known" 825 (kr 475), ke P "_law_is_pair_right" 831 (kr 480), ke P "law" 837 (kr 485)] 39, #[]⟩),
  (20, ⟨.type "code", none, .fields #[ks "_wall" 187, ks "_wall" 188, ks "/claim/cut.py" 189, kn 1 0, kn 1 0, kn 0 0, kn 0 0, kn 3 0, kr 15, .bool true, kn 181 0, kr 16, .none, kr 17, kr 18, kr 19, kn 191 0, kn 1 0, ks "/claim/cut.py" 192], #[]⟩),
  (21, fnO (tp 0) "_wall" (.none) (ks "__main__" 164) (kr 20) [] (.none)),
  (27, ⟨.type "code", none, .fields #[ks "range_of" 196, ks "range_of" 197, ks "/claim/cut.py" 198, kn 5 0, kn 2 0, kn 0 0, kn 0 0, kn 3 0, kr 22, .bool true, kn 181 0, kr 23, .none, kr 24, kr 25, kr 26, kn 201 0, kn 5 0, ks "/claim/cut.py" 202], #[]⟩),
  (28, fnO (tp 2) "range_of" (.none) (ks "fdsolve.domains" 194) (kr 27) [] (.none)),
  (34, ⟨.type "code", none, .fields #[ks "least" 204, ks "least" 205, ks "/claim/cut.py" 206, kn 7 0, kn 1 0, kn 0 0, kn 0 0, kn 3 0, kr 29, .bool true, kn 181 0, kr 30, .none, kr 31, kr 32, kr 33, kn 208 0, kn 7 0, ks "/claim/cut.py" 209], #[]⟩),
  (35, fnO (tp 3) "least" (.none) (ks "fdsolve.domains" 194) (kr 34) [] (.none)),
  (41, ⟨.type "code", none, .fields #[ks "greatest" 211, ks "greatest" 212, ks "/claim/cut.py" 213, kn 9 0, kn 1 0, kn 0 0, kn 0 0, kn 3 0, kr 36, .bool true, kn 181 0, kr 37, .none, kr 38, kr 39, kr 40, kn 215 0, kn 9 0, ks "/claim/cut.py" 216], #[]⟩),
  (42, fnO (tp 4) "greatest" (.none) (ks "fdsolve.domains" 194) (kr 41) [] (.none)),
  (46, ⟨.type "cell", none, .cell (some (kr 68)), #[]⟩),
  (51, ⟨.type "tuple", none, .seq #[kr 46] 0, #[]⟩),
  (57, ⟨.type "code", none, .fields #[ks "__init__" 232, ks "FdError.__init__" 233, ks "/claim/cut.py" 234, kn 14 0, kn 2 0, kn 0 0, kn 0 0, kn 3 0, kr 52, .bool true, kn 181 0, kr 53, .none, kr 54, kr 55, kr 56, kn 238 0, kn 14 0, ks "/claim/cut.py" 239], #[]⟩),
  (58, fnO (mt 6 0) "FdError.__init__" (.none) (ks "fdsolve.errors" 218) (kr 57) [("__class__", 46)] (kr 51)),
  (64, ⟨.type "code", none, .fields #[ks "told" 241, ks "FdError.told" 242, ks "/claim/cut.py" 243, kn 18 0, kn 1 0, kn 0 0, kn 0 0, kn 3 0, kr 59, .bool true, kn 181 0, kr 60, .none, kr 61, kr 62, kr 63, kn 245 0, kn 18 0, ks "/claim/cut.py" 246], #[]⟩),
  (65, fnO (mt 6 1) "FdError.told" (.none) (ks "fdsolve.errors" 218) (kr 64) [] (.none)),
  (67, ⟨.type "dict", none, .dict #[ke P "__module__" 227 (ks "fdsolve.errors" 218), ke P "__firstlineno__" 231 (kn 12 230), ke P "__init__" 240 (kr 58), ke P "told" 247 (kr 65), ke P "__static_attributes__" 249 (kr 66), ke P "__weakref__" 252 (kr 69), ke P "__doc__" 253 (.none)] 4, #[]⟩),
  (68, ⟨.type "type", none, .cls { name := "FdError", bases := [.type "Exception"], mro := [kr 68, .type "Exception", .type "BaseException", .type "object"], ns := 67, qualname := "FdError", hasDict := true, slotNames := [], subclasses := [kr 81], abstract := false, collection := none, hasDel := false }, #[some (kr 43), none, some (ks "FdError" 220), some (ks "FdError" 228), some (.builtin "Exception.__new__"), some (.bool true)]⟩),
  (80, ⟨.type "dict", none, .dict #[ke P "__module__" 265 (ks "fdsolve.errors" 218), ke P "__firstlineno__" 269 (kn 20 268), ke P "__static_attributes__" 270 (kr 79), ke P "__doc__" 271 (.none)] 2, #[]⟩),
  (81, ⟨.type "type", none, .cls { name := "LimitFault", bases := [kr 68], mro := [kr 81, kr 68, .type "Exception", .type "BaseException", .type "object"], ns := 80, qualname := "LimitFault", hasDict := true, slotNames := [], subclasses := [], abstract := false, collection := none, hasDel := false }, #[some (kr 72), none, some (ks "LimitFault" 258), some (ks "LimitFault" 266), some (.builtin "Exception.__new__"), some (.bool true)]⟩),
  (96, ⟨.type "code", none, .fields #[ks "__init__" 288, ks "Flat.__init__" 289, ks "/claim/cut.py" 290, kn 25 0, kn 1 0, kn 0 0, kn 0 0, kn 3 0, kr 91, .bool true, kn 181 0, kr 92, .none, kr 93, kr 94, kr 95, kn 292 0, kn 25 0, ks "/claim/cut.py" 293], #[]⟩),
  (97, fnO (mt 9 0) "Flat.__init__" (.none) (ks "fdsolve.flat" 274) (kr 96) [] (.none)),
  (103, ⟨.type "code", none, .fields #[ks "new_var" 295, ks "Flat.new_var" 296, ks "/claim/cut.py" 297, kn 31 0, kn 3 0, kn 0 0, kn 0 0, kn 3 0, kr 98, .bool true, kn 181 0, kr 99, .none, kr 100, kr 101, kr 102, kn 301 0, kn 31 0, ks "/claim/cut.py" 302], #[]⟩),
  (104, fnO (mt 9 1) "Flat.new_var" (.none) (ks "fdsolve.flat" 274) (kr 103) [] (.none)),
  (110, ⟨.type "code", none, .fields #[ks "post" 304, ks "Flat.post" 305, ks "/claim/cut.py" 306, kn 35 0, kn 2 0, kn 0 0, kn 0 0, kn 3 0, kr 105, .bool true, kn 181 0, kr 106, .none, kr 107, kr 108, kr 109, kn 309 0, kn 35 0, ks "/claim/cut.py" 310], #[]⟩),
  (111, fnO (mt 9 2) "Flat.post" (.none) (ks "fdsolve.flat" 274) (kr 110) [] (.none)),
  (117, ⟨.type "code", none, .fields #[ks "size" 312, ks "Flat.size" 313, ks "/claim/cut.py" 314, kn 38 0, kn 1 0, kn 0 0, kn 0 0, kn 3 0, kr 112, .bool true, kn 181 0, kr 113, .none, kr 114, kr 115, kr 116, kn 316 0, kn 38 0, ks "/claim/cut.py" 317], #[]⟩),
  (118, fnO (mt 9 3) "Flat.size" (.none) (ks "fdsolve.flat" 274) (kr 117) [] (.none)),
  (124, ⟨.type "code", none, .fields #[ks "domain_of" 319, ks "Flat.domain_of" 320, ks "/claim/cut.py" 321, kn 41 0, kn 2 0, kn 0 0, kn 0 0, kn 3 0, kr 119, .bool true, kn 181 0, kr 120, .none, kr 121, kr 122, kr 123, kn 324 0, kn 41 0, ks "/claim/cut.py" 325], #[]⟩),
  (125, fnO (mt 9 4) "Flat.domain_of" (.none) (ks "fdsolve.flat" 274) (kr 124) [] (.none)),
  (127, ⟨.type "dict", none, .dict #[ke P "__module__" 283 (ks "fdsolve.flat" 274), ke P "__firstlineno__" 287 (kn 23 286), ke P "__init__" 294 (kr 97), ke P "new_var" 303 (kr 104), ke P "post" 311 (kr 111), ke P "size" 318 (kr 118), ke P "domain_of" 326 (kr 125), ke P "__static_attributes__" 331 (kr 126), ke P "__dict__" 333 (kr 129), ke P "__weakref__" 335 (kr 130), ke P "__doc__" 336 (.none)] 4, #[]⟩),
  (128, ⟨.type "type", none, .cls { name := "Flat", bases := [.type "object"], mro := [kr 128, .type "object"], ns := 127, qualname := "Flat", hasDict := true, slotNames := [], subclasses := [], abstract := false, collection := none, hasDel := false }, #[none, none, some (ks "Flat" 276), some (ks "Flat" 284), some (.builtin "object.__new__"), some (.bool true)]⟩),
  (138, ⟨.type "code", none, .fields #[ks "within_figures" 343, ks "within_figures" 344, ks "/claim/cut.py" 345, kn 45 0, kn 1 0, kn 0 0, kn 0 0, kn 3 0, kr 133, .bool true, kn 181 0, kr 134, .none, kr 135, kr 136, kr 137, kn 347 0, kn 45 0, ks "/claim/cut.py" 348], #[]⟩),
  (139, fnO (tp 12) "within_figures" (.none) (ks "fdsolve.values" 339) (kr 138) [] (.none)),
  (140, ⟨.type "tuple", none, .seq #[kn 0 352, kn 1 353] 0, #[]⟩),
  (141, ⟨.type "tuple", none, .seq #[kr 140] 0, #[]⟩),
  (142, ⟨.type "dict", none, .dict #[ke P "<" 355 (ks ">=" 356), ke P "<=" 357 (ks ">" 358), ke P ">" 359 (ks "<=" 360), ke P ">=" 361 (ks "<" 362), ke P "=" 363 (ks "!=" 364), ke P "!=" 365 (ks "=" 366)] 6, #[]⟩),
  (148, ⟨.type "code", none, .fields #[ks "is_made" 374, ks "is_made" 375, ks "/claim/cut.py" 376, kn 52 0, kn 2 0, kn 0 0, kn 0 0, kn 3 0, kr 143, .bool true, kn 181 0, kr 144, .none, kr 145, kr 146, kr 147, kn 379 0, kn 52 0, ks "/claim/cut.py" 380], #[]⟩),
  (149, fnO (tp 16) "is_made" (.none) (ks "fdsolve.sums" 350) (kr 148) [] (.none)),
  (155, ⟨.type "code", none, .fields #[ks "is_truth" 382, ks "is_truth" 383, ks "/claim/cut.py" 384, kn 54 0, kn 1 0, kn 0 0, kn 0 0, kn 3 0, kr 150, .bool true, kn 181 0, kr 151, .none, kr 152, kr 153, kr 154, kn 386 0, kn 54 0, ks "/claim/cut.py" 387], #[]⟩),
  (156, fnO (tp 17) "is_truth" (.none) (ks "fdsolve.sums" 350) (kr 155) [] (.none)),
  (162, ⟨.type "code", none, .fields #[ks "sum_of" 389, ks "sum_of" 390, ks "/claim/cut.py" 391, kn 56 0, kn 1 0, kn 0 0, kn 0 0, kn 3 0, kr 157, .bool true, kn 181 0, kr 158, .none, kr 159, kr 160, kr 161, kn 393 0, kn 56 0, ks "/claim/cut.py" 394], #[]⟩),
  (163, fnO (tp 18) "sum_of" (.none) (ks "fdsolve.sums" 350) (kr 162) [] (.none)),
  (167, ⟨.type "code", none, .fields #[ks "plus" 396, ks "plus" 397, ks "/claim/cut.py" 398, kn 62 0, kn 3 0, kn 0 0, kn 0 0, kn 3 0, kr 164, .bool true, kn 181 0, kr 165, .none, .none, .none, kr 166, kn 399 0, kn 62 0, ks "/claim/cut.py" 400], #[]⟩),
  (168, fnO (tp 19) "plus" (.none) (ks "fdsolve.sums" 350) (kr 167) [] (.none)),
  (174, ⟨.type "code", none, .fields #[ks "contrary" 402, ks "contrary" 403, ks "/claim/cut.py" 404, kn 69 0, kn 1 0, kn 0 0, kn 0 0, kn 3 0, kr 169, .bool true, kn 181 0, kr 170, .none, kr 171, kr 172, kr 173, kn 406 0, kn 69 0, ks "/claim/cut.py" 407], #[]⟩),
  (175, fnO (tp 20) "contrary" (.none) (ks "fdsolve.sums" 350) (kr 174) [] (.none)),
  (181, ⟨.type "code", none, .fields #[ks "common_of" 409, ks "common_of" 410, ks "/claim/cut.py" 411, kn 71 0, kn 1 0, kn 0 0, kn 0 0, kn 3 0, kr 176, .bool true, kn 181 0, kr 177, .none, kr 178, kr 179, kr 180, kn 416 0, kn 71 0, ks "/claim/cut.py" 417], #[]⟩),
  (182, fnO (tp 21) "common_of" (.none) (ks "fdsolve.sums" 350) (kr 181) [] (.none)),
  (195, ⟨.type "code", none, .fields #[ks "__init__" 431, ks "Gatherer.__init__" 432, ks "/claim/cut.py" 433, kn 80 0, kn 1 0, kn 0 0, kn 0 0, kn 3 0, kr 190, .bool true, kn 181 0, kr 191, .none, kr 192, kr 193, kr 194, kn 435 0, kn 80 0, ks "/claim/cut.py" 436], #[]⟩),
  (196, fnO (mt 22 0) "Gatherer.__init__" (.none) (ks "fdsolve.sums" 350) (kr 195) [] (.none)),
  (202, ⟨.type "code", none, .fields #[ks "once" 438, ks "Gatherer.once" 439, ks "/claim/cut.py" 440, kn 84 0, kn 3 0, kn 0 0, kn 0 0, kn 3 0, kr 197, .bool true, kn 181 0, kr 198, .none, kr 199, kr 200, kr 201, kn 447 0, kn 84 0, ks "/claim/cut.py" 448], #[]⟩),
  (203, fnO (mt 22 1) "Gatherer.once" (.none) (ks "fdsolve.sums" 350) (kr 202) [] (.none)),
  (209, ⟨.type "code", none, .fields #[ks "bounds" 450, ks "Gatherer.bounds" 451, ks "/claim/cut.py" 452, kn 92 0, kn 2 0, kn 0 0, kn 0 0, kn 3 0, kr 204, .bool true, kn 181 0, kr 205, .none, kr 206, kr 207, kr 208, kn 461 0, kn 92 0, ks "/claim/cut.py" 462], #[]⟩),
  (210, fnO (mt 22 2) "Gatherer.bounds" (.none) (ks "fdsolve.sums" 350) (kr 209) [] (.none)),
  (214, ⟨.type "code", none, .fields #[ks "var_of" 464, ks "Gatherer.var_of" 465, ks "/claim/cut.py" 466, kn 100 0, kn 2 0, kn 0 0, kn 0 0, kn 3 0, kr 211, .bool true, kn 181 0, kr 212, .none, .none, .none, kr 213, kn 467 0, kn 100 0, ks "/claim/cut.py" 468], #[]⟩),
  (215, fnO (mt 22 3) "Gatherer.var_of" (.none) (ks "fdsolve.sums" 350) (kr 214) [] (.none)),
  (219, ⟨.type "code", none, .fields #[ks "vars_of" 470, ks "Gatherer.vars_of" 471, ks "/claim/cut.py" 472, kn 111 0, kn 2 0, kn 0 0, kn 0 0, kn 3 0, kr 216, .bool true, kn 181 0, kr 217, .none, .none, .none, kr 218, kn 473 0, kn 111 0, ks "/claim/cut.py" 474], #[]⟩),
  (220, fnO (mt 22 4) "Gatherer.vars_of" (.none) (ks "fdsolve.sums" 350) (kr 219) [] (.none)),
  (226, ⟨.type "code", none, .fields #[ks "strength_of" 476, ks "Gatherer.strength_of" 477, ks "/claim/cut.py" 478, kn 114 0, kn 2 0, kn 0 0, kn 0 0, kn 3 0, kr 221, .bool true, kn 181 0, kr 222, .none, kr 223, kr 224, kr 225, kn 481 0, kn 114 0, ks "/claim/cut.py" 482], #[]⟩),
  (227, fnO (mt 22 5) "Gatherer.strength_of" (.none) (ks "fdsolve.sums" 350) (kr 226) [] (.none)),
  (231, ⟨.type "code", none, .fields #[ks "row" 484, ks "Gatherer.row" 485, ks "/claim/cut.py" 486, kn 117 0, kn 3 0, kn 0 0, kn 0 0, kn 3 0, kr 228, .bool true, kn 181 0, kr 229, .none, .none, .none, kr 230, kn 487 0, kn 117 0, ks "/claim/cut.py" 488], #[]⟩),
  (232, fnO (mt 22 6) "Gatherer.row" (.none) (ks "fdsolve.sums" 350) (kr 231) [] (.none)),
  (236, ⟨.type "code", none, .fields #[ks "row_truth" 490, ks "Gatherer.row_truth" 491, ks "/claim/cut.py" 492, kn 131 0, kn 3 0, kn 0 0, kn 0 0, kn 3 0, kr 233, .bool true, kn 181 0, kr 234, .none, .none, .none, kr 235, kn 493 0, kn 131 0, ks "/claim/cut.py" 494], #[]⟩),
  (237, fnO (mt 22 7) "Gatherer.row_truth" (.none) (ks "fdsolve.sums" 350) (kr 236) [] (.none)),
  (243, ⟨.type "code", none, .fields #[ks "told_truth" 496, ks "Gatherer.told_truth" 497, ks "/claim/cut.py" 498, kn 143 0, kn 2 0, kn 0 0, kn 0 0, kn 3 0, kr 238, .bool true, kn 181 0, kr 239, .none, kr 240, kr 241, kr 242, kn 507 0, kn 143 0, ks "/claim/cut.py" 508], #[]⟩),
  (244, fnO (mt 22 8) "Gatherer.told_truth" (.none) (ks "fdsolve.sums" 350) (kr 243) [] (.none)),
  (248, ⟨.type "code", none, .fields #[ks "all_of" 510, ks "Gatherer.all_of" 511, ks "/claim/cut.py" 512, kn 152 0, kn 2 0, kn 0 0, kn 0 0, kn 3 0, kr 245, .bool true, kn 181 0, kr 246, .none, .none, .none, kr 247, kn 513 0, kn 152 0, ks "/claim/cut.py" 514], #[]⟩),
  (249, fnO (mt 22 9) "Gatherer.all_of" (.none) (ks "fdsolve.sums" 350) (kr 248) [] (.none)),
  (253, ⟨.type "code", none, .fields #[ks "any_of" 516, ks "Gatherer.any_of" 517, ks "/claim/cut.py" 518, kn 177 0, kn 2 0, kn 0 0, kn 0 0, kn 3 0, kr 250, .bool true, kn 181 0, kr 251, .none, .none, .none, kr 252, kn 519 0, kn 177 0, ks "/claim/cut.py" 520], #[]⟩),
  (254, fnO (mt 22 10) "Gatherer.any_of" (.none) (ks "fdsolve.sums" 350) (kr 253) [] (.none)),
  (260, ⟨.type "code", none, .fields #[ks "unlike" 522, ks "Gatherer.unlike" 523, ks "/claim/cut.py" 524, kn 180 0, kn 3 0, kn 0 0, kn 0 0, kn 3 0, kr 255, .bool true, kn 181 0, kr 256, .none, kr 257, kr 258, kr 259, kn 532 0, kn 180 0, ks "/claim/cut.py" 533], #[]⟩),
  (261, fnO (mt 22 11) "Gatherer.unlike" (.none) (ks "fdsolve.sums" 350) (kr 260) [] (.none)),
  (265, ⟨.type "code", none, .fields #[ks "require_some" 535, ks "Gatherer.require_some" 536, ks "/claim/cut.py" 537, kn 193 0, kn 2 0, kn 0 0, kn 0 0, kn 3 0, kr 262, .bool true, kn 181 0, kr 263, .none, .none, .none, kr 264, kn 538 0, kn 193 0, ks "/claim/cut.py" 539], #[]⟩),
  (266, fnO (mt 22 12) "Gatherer.require_some" (.none) (ks "fdsolve.sums" 350) (kr 265) [] (.none)),
  (272, ⟨.type "code", none, .fields #[ks "require_row" 541, ks "Gatherer.require_row" 542, ks "/claim/cut.py" 543, kn 200 0, kn 3 0, kn 0 0, kn 0 0, kn 3 0, kr 267, .bool true, kn 181 0, kr 268, .none, kr 269, kr 270, kr 271, kn 547 0, kn 200 0, ks "/claim/cut.py" 548], #[]⟩),
  (273, fnO (mt 22 13) "Gatherer.require_row" (.none) (ks "fdsolve.sums" 350) (kr 272) [] (.none)),
  (275, ⟨.type "dict", none, .dict #[ke P "__module__" 426 (ks "fdsolve.sums" 350), ke P "__firstlineno__" 430 (kn 78 429), ke P "__init__" 437 (kr 196), ke P "once" 449 (kr 203), ke P "bounds" 463 (kr 210), ke P "var_of" 469 (kr 215), ke P "vars_of" 475 (kr 220), ke P "strength_of" 483 (kr 227), ke P "row" 489 (kr 232), ke P "row_truth" 495 (kr 237), ke P "told_truth" 509 (kr 244), ke P "all_of" 515 (kr 249), ke P "any_of" 521 (kr 254), ke P "unlike" 534 (kr 261), ke P "require_some" 540 (kr 266), ke P "require_row" 549 (kr 273), ke P "__static_attributes__" 552 (kr 274), ke P "__dict__" 554 (kr 277), ke P "__weakref__" 556 (kr 278), ke P "__doc__" 557 (.none)] 4, #[]⟩),
  (276, ⟨.type "type", none, .cls { name := "Gatherer", bases := [.type "object"], mro := [kr 276, .type "object"], ns := 275, qualname := "Gatherer", hasDict := true, slotNames := [], subclasses := [kr 416], abstract := false, collection := none, hasDel := false }, #[none, none, some (ks "Gatherer" 419), some (ks "Gatherer" 427), some (.builtin "object.__new__"), some (.bool true)]⟩),
  (284, ⟨.type "cell", none, .cell (some (kr 416)), #[]⟩),
  (289, ⟨.type "tuple", none, .seq #[kr 284] 0, #[]⟩),
  (295, ⟨.type "code", none, .fields #[ks "__init__" 572, ks "Functions.__init__" 573, ks "/claim/cut.py" 574, kn 204 0, kn 1 0, kn 0 0, kn 0 0, kn 3 0, kr 290, .bool true, kn 181 0, kr 291, .none, kr 292, kr 293, kr 294, kn 577 0, kn 204 0, ks "/claim/cut.py" 578], #[]⟩),
  (296, fnO (mt 23 0) "Functions.__init__" (.none) (ks "fdsolve.sums" 350) (kr 295) [("__class__", 284)] (kr 289)),
  (302, ⟨.type "code", none, .fields #[ks "note" 580, ks "Functions.note" 581, ks "/claim/cut.py" 582, kn 208 0, kn 2 0, kn 0 0, kn 0 0, kn 3 0, kr 297, .bool true, kn 181 0, kr 298, .none, kr 299, kr 300, kr 301, kn 585 0, kn 208 0, ks "/claim/cut.py" 586], #[]⟩),
  (303, fnO (mt 23 1) "Functions.note" (.none) (ks "fdsolve.sums" 350) (kr 302) [] (.none)),
  (309, ⟨.type "code", none, .fields #[ks "made_number" 588, ks "Functions.made_number" 589, ks "/claim/cut.py" 590, kn 211 0, kn 3 0, kn 0 0, kn 0 0, kn 3 0, kr 304, .bool true, kn 181 0, kr 305, .none, kr 306, kr 307, kr 308, kn 596 0, kn 211 0, ks "/claim/cut.py" 597], #[]⟩),
  (310, fnO (mt 23 2) "Functions.made_number" (.none) (ks "fdsolve.sums" 350) (kr 309) [] (.none)),
  (314, ⟨.type "code", none, .fields #[ks "times" 599, ks "Functions.times" 600, ks "/claim/cut.py" 601, kn 217 0, kn 3 0, kn 0 0, kn 0 0, kn 3 0, kr 311, .bool true, kn 181 0, kr 312, .none, .none, .none, kr 313, kn 602 0, kn 217 0, ks "/claim/cut.py" 603], #[]⟩),
  (315, fnO (mt 23 3) "Functions.times" (.none) (ks "fdsolve.sums" 350) (kr 314) [] (.none)),
  (321, ⟨.type "code", none, .fields #[ks "divided" 605, ks "Functions.divided" 606, ks "/claim/cut.py" 607, kn 227 0, kn 4 0, kn 0 0, kn 0 0, kn 3 0, kr 316, .bool true, kn 181 0, kr 317, .none, kr 318, kr 319, kr 320, kn 612 0, kn 227 0, ks "/claim/cut.py" 613], #[]⟩),
  (322, fnO (mt 23 4) "Functions.divided" (.none) (ks "fdsolve.sums" 350) (kr 321) [] (.none)),
  (328, ⟨.type "code", none, .fields #[ks "above_or_below" 615, ks "Functions.above_or_below" 616, ks "/claim/cut.py" 617, kn 230 0, kn 2 0, kn 0 0, kn 0 0, kn 3 0, kr 323, .bool true, kn 181 0, kr 324, .none, kr 325, kr 326, kr 327, kn 620 0, kn 230 0, ks "/claim/cut.py" 621], #[]⟩),
  (329, fnO (mt 23 5) "Functions.above_or_below" (.none) (ks "fdsolve.sums" 350) (kr 328) [] (.none)),
  (335, ⟨.type "code", none, .fields #[ks "stand_in" 623, ks "Functions.stand_in" 624, ks "/claim/cut.py" 625, kn 233 0, kn 4 0, kn 0 0, kn 0 0, kn 3 0, kr 330, .bool true, kn 181 0, kr 331, .none, kr 332, kr 333, kr 334, kn 630 0, kn 233 0, ks "/claim/cut.py" 631], #[]⟩),
  (336, fnO (mt 23 6) "Functions.stand_in" (.none) (ks "fdsolve.sums" 350) (kr 335) [] (.none)),
  (342, ⟨.type "code", none, .fields #[ks "absolute" 633, ks "Functions.absolute" 634, ks "/claim/cut.py" 635, kn 236 0, kn 2 0, kn 0 0, kn 0 0, kn 3 0, kr 337, .bool true, kn 181 0, kr 338, .none, kr 339, kr 340, kr 341, kn 638 0, kn 236 0, ks "/claim/cut.py" 639], #[]⟩),
  (343, fnO (mt 23 7) "Functions.absolute" (.none) (ks "fdsolve.sums" 350) (kr 342) [] (.none)),
  (349, ⟨.type "code", none, .fields #[ks "extreme" 641, ks "Functions.extreme" 642, ks "/claim/cut.py" 643, kn 239 0, kn 4 0, kn 0 0, kn 0 0, kn 3 0, kr 344, .bool true, kn 181 0, kr 345, .none, kr 346, kr 347, kr 348, kn 648 0, kn 239 0, ks "/claim/cut.py" 649], #[]⟩),
  (350, fnO (mt 23 8) "Functions.extreme" (.none) (ks "fdsolve.sums" 350) (kr 349) [] (.none)),
  (356, ⟨.type "code", none, .fields #[ks "element" 651, ks "Functions.element" 652, ks "/claim/cut.py" 653, kn 242 0, kn 4 0, kn 0 0, kn 0 0, kn 3 0, kr 351, .bool true, kn 181 0, kr 352, .none, kr 353, kr 354, kr 355, kn 658 0, kn 242 0, ks "/claim/cut.py" 659], #[]⟩),
  (357, fnO (mt 23 9) "Functions.element" (.none) (ks "fdsolve.sums" 350) (kr 356) [] (.none)),
  (363, ⟨.type "code", none, .fields #[ks "within" 661, ks "Functions.within" 662, ks "/claim/cut.py" 663, kn 245 0, kn 2 0, kn 0 0, kn 0 0, kn 3 0, kr 358, .bool true, kn 181 0, kr 359, .none, kr 360, kr 361, kr 362, kn 666 0, kn 245 0, ks "/claim/cut.py" 667], #[]⟩),
  (364, fnO (mt 23 10) "Functions.within" (.none) (ks "fdsolve.sums" 350) (kr 363) [] (.none)),
  (370, ⟨.type "code", none, .fields #[ks "chosen_of" 669, ks "Functions.chosen_of" 670, ks "/claim/cut.py" 671, kn 248 0, kn 3 0, kn 0 0, kn 0 0, kn 3 0, kr 365, .bool true, kn 181 0, kr 366, .none, kr 367, kr 368, kr 369, kn 675 0, kn 248 0, ks "/claim/cut.py" 676], #[]⟩),
  (371, fnO (mt 23 11) "Functions.chosen_of" (.none) (ks "fdsolve.sums" 350) (kr 370) [] (.none)),
  (377, ⟨.type "code", none, .fields #[ks "either" 678, ks "Functions.either" 679, ks "/claim/cut.py" 680, kn 251 0, kn 4 0, kn 0 0, kn 0 0, kn 3 0, kr 372, .bool true, kn 181 0, kr 373, .none, kr 374, kr 375, kr 376, kn 685 0, kn 251 0, ks "/claim/cut.py" 686], #[]⟩),
  (378, fnO (mt 23 12) "Functions.either" (.none) (ks "fdsolve.sums" 350) (kr 377) [] (.none)),
  (384, ⟨.type "code", none, .fields #[ks "equal" 688, ks "Functions.equal" 689, ks "/claim/cut.py" 690, kn 254 0, kn 3 0, kn 0 0, kn 0 0, kn 3 0, kr 379, .bool true, kn 181 0, kr 380, .none, kr 381, kr 382, kr 383, kn 694 0, kn 254 0, ks "/claim/cut.py" 695], #[]⟩),
  (385, fnO (mt 23 13) "Functions.equal" (.none) (ks "fdsolve.sums" 350) (kr 384) [] (.none)),
  (391, ⟨.type "code", none, .fields #[ks "compared" 697, ks "Functions.compared" 698, ks "/claim/cut.py" 699, kn 259 0, kn 4 0, kn 0 0, kn 0 0, kn 3 0, kr 386, .bool true, kn 181 0, kr 387, .none, kr 388, kr 389, kr 390, kn 704 0, kn 259 0, ks "/claim/cut.py" 705], #[]⟩),
  (392, fnO (mt 23 14) "Functions.compared" (.none) (ks "fdsolve.sums" 350) (kr 391) [] (.none)),
  (398, ⟨.type "code", none, .fields #[ks "require_compared" 707, ks "Functions.require_compared" 708, ks "/claim/cut.py" 709, kn 266 0, kn 4 0, kn 0 0, kn 0 0, kn 3 0, kr 393, .bool true, kn 181 0, kr 394, .none, kr 395, kr 396, kr 397, kn 714 0, kn 266 0, ks "/claim/cut.py" 715], #[]⟩),
  (399, fnO (mt 23 15) "Functions.require_compared" (.none) (ks "fdsolve.sums" 350) (kr 398) [] (.none)),
  (405, ⟨.type "code", none, .fields #[ks "many_of" 717, ks "Functions.many_of" 718, ks "/claim/cut.py" 719, kn 269 0, kn 3 0, kn 0 0, kn 0 0, kn 3 0, kr 400, .bool true, kn 181 0, kr 401, .none, kr 402, kr 403, kr 404, kn 723 0, kn 269 0, ks "/claim/cut.py" 724], #[]⟩),
  (406, fnO (mt 23 16) "Functions.many_of" (.none) (ks "fdsolve.sums" 350) (kr 405) [] (.none)),
  (412, ⟨.type "code", none, .fields #[ks "is_less" 726, ks "Functions.is_less" 727, ks "/claim/cut.py" 728, kn 272 0, kn 4 0, kn 0 0, kn 0 0, kn 3 0, kr 407, .bool true, kn 181 0, kr 408, .none, kr 409, kr 410, kr 411, kn 736 0, kn 272 0, ks "/claim/cut.py" 737], #[]⟩),
  (413, fnO (mt 23 17) "Functions.is_less" (.none) (ks "fdsolve.sums" 350) (kr 412) [] (.none)),
  (415, ⟨.type "dict", none, .dict #[ke P "__module__" 567 (ks "fdsolve.sums" 350), ke P "__firstlineno__" 571 (kn 202 570), ke P "__init__" 579 (kr 296), ke P "note" 587 (kr 303), ke P "made_number" 598 (kr 310), ke P "times" 604 (kr 315), ke P "divided" 614 (kr 322), ke P "above_or_below" 622 (kr 329), ke P "stand_in" 632 (kr 336), ke P "absolute" 640 (kr 343), ke P "extreme" 650 (kr 350), ke P "element" 660 (kr 357), ke P "within" 668 (kr 364), ke P "chosen_of" 677 (kr 371), ke P "either" 687 (kr 378), ke P "equal" 696 (kr 385), ke P "compared" 706 (kr 392), ke P "require_compared" 716 (kr 399), ke P "many_of" 725 (kr 406), ke P "is_less" 738 (kr 413), ke P "__static_attributes__" 740 (kr 414), ke P "__doc__" 742 (.none)] 3, #[]⟩),
  (416, ⟨.type "type", none, .cls { name := "Functions", bases := [kr 276], mro := [kr 416, kr 276, .type "object"], ns := 415, qualname := "Functions", hasDict := true, slotNames := [], subclasses := [], abstract := false, collection := none, hasDel := false }, #[some (kr 281), none, some (ks "Functions" 560), some (ks "Functions" 568), some (.builtin "object.__new__"), some (.bool true)]⟩),
  (424, ⟨.type "code", none, .fields #[ks "_law_draw" 747, ks "_law_draw" 748, ks "/claim/cut.py" 749, kn 278 0, kn 2 0, kn 0 0, kn 0 0, kn 3 0, kr 419, .bool true, kn 181 0, kr 420, .none, kr 421, kr 422, kr 423, kn 755 0, kn 278 0, ks "/claim/cut.py" 756], #[]⟩),
  (425, fnO (tp 25) "_law_draw" (.none) (ks "law_nz0030_01" 745) (kr 424) [] (.none)),
  (429, ⟨.type "code", none, .fields #[ks "_law_rows" 758, ks "_law_rows" 759, ks "/claim/cut.py" 760, kn 283 0, kn 1 0, kn 0 0, kn 0 0, kn 3 0, kr 426, .bool true, kn 181 0, kr 427, .none, .none, .none, kr 428, kn 761 0, kn 283 0, ks "/claim/cut.py" 762], #[]⟩),
  (430, fnO (tp 26) "_law_rows" (.none) (ks "law_nz0030_01" 745) (kr 429) [] (.none)),
  (436, ⟨.type "code", none, .fields #[ks "_law_domain" 764, ks "_law_domain" 765, ks "/claim/cut.py" 766, kn 289 0, kn 1 0, kn 0 0, kn 0 0, kn 3 0, kr 431, .bool true, kn 181 0, kr 432, .none, kr 433, kr 434, kr 435, kn 770 0, kn 289 0, ks "/claim/cut.py" 771], #[]⟩),
  (437, fnO (tp 27) "_law_domain" (.none) (ks "law_nz0030_01" 745) (kr 436) [] (.none)),
  (443, ⟨.type "code", none, .fields #[ks "_law_number" 773, ks "_law_number" 774, ks "/claim/cut.py" 775, kn 297 0, kn 1 0, kn 0 0, kn 0 0, kn 3 0, kr 438, .bool true, kn 181 0, kr 439, .none, kr 440, kr 441, kr 442, kn 781 0, kn 297 0, ks "/claim/cut.py" 782], #[]⟩),
  (444, fnO (tp 28) "_law_number" (.none) (ks "law_nz0030_01" 745) (kr 443) [] (.none)),
  (450, ⟨.type "code", none, .fields #[ks "_law_worth" 784, ks "_law_worth" 785, ks "/claim/cut.py" 786, kn 303 0, kn 2 0, kn 0 0, kn 0 0, kn 3 0, kr 445, .bool true, kn 181 0, kr 446, .none, kr 447, kr 448, kr 449, kn 792 0, kn 303 0, ks "/claim/cut.py" 793], #[]⟩),
  (451, fnO (tp 29) "_law_worth" (.none) (ks "law_nz0030_01" 745) (kr 450) [] (.none)),
  (457, ⟨.type "code", none, .fields #[ks "_law_is_ahead" 795, ks "_law_is_ahead" 796, ks "/claim/cut.py" 797, kn 306 0, kn 3 0, kn 0 0, kn 0 0, kn 3 0, kr 452, .bool true, kn 181 0, kr 453, .none, kr 454, kr 455, kr 456, kn 803 0, kn 306 0, ks "/claim/cut.py" 804], #[]⟩),
  (458, fnO (tp 30) "_law_is_ahead" (.none) (ks "law_nz0030_01" 745) (kr 457) [] (.none)),
  (462, ⟨.type "code", none, .fields #[ks "_law_holds" 806, ks "_law_holds" 807, ks "/claim/cut.py" 808, kn 311 0, kn 2 0, kn 0 0, kn 0 0, kn 3 0, kr 459, .bool true, kn 181 0, kr 460, .none, .none, .none, kr 461, kn 809 0, kn 311 0, ks "/claim/cut.py" 810], #[]⟩),
  (463, fnO (tp 31) "_law_holds" (.none) (ks "law_nz0030_01" 745) (kr 462) [] (.none)),
  (469, ⟨.type "code", none, .fields #[ks "_law_speaks_of" 812, ks "_law_speaks_of" 813, ks "/claim/cut.py" 814, kn 325 0, kn 1 0, kn 0 0, kn 0 0, kn 3 0, kr 464, .bool true, kn 181 0, kr 465, .none, kr 466, kr 467, kr 468, kn 817 0, kn 325 0, ks "/claim/cut.py" 818], #[]⟩),
  (470, fnO (tp 32) "_law_speaks_of" (.none) (ks "law_nz0030_01" 745) (kr 469) [] (.none)),
  (474, ⟨.type "code", none, .fields #[ks "_law_known" 820, ks "_law_known" 821, ks "/claim/cut.py" 822, kn 332 0, kn 2 0, kn 0 0, kn 0 0, kn 3 0, kr 471, .bool true, kn 181 0, kr 472, .none, .none, .none, kr 473, kn 823 0, kn 332 0, ks "/claim/cut.py" 824], #[]⟩),
  (475, fnO (tp 33) "_law_known" (.none) (ks "law_nz0030_01" 745) (kr 474) [] (.none)),
  (479, ⟨.type "code", none, .fields #[ks "_law_is_pair_right" 826, ks "_law_is_pair_right" 827, ks "/claim/cut.py" 828, kn 343 0, kn 5 0, kn 0 0, kn 0 0, kn 3 0, kr 476, .bool true, kn 181 0, kr 477, .none, .none, .none, kr 478, kn 829 0, kn 343 0, ks "/claim/cut.py" 830], #[]⟩),
  (480, fnO (tp 34) "_law_is_pair_right" (.none) (ks "law_nz0030_01" 745) (kr 479) [] (.none)),
  (484, ⟨.type "code", none, .fields #[ks "law" 832, ks "law" 833, ks "/claim/cut.py" 834, kn 357 0, kn 1 0, kn 0 0, kn 0 0, kn 3 0, kr 481, .bool true, kn 181 0, kr 482, .none, .none, .none, kr 483, kn 835 0, kn 357 0, ks "/claim/cut.py" 836], #[]⟩),
  (485, fnO (tp 35) "law" (.none) (ks "law_nz0030_01" 745) (kr 484) [] (.none))]
noncomputable def KA : List Addr := [2, 3, 20, 21, 27, 28, 34, 35, 41, 42, 46, 51, 57, 58, 64, 65, 67, 68, 80, 81, 96, 97, 103, 104, 110, 111, 117, 118, 124, 125, 127, 128, 138, 139, 140, 141, 142, 148, 149, 155, 156, 162, 163, 167, 168, 174, 175, 181, 182, 195, 196, 202, 203, 209, 210, 214, 215, 219, 220, 226, 227, 231, 232, 236, 237, 243, 244, 248, 249, 253, 254, 260, 261, 265, 266, 272, 273, 275, 276, 284, 289, 295, 296, 302, 303, 309, 310, 314, 315, 321, 322, 328, 329, 335, 336, 342, 343, 349, 350, 356, 357, 363, 364, 370, 371, 377, 378, 384, 385, 391, 392, 398, 399, 405, 406, 412, 413, 415, 416, 424, 425, 429, 430, 436, 437, 443, 444, 450, 451, 457, 458, 462, 463, 469, 470, 474, 475, 479, 480, 484, 485]
end
section
noncomputable abbrev rw0 : OpenLaw := PySem.Challenge.rw_nz0030_01
noncomputable def keep : List Nat := [0,2,3,4,6,7,9,11,12,14,15,16,17,18,19,20,21,22,23,25,26,27,28,29,30,31,32,33,34,35]
noncomputable def vw : Program := view pw keep
noncomputable def xt (s : Shared) : Bool := xlAt vw [] s && recOk (RowW.records (OpenRow.toRowW (OpenLaw.row rw0))) s
theorem saidA : rw0.row.wellSaid = true := by kernel_rfl
theorem said : OpenLaw.wellSaid rw0 = true := by
  unfold OpenLaw.wellSaid
  repeat' (with_reducible refine Bool.and_eq_true_iff.mpr ⟨?_, ?_⟩)
  · exact saidA
  all_goals kernel_rfl
noncomputable def pos0 : Pos := { line := 0, col := 0, endLine := 0, endCol := 0 }
noncomputable def envL : Env := { scope := pw.main.scope, locals := mainNs, globals := mainNs, cells := [], code := .ref 13, frame := some 14 }
noncomputable def cL : Code := .body (behindTheImports pw) envL
noncomputable abbrev s0 (P : Params) (os : OsState) : Shared := ⟨boot_heap P, Array.mk [], boot_drawn, boot_toks, os⟩
noncomputable def preG (w : World) (os : OsState) : Option (Shared × Thread) := topGo treeTable pw w 11 (some (.ref 6)) 12 (s0 w.params os) (topStub pw)
noncomputable def sa (w : World) (os : OsState) : Shared := ((preG w os).map (·.1)).getD (s0 w.params os)
theorem pre_ok (w : World) (os : OsState) : preG w os = some (sa w os, ⟨denote treeTable cL, cL, pos0, [topFrame pos0]⟩) := by kernel_rfl
theorem boot_n (P : Params) : (boot_heap P).objs.size = 11 := by kernel_rfl
theorem boot_ann (P : Params) : (boot_heap P).nsMap mainGlobals "__annotations__" = some (.ref 6) := by kernel_rfl
theorem open_e : opening pw = plainProg pw.main.scope.names := by kernel_rfl
theorem fence_e : ∀ s, fenceModules? pw s = some s := fun s => by kernel_rfl
noncomputable def treeL : List Obj → Nat → BT → BT
  | [], _, t => t
  | o :: l, n, t => treeL l (n + 1) (t.ins n o)
noncomputable def toT (s : Shared) : SharedT := ⟨treeL s.heap.objs.toList 0 .nil, s.heap.objs.size, s.heap.life, s.gens, s.drawn, s.toks, s.os⟩
theorem toT_ok (w : World) (os : OsState) : (toT (sa w os)).abs = sa w os := by kernel_rfl
noncomputable def segG (w : World) (os : OsState) : Option (Flow × SharedT × Code × Pos) := segRunT treeTable pw w 11 (some (.ref 6)) 1 6000 (toT (sa w os)) (piecesOf (behindTheImports pw) envL cL pos0 [topFrame pos0])
noncomputable def finR (w : World) (r : Flow × SharedT × Code × Pos) : Option Shared := topRun treeTable pw w 11 (some (.ref 6)) 349 r.2.1.abs ⟨doneF .next, cL, r.2.2.2, [topFrame pos0]⟩
theorem run_key {w : World} {os : OsState} {α β : Type} {f : α → β} {k : Shared → Option α} {v : β} {o : Option Shared} (hT : o = topRun treeTable pw w (s0 w.params os).heap.objs.size ((s0 w.params os).heap.nsMap mainGlobals "__annotations__") 6362 (s0 w.params os) (topStub pw))
    (h : (segG w os).map (fun r => (r.1, r.2.2.1, ((finR w r).bind k).map f)) = some (.next, cL, some v)) : (o.bind k).map f = some v := by
  obtain ⟨⟨g, s, c, p⟩, hs, hr⟩ := Option.map_eq_some_iff.mp h
  obtain ⟨rfl, hr⟩ := Prod.mk.inj hr
  obtain ⟨rfl, hr⟩ := Prod.mk.inj hr
  have hseg := segRun_of hs
  rw [toT_ok] at hseg
  cases h1 : finR w (.next, s, cL, p) with
  | none => rw [h1] at hr; cases hr
  | some s1 =>
    rw [← hr, h1, hT]
    show ((topRun treeTable pw w (boot_heap w.params).objs.size ((boot_heap w.params).nsMap mainGlobals "__annotations__") 6362 (s0 w.params os) (topStub pw)).bind k).map f = _
    rw [boot_n, boot_ann, show topRun treeTable pw w 11 (some (.ref 6)) 6362 (s0 w.params os) (topStub pw) = some s1 from go_top (n := 12) (N := 6350) (pre_ok w os) (piece_block (n := 1) (N := 6349) (p' := pos0) rfl (List.append_nil (behindTheImports pw) ▸ piece_app (n := 6000) (N := 349) (rest := []) hseg h1))]
theorem left1 : ∀ w : World, (openEnds treeTable pw (w.withFollow "special-get-raises" false) 6362).map (fun s => (openSeen vw ["TURNED"] (importedModules pw.main.body) xt true s, KA.map s.heap.get?)) = some (openGood vw ["TURNED"], (KF (w.withFollow "special-get-raises" false).params).map fun p => some p.2) := by
  intro w
  obtain ⟨⟨h, g, d, t, os⟩, hs, hv⟩ := Option.map_eq_some_iff.mp (boot_open (N := 6362) open_e (by decide) fence_e (w.withFollow "special-get-raises" false))
  obtain ⟨rfl, hv⟩ := Prod.mk.inj hv
  obtain ⟨rfl, hv⟩ := Prod.mk.inj hv
  obtain ⟨rfl, rfl⟩ := Prod.mk.inj hv
  unfold openEnds topFrom
  rw [hs, Option.bind_some]
  generalize hT : topRun treeTable pw _ _ _ 6362 _ _ = o
  generalize hc : (_ && _) = c
  obtain rfl : c = true := hc.symm.trans (by kernel_rfl)
  refine run_key (os := os) hT.symm ?_
  unfold segG finR
  rw [Fast.te10110043849684766642, Fast.te14082659384304107361, Fast.te14364793385576792824, Fast.te5923862056798008813, Fast.te4187177175401517315]
  kernel_rfl
theorem left2 : ∀ w : World, (openEnds treeTable pw (w.withFollow "special-get-raises" true) 6362).map (fun s => (openSeen vw ["TURNED"] (importedModules pw.main.body) xt true s, KA.map s.heap.get?)) = some (openGood vw ["TURNED"], (KF (w.withFollow "special-get-raises" true).params).map fun p => some p.2) := by
  intro w
  obtain ⟨⟨h, g, d, t, os⟩, hs, hv⟩ := Option.map_eq_some_iff.mp (boot_open (N := 6362) open_e (by decide) fence_e (w.withFollow "special-get-raises" true))
  obtain ⟨rfl, hv⟩ := Prod.mk.inj hv
  obtain ⟨rfl, hv⟩ := Prod.mk.inj hv
  obtain ⟨rfl, rfl⟩ := Prod.mk.inj hv
  unfold openEnds topFrom
  rw [hs, Option.bind_some]
  generalize hT : topRun treeTable pw _ _ _ 6362 _ _ = o
  generalize hc : (_ && _) = c
  obtain rfl : c = true := hc.symm.trans (by kernel_rfl)
  refine run_key (os := os) hT.symm ?_
  unfold segG finR
  rw [Fast.te10110043849684766642, Fast.te14082659384304107361, Fast.te14364793385576792824, Fast.te5923862056798008813, Fast.te4187177175401517315]
  kernel_rfl
theorem left : LeftO pw vw ["TURNED"] xt (fun s => KA.map s.heap.get?) (fun w => (KF w.params).map fun p => some p.2) 6362 :=
  byRow2 "special-get-raises" left1 left2
theorem kas : ∀ P, KA = (KF P).map (·.1) := fun P => by kernel_rfl
end
section
set_option genInjectivity true
inductive V where
  | none
  | bool (b : Bool)
  | int (i : Int)
  | str (s : Str)
  | tup (l : List V)
  | lst (l : List V)
  | raw (v : Value)
  | know (v : Value) (as : List Value) (l : List V)
inductive TupR (h : Heap) (N : List Addr) (v : Value) (p : List Value → Prop) : Prop where
  | mk (a : Addr) (vs : List Value) : v = .ref a → h.get? a = some { cls := .type "tuple", data := .seq vs.toArray } → a ∉ N → p vs → TupR h N v p
inductive LstR (h : Heap) (N : List Addr) (v : Value) (p : List Value → Prop) : Prop where
  | mk (a : Addr) (vs : List Value) (n : Nat) : v = .ref a → h.get? a = some { cls := .type "list", data := .seq vs.toArray n } → a ∉ N → p vs → LstR h N v p
inductive ConsR {α : Type} (vs : List α) (p : α → Prop) (q : List α → Prop) : Prop where
  | mk (v : α) (ws : List α) : vs = v :: ws → p v → q ws → ConsR vs p q
mutual
noncomputable def Rep (h : Heap) (N : List Addr) (v : Value) : V → Prop
  | .none => v = .none
  | .bool b => v = .bool b
  | .int i => ∃ t, v = .int i t
  | .str x => ∃ t, v = .str x t
  | .tup l => TupR h N v (fun vs => RepL h N vs l)
  | .lst l => LstR h N v (fun vs => RepL h N vs l)
  | .raw w => v = w
  | .know w as l => v = w ∧ RepL h N as l
noncomputable def RepL (h : Heap) (N : List Addr) (vs : List Value) : List V → Prop
  | [] => vs = []
  | x :: l => ConsR vs (fun v => Rep h N v x) (fun ws => RepL h N ws l)
end
section
variable {h : Heap} {N : List Addr}
theorem Rep.none : Rep h N .none .none := rfl
theorem Rep.bool (b : Bool) : Rep h N (.bool b) (.bool b) := rfl
theorem Rep.int (i : Int) (t : Tok) : Rep h N (.int i t) (.int i) := ⟨t, rfl⟩
theorem Rep.str (x : Str) (t : Tok) : Rep h N (.str x t) (.str x) := ⟨t, rfl⟩
theorem Rep.tup {a : Addr} {vs : List Value} {l : List V} (e : h.get? a = some { cls := .type "tuple", data := .seq vs.toArray }) (n : a ∉ N) (r : RepL h N vs l) : Rep h N (.ref a) (.tup l) := TupR.mk a vs rfl e n r
theorem Rep.lst {a : Addr} {vs : List Value} {n : Nat} {l : List V} (e : h.get? a = some { cls := .type "list", data := .seq vs.toArray n }) (k : a ∉ N) (r : RepL h N vs l) : Rep h N (.ref a) (.lst l) := LstR.mk a vs n rfl e k r
theorem Rep.raw (v : Value) : Rep h N v (.raw v) := rfl
theorem Rep.know (v : Value) {as : List Value} {l : List V} (r : RepL h N as l) : Rep h N v (.know v as l) := ⟨rfl, r⟩
theorem RepL.nil : RepL h N [] [] := rfl
theorem RepL.cons {v : Value} {x : V} {vs : List Value} {l : List V} (a : Rep h N v x) (r : RepL h N vs l) : RepL h N (v :: vs) (x :: l) := ConsR.mk v vs rfl a r
variable {v : Value} {l : List V}
theorem Rep.int_inv {i : Int} (r : Rep h N v (.int i)) : ∃ t, v = .int i t := r
theorem Rep.str_inv {i : Str} (r : Rep h N v (.str i)) : ∃ t, v = .str i t := r
theorem Rep.know_inv {w : Value} {as : List Value} (r : Rep h N v (.know w as l)) : v = w ∧ RepL h N as l := r
theorem Rep.tup_inv (r : Rep h N v (.tup l)) : TupR h N v (fun vs => RepL h N vs l) := r
theorem Rep.lst_inv (r : Rep h N v (.lst l)) : LstR h N v (fun vs => RepL h N vs l) := r
theorem RepL.nil_inv {vs : List Value} (r : RepL h N vs []) : vs = [] := r
theorem RepL.cons_inv {vs : List Value} {x : V} (r : RepL h N vs (x :: l)) : ConsR vs (fun v => Rep h N v x) (fun ws => RepL h N ws l) := r
end
end
local macro_rules | `(tactic| cases $x:ident) => `(tactic| first | (with_reducible rcases Rep.int_inv $x with ⟨_, ⟨⟩⟩) | (with_reducible rcases Rep.str_inv $x with ⟨_, ⟨⟩⟩) | (with_reducible rcases Rep.tup_inv $x with ⟨_, _, ⟨⟩, _, _, _⟩) | (with_reducible rcases Rep.lst_inv $x with ⟨_, _, _, ⟨⟩, _, _, _⟩) | cases ($x))
section
noncomputable def SeqObj (o : Obj) : Prop := ∃ xs n, o.data = .seq xs n
mutual
theorem Rep.map {h h' : Heap} {N N' : List Addr} (k : ∀ a o, h.get? a = some o → SeqObj o → a ∉ N → h'.get? a = some o ∧ a ∉ N') : ∀ {v : Value} {x : V}, Rep h N v x → Rep h' N' v x
  | _, .none, r => r
  | _, .bool _, r => r
  | _, .int _, r => r
  | _, .str _, r => r
  | _, .tup l, r => TupR.casesOn (r : TupR h N _ _) fun a vs e e1 n r => ⟨a, vs, e, (k _ _ e1 ⟨_, _, rfl⟩ n).1, (k _ _ e1 ⟨_, _, rfl⟩ n).2, RepL.map k r⟩
  | _, .lst l, r => LstR.casesOn (r : LstR h N _ _) fun a vs i e e1 n r => ⟨a, vs, i, e, (k _ _ e1 ⟨_, _, rfl⟩ n).1, (k _ _ e1 ⟨_, _, rfl⟩ n).2, RepL.map k r⟩
  | _, .raw _, r => r
  | _, .know _ _ _, r => ⟨r.1, RepL.map k r.2⟩
theorem RepL.map {h h' : Heap} {N N' : List Addr} (k : ∀ a o, h.get? a = some o → SeqObj o → a ∉ N → h'.get? a = some o ∧ a ∉ N') : ∀ {vs : List Value} {l : List V}, RepL h N vs l → RepL h' N' vs l
  | _, [], r => r
  | _, x :: l, r => ConsR.casesOn (r : ConsR _ _ _) fun v ws e a r => ⟨v, ws, e, Rep.map k a, RepL.map k r⟩
end
theorem RepL.length {h : Heap} {N : List Addr} {vs : List Value} {l : List V} (r : RepL h N vs l) : vs.length = l.length := by
  induction l generalizing vs with
  | nil => exact congrArg List.length (RepL.nil_inv r)
  | cons x l ih => obtain ⟨v, ws, e, a, r⟩ := RepL.cons_inv r; rw [e]; exact congrArg Nat.succ (ih r)
theorem RepL.nilR {h : Heap} {N : List Addr} {l : List V} (r : RepL h N [] l) : l = [] := List.eq_nil_of_length_eq_zero r.length.symm
theorem RepL.append {h : Heap} {N : List Addr} {vs ws : List Value} {l k : List V} (r : RepL h N vs l) (q : RepL h N ws k) : RepL h N (vs ++ ws) (l ++ k) := by
  induction l generalizing vs with
  | nil => rw [RepL.nil_inv r]; exact q
  | cons x l ih => obtain ⟨v, us, e, a, r⟩ := RepL.cons_inv r; rw [e]; exact .cons a (ih r)
theorem RepL.get {h : Heap} {N : List Addr} {vs : List Value} {l : List V} (r : RepL h N vs l) {i : Nat} {x : V} (e : l[i]? = some x) : ∃ v, vs[i]? = some v ∧ Rep h N v x := by
  induction l generalizing vs i with
  | nil => cases e
  | cons y l ih =>
    obtain ⟨v, ws, e', a, r⟩ := RepL.cons_inv r
    rw [e']
    cases i with
    | zero => cases e; exact ⟨_, rfl, a⟩
    | succ i => exact ih r e
mutual
noncomputable def V.py : V → PyData
  | .none => .none
  | .bool b => .bool b
  | .int i => .int i
  | .str s => .str s
  | .tup l => .tuple (V.pys l)
  | .lst l => .list (V.pys l)
  | .raw _ => .none
  | .know .. => .none
noncomputable def V.pys : List V → List PyData
  | [] => []
  | x :: r => V.py x :: V.pys r
end
mutual
noncomputable def V.toW : V → WData
  | .none => .none
  | .bool b => .bool b
  | .int i => .int i
  | .str s => .str s
  | .tup l => .tuple (V.toWs l)
  | .lst l => .list (V.toWs l)
  | .raw _ => .none
  | .know .. => .none
noncomputable def V.toWs : List V → List WData
  | [] => []
  | x :: r => V.toW x :: V.toWs r
end
mutual
noncomputable def V.data : V → Bool
  | .none | .bool _ | .int _ => true
  | .str s => PyData.strOk s
  | .tup l | .lst l => V.datas l
  | .raw _ => false
  | .know .. => false
noncomputable def V.datas : List V → Bool
  | [] => true
  | x :: r => V.data x && V.datas r
end
mutual
noncomputable def V.dep : V → Nat
  | .tup l | .lst l => V.deps l + 1
  | _ => 0
noncomputable def V.deps : List V → Nat
  | [] => 0
  | x :: r => max (V.dep x) (V.deps r)
end
mutual
theorem Rep.reads {h : Heap} {N : List Addr} : ∀ {x : V} {v : Value}, Rep h N v x → x.data = true → ∃ as, Reads h v x.py as
  | .none, _, r, _ => by cases r; exact ⟨_, .none⟩
  | .bool b, _, r, _ => by cases r; exact ⟨_, .bool b⟩
  | .int i, _, r, _ => by cases r; exact ⟨_, .int i _⟩
  | .str x, _, r, _ => by cases r; exact ⟨_, .str x _⟩
  | .tup l, _, r, q => by obtain ⟨_, _, ⟨⟩, e, n, r⟩ := r; obtain ⟨as, k⟩ := RepL.reads r q; exact ⟨_, .tuple e rfl rfl (by rw [List.toList_toArray]; exact k)⟩
  | .lst l, _, r, q => by obtain ⟨_, _, _, ⟨⟩, e, n, r⟩ := r; obtain ⟨as, k⟩ := RepL.reads r q; exact ⟨_, .list e rfl rfl (by rw [List.toList_toArray]; exact k)⟩
  | .raw v, _, _, q => nomatch q
  | .know _ _ _, _, _, q => nomatch q
theorem RepL.reads {h : Heap} {N : List Addr} : ∀ {l : List V} {vs : List Value}, RepL h N vs l → V.datas l = true → ∃ as, ReadsAll h vs (V.pys l) as
  | [], _, r, _ => by cases r; exact ⟨_, .nil⟩
  | _ :: _, _, r, q => by
    obtain ⟨_, _, ⟨⟩, a, r⟩ := r
    obtain ⟨as, k⟩ := Rep.reads a (Bool.and_eq_true_iff.mp q).1
    obtain ⟨bs, k'⟩ := RepL.reads r (Bool.and_eq_true_iff.mp q).2
    exact ⟨_, .cons k k'⟩
end
mutual
theorem V.canLay : ∀ (x : V), x.data = true → x.py.canLay0 = true
  | .none, _ | .bool _, _ | .int _, _ => rfl
  | .str s, h => h
  | .tup l, h => V.canLays l h
  | .lst l, h => V.canLays l h
  | .raw _, h => absurd h Bool.false_ne_true
  | .know .., h => absurd h Bool.false_ne_true
theorem V.canLays : ∀ (l : List V), V.datas l = true → PyData.canLayAll0 (V.pys l) = true
  | [], _ => rfl
  | x :: r, h => by
    have h := Bool.and_eq_true_iff.mp h
    exact Bool.and_eq_true_iff.mpr ⟨V.canLay x h.1, V.canLays r h.2⟩
end
mutual
theorem V.depth_py : ∀ (x : V), x.py.depth ≤ x.dep
  | .none | .bool _ | .int _ | .str _ | .raw _ | .know .. => Nat.zero_le _
  | .tup l => Nat.succ_le_succ (V.depths_py l)
  | .lst l => Nat.succ_le_succ (V.depths_py l)
theorem V.depths_py : ∀ (l : List V), PyData.depthAll (V.pys l) ≤ V.deps l
  | [] => Nat.le_refl _
  | x :: r => by
    have := V.depth_py x
    have := V.depths_py r
    show max _ _ ≤ max x.dep (V.deps r); omega
end
theorem pyI (i : Int) : V.py (.int i) = .int i := rfl
theorem pyB (b : Bool) : V.py (.bool b) = .bool b := rfl
theorem pyS (s : Str) : V.py (.str s) = .str s := rfl
theorem pyT (l : List V) : V.py (.tup l) = .tuple (V.pys l) := rfl
theorem pyN : V.pys [] = [] := rfl
theorem pyC (x : V) (r : List V) : V.pys (x :: r) = x.py :: V.pys r := rfl
mutual
noncomputable def V.keyable : V → Bool
  | .bool _ | .int _ | .str _ => true
  | .tup l => V.keyables l
  | _ => false
noncomputable def V.keyables : List V → Bool
  | [] => true
  | x :: r => V.keyable x && V.keyables r
end
mutual
noncomputable def V.draws : V → Nat
  | .tup l => V.drawsL l + 1
  | .bool _ | .int _ | .str _ => 1
  | _ => 0
noncomputable def V.drawsL : List V → Nat
  | [] => 0
  | x :: r => V.draws x + V.drawsL r
end
section
variable {prog : Program} {w : World} {E : Value → Shared → Prop}
set_option maxRecDepth 100000 in
mutual
theorem hash_rep : ∀ (k : V) (v : Value) (N : List Addr) (A : Around) (s : Shared) (Q : Int → Shared → Prop), k.keyable = true → Rep s.heap N v k → A.units + k.dep < cLine →
    Q (hashW w.params k.toW) { s with toks := s.toks + k.draws } → wpAny (model prog w) A (pyHash v) Q E s
  | .bool b, _, N, A, s, Q, _, r, hu, h => by
    cases r
    refine pyHash_slot (T := "bool") rfl F.slot_bool_hash entry_int_hash (args_int_hash _) (beq_builtin_none _) (.inr (by omega)) ?_
    cases b
    · exact (show wpAny _ _ (do ret (← mkInt 0)) _ _ s from wpAny_bind (wpAny_mkInt (wpAny_pure ⟨_, _, rfl, h⟩)))
    · exact (show wpAny _ _ (do ret (← mkInt 1)) _ _ s from wpAny_bind (wpAny_mkInt (wpAny_pure ⟨_, _, rfl, h⟩)))
  | .int i, _, N, A, s, Q, _, r, hu, h => by
    cases r
    exact wpAny_pyHash_int (by rw [← hashW_int w.params i]; exact h)
  | .str x, _, N, A, s, Q, _, r, hu, h => by cases r; exact wpAny_pyHash_str h
  | .tup l, _, N, A, s, Q, hk, r, hu, h => by
    obtain ⟨a, vs, hv, e, hn, rl⟩ := Rep.tup_inv r
    subst hv
    · refine pyHash_slot (T := "tuple") ⟨_, e, rfl⟩ F.slot_tuple_hash F.entry_tuple_hash (F.args_tuple_hash_1 _) (beq_builtin_none _) (.inr (by omega)) ?_
      show wpAny _ _ (Builtin.Tuple.tupleItemsOf (.ref a) >>= _) _ _ s
      refine wpAny_bind (wpAny_tupleItemsOf e rfl (wpAny_bind ?_))
      rw [← Array.forIn_toList]
      refine hash_reps l vs N A.in1 s #[] _ hk rl (by have hu : A.units + (V.deps l + 1) < cLine := hu; rw [Around.in1_units]; omega) fun b hb => ?_
      show wpAny _ _ (retInt (Builtin.Tuple.tupleHashOf b.toList)) _ _ _
      rw [hb]
      exact wpAny_bind (wpAny_mkInt (wpAny_pure ⟨_, _, rfl, h⟩))
  | .none, _, _, _, _, _, hk, _, _, _ | .lst _, _, _, _, _, _, hk, _, _, _ | .raw _, _, _, _, _, _, hk, _, _, _ | .know .., _, _, _, _, _, hk, _, _, _ => absurd hk Bool.false_ne_true
theorem hash_reps : ∀ (l : List V) (vs : List Value) (N : List Addr) (A : Around) (s : Shared) (b : Array Int) (Q : Array Int → Shared → Prop), V.keyables l = true → RepL s.heap N vs l → A.units + V.deps l < cLine →
    (∀ b', b'.toList = b.toList ++ hashesW w.params (V.toWs l) → Q b' { s with toks := s.toks + V.drawsL l }) →
    wpAny (model prog w) A (forIn vs b fun x r => do let h ← pyHash x; pure PUnit.unit; pure (ForInStep.yield (r.push h))) Q E s
  | [], _, N, A, s, b, Q, _, r, _, h => by cases r; exact wpAny_pure (h b (List.append_nil _).symm)
  | k :: l, _, N, A, s, b, Q, hk, r, hu, h => by
    obtain ⟨_, _, ⟨⟩, r1, r2⟩ := r
    ·
      have hk := Bool.and_eq_true_iff.mp hk
      have hu : A.units + max k.dep (V.deps l) < cLine := hu
      rw [List.forIn_cons]
      refine wpAny_bind (wpAny_bind (hash_rep k _ N A s _ hk.1 r1 (by omega) (wpAny_bind (wpAny_pure (wpAny_pure ?_)))))
      refine hash_reps l _ N A _ _ Q hk.2 r2 (by omega) fun b' hb => ?_
      have := h b' (by rw [hb, Array.toList_push, List.append_assoc]; rfl)
      rwa [show s.toks + V.drawsL (k :: l) = s.toks + k.draws + V.drawsL l from (Nat.add_assoc ..).symm] at this
end
theorem quiet_nonref (n : Nat) {v : Value} (h : carriedByValue v = true) : eqIsQuiet n v = pure true := eqIsQuiet_byValue n h
mutual
theorem quiet_rep : ∀ (n : Nat) (k : V) (v : Value) (N : List Addr) (A : Around) (s : Shared) (Q : Bool → Shared → Prop), k.keyable = true → k.dep ≤ n → Rep s.heap N v k → Q true s → wpAny (model prog w) A (eqIsQuiet n v) Q E s
  | n, .bool b, _, N, A, s, Q, _, _, r, h => by cases r; rw [quiet_nonref n rfl]; exact wpAny_pure h
  | n, .int i, _, N, A, s, Q, _, _, r, h => by cases r; rw [quiet_nonref n rfl]; exact wpAny_pure h
  | n, .str i, _, N, A, s, Q, _, _, r, h => by cases r; rw [quiet_nonref n rfl]; exact wpAny_pure h
  | 0, .tup l, _, N, A, s, Q, _, hd, _, _ => absurd hd (Nat.not_succ_le_zero _)
  | n + 1, .tup l, _, N, A, s, Q, hk, hd, r, h => by
    obtain ⟨a, vs, hv, e, hn, rl⟩ := Rep.tup_inv r
    subst hv
    · have hT : s.TypeIs (.ref a) "tuple" := ⟨_, e, rfl⟩
      unfold eqIsQuiet
      refine wpAny_bind (wpAny_specialOf hT F.slot_tuple_eq.lookup ?_)
      show wpAny _ _ (isInstance (.ref a) (.type "tuple") >>= _) _ _ s
      refine wpAny_bind (wpAny_isInstance hT isSubtype_tuple_tuple ?_)
      simp only [Bool.not_true, Bool.false_eq_true, if_false]
      refine wpAny_bind (wpAny_seqItems e rfl (wpAny_bind ?_))
      show wpAny _ _ (forIn vs.toArray _ _) _ _ s
      rw [← Array.forIn_toList]
      refine quiet_reps n l vs N A s _ _ hk (by have hd : V.deps l + 1 ≤ n + 1 := hd; omega) rl (fun v b => rfl) fun r hr => ?_
      obtain ⟨r1, r2⟩ := r
      simp only at hr
      subst hr
      exact wpAny_pure h
  | _, .none, _, _, _, _, _, hk, _, _, _ | _, .lst _, _, _, _, _, _, hk, _, _, _ | _, .raw _, _, _, _, _, _, hk, _, _, _ | _, .know .., _, _, _, _, _, hk, _, _, _ => absurd hk Bool.false_ne_true
theorem quiet_reps : ∀ (n : Nat) (l : List V) (vs : List Value) (N : List Addr) (A : Around) (s : Shared) (f : Value → Option Bool × PUnit → Sem (ForInStep (Option Bool × PUnit))) (Q : Option Bool × PUnit → Shared → Prop), V.keyables l = true → V.deps l ≤ n → RepL s.heap N vs l →
    (∀ v b, f v b = (do if !(← eqIsQuiet n v) then pure (ForInStep.done (some false, PUnit.unit)) else pure (ForInStep.yield (Option.none, PUnit.unit)))) →
    (∀ r, r.1 = Option.none → Q r s) → wpAny (model prog w) A (forIn vs (Option.none, PUnit.unit) f) Q E s
  | n, [], _, N, A, s, f, Q, _, _, r, hf, h => by cases r; exact wpAny_pure (h _ rfl)
  | n, k :: l, _, N, A, s, f, Q, hk, hd, r, hf, h => by
    obtain ⟨_, _, ⟨⟩, r1, r2⟩ := r
    ·
      have hk := Bool.and_eq_true_iff.mp hk
      have hd : max k.dep (V.deps l) ≤ n := hd
      rw [List.forIn_cons, hf]
      refine wpAny_bind (wpAny_bind (quiet_rep n k _ N A s _ hk.1 (by omega) r1 ?_))
      simp only [Bool.not_true, Bool.false_eq_true, if_false]
      exact wpAny_pure (quiet_reps n l _ N A s f Q hk.2 (by omega) r2 hf h)
end
end
end
section
set_option genInjectivity true
theorem nab {x y : Int} {a b c : Nat} (hx : x.natAbs ≤ a) (hy : y.natAbs ≤ b) (h : a + b ≤ c) : (x + y).natAbs ≤ c := Nat.le_trans (Int.natAbs_add_le _ _) (Nat.le_trans (Nat.add_le_add hx hy) h)
theorem nmu {x y : Int} {a b c : Nat} (hx : x.natAbs ≤ a) (hy : y.natAbs ≤ b) (h : a * b ≤ c) : (x * y).natAbs ≤ c := by rw [Int.natAbs_mul]; exact Nat.le_trans (Nat.mul_le_mul hx hy) h
noncomputable def kindS (le : Bool) : Str := if le then "linear_le" else "linear_eq"
structure Row where
  le : Bool
  co : List Int
  xs : List Int
  c : Int
  deriving DecidableEq
noncomputable def intsV (l : List Int) : V := .tup (l.map .int)
noncomputable def Row.v (r : Row) : V := .tup [.str (kindS r.le), intsV r.co, intsV r.xs, .int r.c]
noncomputable def bitV (b : Int × Bool) : V := .tup [.str "bit", .int b.1, .bool b.2]
inductive Key where
  | reif (r : Row)
  | or (xs : List Int)
  | all (bs : List (Int × Bool))
  deriving DecidableEq
noncomputable def Key.v : Key → V
  | .reif r => .tup [.str "reif", r.v]
  | .or xs => .tup [.str "or", intsV xs]
  | .all bs => .tup [.str "all", .tup (bs.map bitV)]
theorem keyables_all : ∀ {l : List V}, (∀ x ∈ l, x.keyable = true) → V.keyables l = true
  | [], _ => rfl
  | x :: r, h => Bool.and_eq_true_iff.mpr ⟨h x (.head _), keyables_all fun y hy => h y (.tail _ hy)⟩
theorem datas_all : ∀ {l : List V}, (∀ x ∈ l, x.data = true) → V.datas l = true
  | [], _ => rfl
  | x :: r, h => Bool.and_eq_true_iff.mpr ⟨h x (.head _), datas_all fun y hy => h y (.tail _ hy)⟩
theorem deps_all {n : Nat} : ∀ {l : List V}, (∀ x ∈ l, x.dep ≤ n) → V.deps l ≤ n
  | [], _ => Nat.zero_le _
  | x :: r, h => Nat.max_le.mpr ⟨h x (.head _), deps_all fun y hy => h y (.tail _ hy)⟩
theorem intsV_keyable (l : List Int) : (intsV l).keyable = true := keyables_all fun x hx => by obtain ⟨i, _, rfl⟩ := List.mem_map.mp hx; rfl
theorem intsV_data (l : List Int) : (intsV l).data = true := datas_all fun x hx => by obtain ⟨i, _, rfl⟩ := List.mem_map.mp hx; rfl
theorem intsV_dep (l : List Int) : (intsV l).dep ≤ 1 := Nat.succ_le_succ (deps_all fun x hx => by obtain ⟨i, _, rfl⟩ := List.mem_map.mp hx; exact Nat.le_refl _)
theorem kindS_ok (b : Bool) : PyData.strOk (kindS b) = true := by cases b <;> decide +kernel
theorem strOk_bit : PyData.strOk "bit" = true := by decide +kernel
theorem strOk_reif : PyData.strOk "reif" = true := by decide +kernel
theorem strOk_or : PyData.strOk "or" = true := by decide +kernel
theorem strOk_all : PyData.strOk "all" = true := by decide +kernel
theorem Row.keyable (r : Row) : r.v.keyable = true := by show (true && ((intsV r.co).keyable && ((intsV r.xs).keyable && (true && true)))) = true; rw [intsV_keyable, intsV_keyable]; rfl
theorem Row.data (r : Row) : r.v.data = true := by show (PyData.strOk (kindS r.le) && ((intsV r.co).data && ((intsV r.xs).data && (true && true)))) = true; rw [intsV_data, intsV_data, kindS_ok]; rfl
theorem Row.dep (r : Row) : r.v.dep ≤ 2 := by have := intsV_dep r.co; have := intsV_dep r.xs; show max 0 (max (intsV r.co).dep (max (intsV r.xs).dep (max 0 0))) + 1 ≤ 2; omega
theorem bitV_data (b : Int × Bool) : (bitV b).data = true := by show (PyData.strOk "bit" && (true && (true && true))) = true; rw [strOk_bit]; rfl
theorem bitV_dep (b : Int × Bool) : (bitV b).dep ≤ 1 := Nat.le_refl 1
theorem bits_keyable (l : List (Int × Bool)) : (V.tup (l.map bitV)).keyable = true := keyables_all fun x hx => by obtain ⟨i, _, rfl⟩ := List.mem_map.mp hx; rfl
theorem bits_data (l : List (Int × Bool)) : (V.tup (l.map bitV)).data = true := datas_all fun x hx => by obtain ⟨i, _, rfl⟩ := List.mem_map.mp hx; exact bitV_data i
theorem bits_dep (l : List (Int × Bool)) : (V.tup (l.map bitV)).dep ≤ 2 := Nat.succ_le_succ (deps_all fun x hx => by obtain ⟨i, _, rfl⟩ := List.mem_map.mp hx; exact bitV_dep i)
theorem Key.keyable (k : Key) : k.v.keyable = true := by
  cases k with
  | reif r => show (true && (r.v.keyable && true)) = true; rw [Row.keyable]; rfl
  | or xs => show (true && ((intsV xs).keyable && true)) = true; rw [intsV_keyable]; rfl
  | all bs => show (true && ((V.tup (bs.map bitV)).keyable && true)) = true; rw [bits_keyable]; rfl
theorem Key.data (k : Key) : k.v.data = true := by
  cases k with
  | reif r => show (PyData.strOk "reif" && (r.v.data && true)) = true; rw [Row.data, strOk_reif]; rfl
  | or xs => show (PyData.strOk "or" && ((intsV xs).data && true)) = true; rw [intsV_data, strOk_or]; rfl
  | all bs => show (PyData.strOk "all" && ((V.tup (bs.map bitV)).data && true)) = true; rw [bits_data, strOk_all]; rfl
theorem Key.dep (k : Key) : k.v.dep ≤ 4 := by
  cases k with
  | reif r => have := r.dep; show max 0 (max r.v.dep 0) + 1 ≤ 4; omega
  | or xs => have := intsV_dep xs; show max 0 (max (intsV xs).dep 0) + 1 ≤ 4; omega
  | all bs => have := bits_dep bs; show max 0 (max (V.tup (bs.map bitV)).dep 0) + 1 ≤ 4; omega
theorem eqvI (a b : Int) : PyData.eqv (.int a) (.int b) = (a == b) := by rfl
theorem eqvB (a b : Bool) : PyData.eqv (.bool a) (.bool b) = (a == b) := by rfl
theorem eqvS (a b : Str) : PyData.eqv (.str a) (.str b) = (a == b) := by rfl
theorem eqvT (a b : List PyData) : PyData.eqv (.tuple a) (.tuple b) = PyData.eqvAll a b := by rfl
theorem eqvN : PyData.eqvAll [] [] = true := by rfl
theorem eqvC (a b : PyData) (r s : List PyData) : PyData.eqvAll (a :: r) (b :: s) = (PyData.eqv a b && PyData.eqvAll r s) := by rfl
theorem eqv_ints : ∀ a b : List Int, PyData.eqvAll (V.pys (a.map V.int)) (V.pys (b.map V.int)) = decide (a = b)
  | [], [] => rfl
  | [], _ :: _ => rfl
  | _ :: _, [] => rfl
  | x :: a, y :: b => by
    simp only [List.map_cons, pyC, pyI, eqvI, eqvC, eqv_ints a b, List.cons.injEq]
    by_cases h : x = y <;> by_cases h' : a = b <;> simp [h, h']
theorem eqv_bits : ∀ a b : List (Int × Bool), PyData.eqvAll (V.pys (a.map bitV)) (V.pys (b.map bitV)) = decide (a = b)
  | [], [] => rfl
  | [], _ :: _ => rfl
  | _ :: _, [] => rfl
  | (x, p) :: a, (y, q) :: b => by
    simp only [List.map_cons, bitV, pyC, pyN, pyT, pyS, pyI, pyB, eqvI, eqvB, eqvS, eqvT, eqvN, eqvC, eqv_bits a b, List.cons.injEq, Prod.mk.injEq, beq_self_eq_true, Bool.true_and, Bool.and_true]
    by_cases h : x = y <;> by_cases h' : a = b <;> by_cases h'' : p = q <;> simp [h, h', h'']
theorem kindS_inj {a b : Bool} : (kindS a == kindS b) = decide (a = b) := by cases a <;> cases b <;> decide +kernel
theorem eqv_row (a b : Row) : PyData.eqv a.v.py b.v.py = decide (a = b) := by
  obtain ⟨k, co, xs, c⟩ := a
  obtain ⟨k', co', xs', c'⟩ := b
  simp only [Row.v, pyC, pyN, pyT, pyS, pyI, eqvI, eqvB, eqvS, eqvT, eqvN, eqvC, intsV, eqv_ints, kindS_inj, Row.mk.injEq, Bool.and_true]
  by_cases h1 : k = k' <;> by_cases h2 : co = co' <;> by_cases h3 : xs = xs' <;> by_cases h4 : c = c' <;> simp [h1, h2, h3, h4]
theorem ne_ro : (("reif" : Str) == ("or" : Str)) = false := by decide +kernel
theorem ne_ra : (("reif" : Str) == ("all" : Str)) = false := by decide +kernel
theorem ne_or : (("or" : Str) == ("reif" : Str)) = false := by decide +kernel
theorem ne_oa : (("or" : Str) == ("all" : Str)) = false := by decide +kernel
theorem ne_ar : (("all" : Str) == ("reif" : Str)) = false := by decide +kernel
theorem ne_ao : (("all" : Str) == ("or" : Str)) = false := by decide +kernel
theorem eqv_key (a b : Key) : PyData.eqv a.v.py b.v.py = decide (a = b) := by
  cases a <;> cases b <;> simp only [Key.v, pyC, pyN, pyT, pyS, pyI, eqvI, eqvB, eqvS, eqvT, eqvN, eqvC, ne_ro, ne_ra, ne_or, ne_oa, ne_ar, ne_ao, Bool.false_and, beq_self_eq_true, Bool.true_and, Bool.and_true, Key.reif.injEq, Key.or.injEq, Key.all.injEq, reduceCtorEq, decide_false, eqv_row, intsV, eqv_ints, eqv_bits]
theorem key_inj {a b : Key} (h : a.v.py = b.v.py) : a = b := by
  have := eqv_key a b
  rw [h, SeqAt.eqv_refl _ (V.canLay _ b.data)] at this
  exact of_decide_eq_true this.symm
noncomputable def kk (prog : Program) (w : World) : HeapKind prog w Key where
  is := fun h k a => Rep h [] (.ref a) k.v
  hash := fun k => hashW w.params k.v.toW
  draws := fun k => k.v.draws
  room := fun A => A.units + 10 < cLine
  inj := fun {h a x y} hx hy => by
    obtain ⟨as, r⟩ := hx.reads x.data
    obtain ⟨bs, r'⟩ := hy.reads y.data
    exact key_inj (SeqAt.Reads.unique _ _ _ _ _ (V.canLay _ x.data) r r')
  keeps := fun {h h' k a d o es ep} hx ho hd hs => hx.map fun b o' e q n => by
    refine ⟨(hs.2 b fun hb => ?_).trans e, n⟩
    subst hb
    obtain ⟨xs, m, hd'⟩ := q
    rw [e] at ho; cases ho; rw [hd'] at hd; cases hd
  pyHash := fun {A E s k a Q} hu hk h => hash_rep k.v _ [] A s Q k.keyable hk (by have := k.dep; omega) h
  eqBool := fun {A E s x y a b Q} hu hx hy h => by
    obtain ⟨as, r⟩ := hx.reads x.data
    obtain ⟨bs, r'⟩ := hy.reads y.data
    refine SeqAt.eqBoolOverData prog w A E s _ _ _ _ _ _ Q r r' (V.canLay _ x.data) (V.canLay _ y.data) ?_ (by rw [eqv_key]; exact h)
    have := x.dep; have := V.depth_py x.v; omega
  quiet := fun {A E s k a Q} hk h => quiet_rep 8 k.v _ [] A s Q k.keyable (by have := k.dep; omega) hk h
end
section
inductive MO where
  | lst (l : List V)
  | dI (kvs : List (Int × V))
  | dS (kvs : List (Str × V))
  | dK (kvs : List (Key × V))
  | obj (p : Obj → Prop)
inductive KVC {K : Type} (vs : List (K × Value)) (k : K) (p : Value → Prop) (q : List (K × Value) → Prop) : Prop where
  | mk (v : Value) (ws : List (K × Value)) : vs = (k, v) :: ws → p v → q ws → KVC vs k p q
noncomputable def KV {K : Type} (h : Heap) (N : List Addr) (vs : List (K × Value)) : List (K × V) → Prop
  | [] => vs = []
  | e :: l => KVC vs e.1 (fun v => Rep h N v e.2) (fun ws => KV h N ws l)
inductive KHC (vs : List (Key × Addr × Value)) (k : Key) (p : Addr → Prop) (q : Value → Prop) (r : List (Key × Addr × Value) → Prop) : Prop where
  | mk (a : Addr) (v : Value) (ws : List (Key × Addr × Value)) : vs = (k, a, v) :: ws → p a → q v → r ws → KHC vs k p q r
noncomputable def KH (h : Heap) (N : List Addr) (vs : List (Key × Addr × Value)) : List (Key × V) → Prop
  | [] => vs = []
  | e :: l => KHC vs e.1 (fun a => Rep h N (.ref a) e.1.v) (fun v => Rep h N v e.2) (fun ws => KH h N ws l)
theorem KV.inv {K : Type} {h : Heap} {N : List Addr} {vs : List (K × Value)} {e : K × V} {l : List (K × V)} (r : KV h N vs (e :: l)) : KVC vs e.1 (fun v => Rep h N v e.2) (fun ws => KV h N ws l) := r
theorem KV.nil_inv {K : Type} {h : Heap} {N : List Addr} {vs : List (K × Value)} (r : KV h N vs []) : vs = [] := r
theorem KV.nil {K : Type} {h : Heap} {N : List Addr} : KV (K := K) h N [] [] := rfl
theorem KV.cons {K : Type} {h : Heap} {N : List Addr} {k : K} {v : Value} {x : V} {vs : List (K × Value)} {l : List (K × V)} (a : Rep h N v x) (r : KV h N vs l) : KV h N ((k, v) :: vs) ((k, x) :: l) := ⟨v, vs, rfl, a, r⟩
theorem KH.inv {h : Heap} {N : List Addr} {vs : List (Key × Addr × Value)} {e : Key × V} {l : List (Key × V)} (r : KH h N vs (e :: l)) : KHC vs e.1 (fun a => Rep h N (.ref a) e.1.v) (fun v => Rep h N v e.2) (fun ws => KH h N ws l) := r
theorem KH.nil_inv {h : Heap} {N : List Addr} {vs : List (Key × Addr × Value)} (r : KH h N vs []) : vs = [] := r
theorem KH.nil {h : Heap} {N : List Addr} : KH h N [] [] := rfl
theorem KH.cons {h : Heap} {N : List Addr} {k : Key} {a : Addr} {v : Value} {x : V} {vs : List (Key × Addr × Value)} {l : List (Key × V)} (p : Rep h N (.ref a) k.v) (q : Rep h N v x) (r : KH h N vs l) : KH h N ((k, a, v) :: vs) ((k, x) :: l) := ⟨a, v, vs, rfl, p, q, r⟩
theorem KV.map {K : Type} {h h' : Heap} {N N' : List Addr} (k : ∀ a o, h.get? a = some o → SeqObj o → a ∉ N → h'.get? a = some o ∧ a ∉ N') {vs : List (K × Value)} {l : List (K × V)} (r : KV h N vs l) : KV h' N' vs l := by
  induction l generalizing vs with
  | nil => exact r
  | cons e l ih => obtain ⟨v, ws, hv, a, r⟩ := r.inv; exact ⟨v, ws, hv, a.map k, ih r⟩
theorem KH.map {h h' : Heap} {N N' : List Addr} (k : ∀ a o, h.get? a = some o → SeqObj o → a ∉ N → h'.get? a = some o ∧ a ∉ N') {vs : List (Key × Addr × Value)} {l : List (Key × V)} (r : KH h N vs l) : KH h' N' vs l := by
  induction l generalizing vs with
  | nil => exact r
  | cons e l ih => obtain ⟨a, v, ws, hv, p, q, r⟩ := r.inv; exact ⟨a, v, ws, hv, p.map k, q.map k, ih r⟩
inductive LstAt (h : Heap) (N : List Addr) (a : Addr) (l : List V) : Prop where
  | mk (vs : List Value) (n : Nat) : h.get? a = some { cls := .type "list", data := .seq vs.toArray n } → RepL h N vs l → LstAt h N a l
inductive DIAt (prog : Program) (w : World) (h : Heap) (N : List Addr) (a : Addr) (kvs : List (Int × V)) : Prop where
  | mk (vs : List (Int × Value)) : h.DictOf (intKind prog w) a vs → KV h N vs kvs → DIAt prog w h N a kvs
inductive DSAt (prog : Program) (w : World) (h : Heap) (N : List Addr) (a : Addr) (kvs : List (Str × V)) : Prop where
  | mk (vs : List (Str × Value)) : h.DictOf (strKind prog w) a vs → KV h N vs kvs → DSAt prog w h N a kvs
inductive DKAt (prog : Program) (w : World) (h : Heap) (N : List Addr) (a : Addr) (kvs : List (Key × V)) : Prop where
  | mk (o : Obj) (es : Array DictEntry) (ep : Nat) (xs : List (Key × Addr × Value)) : h.get? a = some o → o.ExactDict → o.data = .dict es ep → es.toList = xs.map (entryOfKey (kk prog w)) → (xs.map (·.1)).Nodup → KH h N xs kvs → DKAt prog w h N a kvs
inductive ObjAt (h : Heap) (a : Addr) (p : Obj → Prop) : Prop where
  | mk (o : Obj) : h.get? a = some o → p o → ObjAt h a p
noncomputable def MRep (prog : Program) (w : World) (h : Heap) (N : List Addr) (a : Addr) : MO → Prop
  | .lst l => LstAt h N a l
  | .dI kvs => DIAt prog w h N a kvs
  | .dS kvs => DSAt prog w h N a kvs
  | .dK kvs => DKAt prog w h N a kvs
  | .obj p => ObjAt h a p
theorem MRep.live {prog : Program} {w : World} {h : Heap} {N : List Addr} {a : Addr} {m : MO} (r : MRep prog w h N a m) : ∃ o, h.get? a = some o := by
  cases m with
  | lst l => obtain ⟨_, _, e, _⟩ := r; exact ⟨_, e⟩
  | dI l => obtain ⟨_, ⟨o, _, _, e, _⟩, _⟩ := r; exact ⟨_, e⟩
  | dS l => obtain ⟨_, ⟨o, _, _, e, _⟩, _⟩ := r; exact ⟨_, e⟩
  | dK l => obtain ⟨_, _, _, _, e, _⟩ := r; exact ⟨_, e⟩
  | obj p => obtain ⟨_, e, _⟩ := r; exact ⟨_, e⟩
theorem MRep.map {prog : Program} {w : World} {h h' : Heap} {N N' : List Addr} {a : Addr} {m : MO} (k : ∀ a o, h.get? a = some o → SeqObj o → a ∉ N → h'.get? a = some o ∧ a ∉ N')
    (ka : ∀ o, h.get? a = some o → h'.get? a = some o) (r : MRep prog w h N a m) : MRep prog w h' N' a m := by
  cases m with
  | lst l => obtain ⟨vs, n, e, q⟩ := r; exact ⟨vs, n, ka _ e, q.map k⟩
  | dI l => obtain ⟨vs, ⟨o, es, ep, e, r⟩, q⟩ := r; exact ⟨vs, ⟨o, es, ep, ka _ e, r⟩, q.map k⟩
  | dS l => obtain ⟨vs, ⟨o, es, ep, e, r⟩, q⟩ := r; exact ⟨vs, ⟨o, es, ep, ka _ e, r⟩, q.map k⟩
  | dK l => obtain ⟨o, es, ep, xs, e, r1, r2, r3, r4, q⟩ := r; exact ⟨o, es, ep, xs, ka _ e, r1, r2, r3, r4, q.map k⟩
  | obj p => obtain ⟨o, e, q⟩ := r; exact ⟨o, ka _ e, q⟩
structure GCx where
  prog : Program
  w : World
  K : Frag
  p : Program
  loose : List Str
  mean : ExcName → Option Value
  mg : Str → Option Value
  mb : Str → Option Value
  base : Heap
  os : OsState
structure Cx where
  G : GCx
  lv : Nat
  A : Around
  env : Env
  cells : List Addr
  Kp : Addr → Obj → Prop
noncomputable abbrev Cx.L (C : Cx) : Addr := C.env.locals
structure Sl where
  name : Str
  cell : Option Addr
  val : Option V
structure AS where
  ρ : List Sl
  mem : List (Addr × MO)
noncomputable abbrev AS.N (X : AS) : List Addr := X.mem.map (·.1)
noncomputable abbrev muts (C : Cx) (X : AS) : List Addr := C.env.locals :: (C.cells ++ X.N)
inductive CellRep (env : Env) (h : Heap) (N : List Addr) (e : Sl) (c : Addr) : Prop where
  | mk : (env.kindOf e.name = some .cell ∨ (env.kindOf e.name = some .free ∧ e.name ≠ ("__classdict__" : Str))) → env.cells.lookup e.name = some c → c ∉ N → c ≠ env.locals →
      (o : Obj) → (u : Option Value) → h.get? c = some o → o.data = .cell u → (∀ v, e.val = some v → ∃ val, u = some val ∧ Rep h N val v) → CellRep env h N e c
noncomputable def SlotRepE (env : Env) (h : Heap) (N : List Addr) (m : Str → Option Value) (e : Sl) : Prop :=
  match e.cell with
  | none => env.kindOf e.name = some .local ∧ ∀ v, e.val = some v → ∃ val, m e.name = some val ∧ Rep h N val v
  | some c => CellRep env h N e c
noncomputable abbrev SlotRep (C : Cx) (h : Heap) (N : List Addr) (m : Str → Option Value) (e : Sl) : Prop := SlotRepE C.env h N m e
structure Std (C : Cx) : Prop where
  fn : C.env.scope.kind = .function
  gl : C.env.globals = mainGlobals
  bl : C.env.builtins = builtinsNs
  frame : ∃ f, C.env.frame = some f
  base : ∀ b o, C.G.base.get? b = some o → C.Kp b o
  top : Top C.G.p C.G.loose C.G.mean C.G.mg C.G.mb C.G.base
  K : C.G.K.In C.G.base
  hand : C.A.handled = none
  depth : C.A.depth + 20 * C.lv < recursionLimit
  units : C.A.units + 100 * C.lv + 300 < cLine
inductive NsE (env : Env) (ρ : List Sl) (N : List Addr) (h : Heap) : Prop where
  | mk (m : Str → Option Value) : h.Ns env.locals m → (∀ e ∈ ρ, SlotRepE env h N m e) → NsE env ρ N h
noncomputable abbrev NsOK (C : Cx) (X : AS) (h : Heap) : Prop := NsE C.env X.ρ X.N h
inductive IsCell (h : Heap) (c : Addr) : Prop where
  | mk (o : Obj) (u : Option Value) : h.get? c = some o → o.data = .cell u → IsCell h c
structure StH (C : Cx) (X : AS) (h : Heap) : Prop where
  std : Std C
  kept : ∀ a o, C.Kp a o → h.get? a = some o
  apart : ∀ a ∈ muts C X, ∀ o, ¬ C.Kp a o
  big : ∀ a ∈ muts C X, 3 < a
  nodup : (muts C X).Nodup
  ns : NsOK C X h
  cells : ∀ c ∈ C.cells, IsCell h c
  names : (X.ρ.map (·.name)).Nodup
  cnodup : (X.ρ.filterMap (·.cell)).Nodup
  mem : ∀ p ∈ X.mem, MRep C.G.prog C.G.w h X.N p.1 p.2
structure St (C : Cx) (X : AS) (s : Shared) : Prop where
  H : StH C X s.heap
  gens : s.gens = #[]
  os : s.os = C.G.os
noncomputable def Mono (C : Cx) (X : AS) (h : Heap) (Y : AS) (h' : Heap) : Prop := ∀ a o, h.get? a = some o → a ∉ muts C X → h'.get? a = some o ∧ a ∉ muts C Y
theorem Mono.refl (C : Cx) (X : AS) (h : Heap) : Mono C X h X h := fun _ _ e n => ⟨e, n⟩
theorem Mono.trans {C : Cx} {X Y Z : AS} {h h' h'' : Heap} (x : Mono C X h Y h') (y : Mono C Y h' Z h'') : Mono C X h Z h'' :=
  fun a o e n => y a o (x a o e n).1 (x a o e n).2
theorem StH.free {C : Cx} {X : AS} {h : Heap} (S : StH C X h) {a : Addr} {o : Obj} (e : h.get? a = some o) (q : SeqObj o) (n : a ∉ X.N) : a ∉ muts C X := by
  obtain ⟨xs, k, hd⟩ := q
  intro hm
  rcases List.mem_cons.mp hm with rfl | hm
  · obtain ⟨m, ⟨o', es, ep, e', hd', _⟩, _⟩ := S.ns
    rw [e'] at e; cases e; rw [hd'] at hd; cases hd
  · rcases List.mem_append.mp hm with hm | hm
    · obtain ⟨o', u, e', hd'⟩ := S.cells a hm
      rw [e'] at e; cases e; rw [hd'] at hd; cases hd
    · exact n hm
theorem N_of_muts {C : Cx} {X : AS} {a : Addr} (n : a ∉ muts C X) : a ∉ X.N := fun hm => n (List.mem_cons_of_mem _ (List.mem_append_right _ hm))
theorem StH.keep {C : Cx} {X Y : AS} {h h' : Heap} (S : StH C X h) (mo : Mono C X h Y h') : ∀ a o, h.get? a = some o → SeqObj o → a ∉ X.N → h'.get? a = some o ∧ a ∉ Y.N :=
  fun a o e q n => ⟨(mo a o e (S.free e q n)).1, N_of_muts (mo a o e (S.free e q n)).2⟩
theorem Rep.mono {C : Cx} {X Y : AS} {h h' : Heap} {v : Value} {x : V} (S : StH C X h) (mo : Mono C X h Y h') (r : Rep h X.N v x) : Rep h' Y.N v x := r.map (S.keep mo)
theorem RepL.mono {C : Cx} {X Y : AS} {h h' : Heap} {v : List Value} {x : List V} (S : StH C X h) (mo : Mono C X h Y h') (r : RepL h X.N v x) : RepL h' Y.N v x := r.map (S.keep mo)
theorem StH.live {C : Cx} {X : AS} {h : Heap} (S : StH C X h) : ∀ a ∈ muts C X, ∃ o, h.get? a = some o := by
  intro a ha
  rcases List.mem_cons.mp ha with rfl | ha
  · obtain ⟨m, ⟨o', es, ep, e', _⟩, _⟩ := S.ns; exact ⟨o', e'⟩
  · rcases List.mem_append.mp ha with ha | ha
    · obtain ⟨o', u, e', _⟩ := S.cells a ha; exact ⟨o', e'⟩
    · obtain ⟨p, hp, rfl⟩ := List.mem_map.mp ha
      exact (S.mem p hp).live
theorem StH.lt {C : Cx} {X : AS} {h : Heap} (S : StH C X h) {a : Addr} (ha : a ∈ muts C X) : a < h.objs.size := by
  obtain ⟨o, e⟩ := S.live a ha; exact Heap.lt_size e
theorem StH.fresh {C : Cx} {X : AS} {h : Heap} (S : StH C X h) : h.objs.size ∉ muts C X := fun hm => absurd (S.lt hm) (Nat.lt_irrefl _)
theorem SlotRepE.map {C : Cx} {h h' : Heap} {N N' : List Addr} {m : Str → Option Value} {e : Sl} (k : ∀ a o, h.get? a = some o → SeqObj o → a ∉ N → h'.get? a = some o ∧ a ∉ N')
    (kc : ∀ c o, c ∉ N → c ≠ C.env.locals → h.get? c = some o → (∃ u, o.data = .cell u) → h'.get? c = some o ∧ c ∉ N') (r : SlotRep C h N m e) : SlotRep C h' N' m e := by
  (try unfold SlotRep at r); (try unfold SlotRep); unfold SlotRepE at r ⊢
  cases hc : e.cell with
  | none => rw [hc] at r; exact ⟨r.1, fun v hv => (r.2 v hv).imp fun _ ab => ⟨ab.1, ab.2.map k⟩⟩
  | some c =>
    rw [hc] at r
    obtain ⟨a1, a2, a3, a4, o, u, a5, a6, a7⟩ := r
    have := kc c o a3 a4 a5 ⟨u, a6⟩
    exact ⟨a1, a2, this.2, a4, o, u, this.1, a6, fun v hv => (a7 v hv).imp fun _ ab => ⟨ab.1, ab.2.map k⟩⟩
theorem StH.keeps {C : Cx} {X : AS} {h h' : Heap} (S : StH C X h) (k : ∀ a o, h.get? a = some o → h'.get? a = some o) : StH C X h' where
  std := S.std
  kept := fun a o e => k _ _ (S.kept a o e)
  apart := S.apart
  big := S.big
  nodup := S.nodup
  ns := S.ns.casesOn fun m a b => ⟨m, a.keeps k, fun e he => (b e he).map (fun a o e q n => ⟨k _ _ e, n⟩) (fun c o n _ e _ => ⟨k _ _ e, n⟩)⟩
  cells := fun c hc => (S.cells c hc).casesOn fun o u a b => ⟨o, u, k _ _ a, b⟩
  names := S.names
  cnodup := S.cnodup
  mem := fun p hp => (S.mem p hp).map (fun a o e q n => ⟨k _ _ e, n⟩) fun o e => k _ _ e
theorem Mono.keeps {C : Cx} {X : AS} {h h' : Heap} (k : ∀ a o, h.get? a = some o → h'.get? a = some o) : Mono C X h X h' := fun a o e n => ⟨k _ _ e, n⟩
theorem StH.push {C : Cx} {X : AS} {h : Heap} (S : StH C X h) (o : Obj) : StH C X (h.push o) := S.keeps fun _ _ e => Heap.get?_push_of_some o e
theorem Mono.push {C : Cx} {X : AS} {h : Heap} (o : Obj) : Mono C X h X (h.push o) := Mono.keeps fun _ _ e => Heap.get?_push_of_some o e
theorem St.toks {C : Cx} {X : AS} {s : Shared} (S : St C X s) (n : Nat) : St C X { s with toks := n } := ⟨S.H, S.gens, S.os⟩
theorem St.heap {C : Cx} {X Y : AS} {s : Shared} {h : Heap} (S : St C X s) (H : StH C Y h) : St C Y { s with heap := h } := ⟨H, S.gens, S.os⟩
theorem StH.big3 {C : Cx} {X : AS} {h : Heap} (S : StH C X h) : 3 < h.objs.size :=
  (S.std.top.g.keeps fun b o e => S.kept b o (S.std.base b o e)).lt
theorem StH.alloc {C : Cx} {X : AS} {h : Heap} (S : StH C X h) {o : Obj} {mo : MO} (r : MRep C.G.prog C.G.w (h.push o) (h.objs.size :: X.N) h.objs.size mo) :
    StH C { X with mem := (h.objs.size, mo) :: X.mem } (h.push o) := by
  have hf := S.fresh
  have k : ∀ (a : Addr) (o' : Obj), h.get? a = some o' → (h.push o).get? a = some o' := fun _ _ e => Heap.get?_push_of_some o e
  have ne : ∀ (a : Addr) (o' : Obj), h.get? a = some o' → a ≠ h.objs.size := fun a o' e => Nat.ne_of_lt (Heap.lt_size e)
  have kk : ∀ (a : Addr) (o' : Obj), h.get? a = some o' → SeqObj o' → a ∉ X.N → (h.push o).get? a = some o' ∧ a ∉ h.objs.size :: X.N :=
    fun a o' e _ n => ⟨k _ _ e, fun hm => (List.mem_cons.mp hm).elim (ne _ _ e) n⟩
  refine ⟨S.std, fun a o e => k _ _ (S.kept a o e), ?_, ?_, ?_, ?_, fun c hc => (S.cells c hc).casesOn fun o u a b => ⟨o, u, k _ _ a, b⟩, S.names, S.cnodup, ?_⟩
  · intro a ha o' hk
    by_cases h1 : a = h.objs.size
    · subst h1; exact absurd (Heap.lt_size (S.kept _ _ hk)) (Nat.lt_irrefl _)
    · refine S.apart a ?_ o' hk
      simp only [muts, AS.N, List.map_cons, List.mem_cons, List.mem_append] at ha ⊢
      rcases ha with ha | ha | ha | ha <;> simp_all
  · intro a ha
    by_cases h1 : a = h.objs.size
    · subst h1; exact S.big3
    · refine S.big a ?_
      simp only [muts, AS.N, List.map_cons, List.mem_cons, List.mem_append] at ha ⊢
      rcases ha with ha | ha | ha | ha <;> simp_all
  · have hn := S.nodup
    simp only [muts, AS.N, List.map_cons, List.nodup_cons, List.nodup_append, List.mem_append, List.mem_cons, not_or] at hn hf ⊢
    obtain ⟨⟨n1, n2⟩, n3, n4, n5⟩ := hn
    refine ⟨⟨n1, fun e => hf.1 e.symm, n2⟩, n3, ⟨hf.2.2, n4⟩, fun a ha b hb => ?_⟩
    rcases hb with rfl | hb
    · intro e; subst e; exact hf.2.1 ha
    · exact n5 a ha b hb
  · obtain ⟨m, a, b⟩ := S.ns
    exact ⟨m, a.keeps k, fun e he => (b e he).map kk fun c o' n _ e' _ => ⟨k _ _ e', fun hm => (List.mem_cons.mp hm).elim (ne _ _ e') n⟩⟩
  · intro p hp
    rcases List.mem_cons.mp hp with rfl | hp
    · exact r
    · exact (S.mem p hp).map kk fun o e => k _ _ e
theorem Mono.alloc {C : Cx} {X : AS} {h : Heap} (o : Obj) (mo : MO) : Mono C X h { X with mem := (h.objs.size, mo) :: X.mem } (h.push o) := by
  intro a o' e n
  refine ⟨Heap.get?_push_of_some o e, fun hm => n ?_⟩
  have := Nat.ne_of_lt (Heap.lt_size e)
  simp only [muts, AS.N, List.map_cons, List.mem_cons, List.mem_append] at hm ⊢
  rcases hm with hm | hm | hm | hm <;> simp_all
theorem keys_set {mem : List (Addr × MO)} {i : Nat} {a : Addr} {mo mo' : MO} (hi : mem[i]? = some (a, mo)) : (mem.set i (a, mo')).map (·.1) = mem.map (·.1) := by
  rw [List.map_set]
  have h : (mem.map (·.1))[i]? = some a := by rw [List.getElem?_map, hi]; rfl
  apply List.ext_getElem?
  intro j
  rw [List.getElem?_set]
  split
  · subst_vars
    split
    · exact h.symm
    · simp_all
  · rfl
theorem StH.write {C : Cx} {X : AS} {h h' : Heap} (S : StH C X h) {i : Nat} {a : Addr} {mo mo' : MO} (hi : X.mem[i]? = some (a, mo)) (sb : Heap.SameBut a h h')
    (r : MRep C.G.prog C.G.w h' X.N a mo') : StH C { X with mem := X.mem.set i (a, mo') } h' := by
  have ha : (a, mo) ∈ X.mem := List.mem_of_getElem? hi
  have haN : a ∈ X.N := List.mem_map.mpr ⟨_, ha, rfl⟩
  have ham : a ∈ muts C X := List.mem_cons_of_mem _ (List.mem_append_right _ haN)
  have ek : ({ X with mem := X.mem.set i (a, mo') } : AS).N = X.N := keys_set hi
  have em : muts C { X with mem := X.mem.set i (a, mo') } = muts C X := by simp only [muts, ek]
  have hnd := S.nodup
  have kb : ∀ (b : Addr) (o : Obj), b ≠ a → h.get? b = some o → h'.get? b = some o := fun b o n e => (sb.2 b n).trans e
  have kk : ∀ (b : Addr) (o : Obj), h.get? b = some o → SeqObj o → b ∉ X.N → h'.get? b = some o ∧ b ∉ X.N := fun b o e _ n => ⟨kb b o (fun q => n (q ▸ haN)) e, n⟩
  refine ⟨S.std, fun b o e => kb b o (fun q => S.apart a ham o (q ▸ e)) (S.kept b o e), by rw [em]; exact S.apart, by rw [em]; exact S.big, by rw [em]; exact S.nodup, ?_, ?_, S.names, S.cnodup, ?_⟩
  · obtain ⟨m, q, b⟩ := S.ns
    refine ⟨m, ?_, fun e he => ?_⟩
    · obtain ⟨o, es, ep, ho, r⟩ := q
      refine ⟨o, es, ep, kb _ _ (fun e => ?_) ho, r⟩
      have h1 := (List.nodup_cons.mp hnd).1
      exact h1 (List.mem_append_right _ (e ▸ haN))
    · rw [ek]
      exact (b e he).map kk fun c o n _ e' _ => ⟨kb c o (fun q => n (q ▸ haN)) e', n⟩
  · intro c hc
    obtain ⟨o, u, e1, e2⟩ := S.cells c hc
    refine ⟨o, u, kb _ _ (fun e => ?_) e1, e2⟩
    have h2 := (List.nodup_cons.mp hnd).2
    exact (List.nodup_append.mp h2).2.2 c hc a haN e
  · intro p hp
    rw [ek]
    rcases List.mem_or_eq_of_mem_set hp with hp | rfl
    · by_cases q : p.1 = a
      · -- the same key twice: the very place
        obtain ⟨j, hj⟩ := List.getElem?_of_mem (show p ∈ X.mem.set i (a, mo') from by assumption)
        have hnN : (X.mem.map (·.1)).Nodup := (List.nodup_append.mp (List.nodup_cons.mp hnd).2).2.1
        rw [List.getElem?_set] at hj
        by_cases hij : i = j
        · subst hij
          simp only [if_true] at hj
          split at hj
          · cases hj; exact r
          · cases hj
        · rw [if_neg hij] at hj
          exfalso
          have e1 : (X.mem.map (·.1))[j]? = some p.1 := by rw [List.getElem?_map, hj]; rfl
          have e2 : (X.mem.map (·.1))[i]? = some a := by rw [List.getElem?_map, hi]; rfl
          rw [q] at e1
          have l1 := (List.getElem?_eq_some_iff.mp e1).1
          exact hij ((List.getElem?_inj (List.getElem?_eq_some_iff.mp e2).1 hnN).mp (e2.trans e1.symm))
      · exact (S.mem p hp).map kk fun o e => kb _ _ q e
    · exact r
theorem Mono.write {C : Cx} {X : AS} {h h' : Heap} {i : Nat} {a : Addr} {mo mo' : MO} (hi : X.mem[i]? = some (a, mo)) (sb : Heap.SameBut a h h') :
    Mono C X h { X with mem := X.mem.set i (a, mo') } h' := by
  have haN : a ∈ X.N := List.mem_map.mpr ⟨_, List.mem_of_getElem? hi, rfl⟩
  have ek : ({ X with mem := X.mem.set i (a, mo') } : AS).N = X.N := keys_set hi
  intro b o e n
  refine ⟨(sb.2 b fun q => N_of_muts n (q ▸ haN)).trans e, ?_⟩
  simp only [muts, ek] at n ⊢
  exact n
theorem StH.drop {C : Cx} {X Y : AS} {h : Heap} (S : StH C X h) (e : Y.ρ = X.ρ) (q : Y.mem.Sublist X.mem) : StH C Y h := by
  have qn : Y.N.Sublist X.N := q.map _
  have qm : (muts C Y).Sublist (muts C X) := .cons_cons _ (List.Sublist.append (List.Sublist.refl _) qn)
  have kk : ∀ (a : Addr) (o : Obj), h.get? a = some o → SeqObj o → a ∉ X.N → h.get? a = some o ∧ a ∉ Y.N := fun a o e _ n => ⟨e, fun hm => n (qn.subset hm)⟩
  refine ⟨S.std, S.kept, fun a ha => S.apart a (qm.subset ha), fun a ha => S.big a (qm.subset ha), S.nodup.sublist qm, ?_, S.cells, e ▸ S.names, e ▸ S.cnodup, fun p hp => (S.mem p (q.subset hp)).map kk fun _ e => e⟩
  obtain ⟨m, a, b⟩ := S.ns
  exact ⟨m, a, fun x hx => (b x (e ▸ hx)).map kk fun c o n _ e _ => ⟨e, fun hm => n (qn.subset hm)⟩⟩
theorem Mono.drop {C : Cx} {X Y : AS} {h : Heap} (q : Y.mem.Sublist X.mem) : Mono C X h Y h := by
  have qn : Y.N.Sublist X.N := q.map _
  have qm : (muts C Y).Sublist (muts C X) := .cons_cons _ (List.Sublist.append (List.Sublist.refl _) qn)
  exact fun a o e n => ⟨e, fun hm => n (qm.subset hm)⟩
theorem mem_set_ne {ρ : List Sl} {i : Nat} {e e' d : Sl} (hn : (ρ.map (·.name)).Nodup) (hi : ρ[i]? = some e) (he : e'.name = e.name) (hd : d ∈ ρ.set i e') : d = e' ∨ (d ∈ ρ ∧ d.name ≠ e.name) := by
  obtain ⟨j, hj⟩ := List.getElem?_of_mem hd
  rw [List.getElem?_set] at hj
  by_cases hij : i = j
  · rw [if_pos hij] at hj; split at hj <;> cases hj; exact .inl rfl
  · rw [if_neg hij] at hj
    refine .inr ⟨List.mem_of_getElem? hj, fun q => hij ?_⟩
    have e1 : (ρ.map (·.name))[j]? = some d.name := by rw [List.getElem?_map, hj]; rfl
    have e2 : (ρ.map (·.name))[i]? = some e.name := by rw [List.getElem?_map, hi]; rfl
    rw [q] at e1
    exact (List.getElem?_inj (List.getElem?_eq_some_iff.mp e2).1 hn).mp (e2.trans e1.symm)
theorem map_set_same {α β : Type} {f : α → β} {l : List α} {i : Nat} {e e' : α} (hi : l[i]? = some e) (he : f e' = f e) : (l.set i e').map f = l.map f := by
  apply List.ext_getElem?
  intro j
  rw [List.getElem?_map, List.getElem?_map, List.getElem?_set]
  split
  · subst_vars
    split
    · rw [hi]; simp [he]
    · simp_all
  · rfl
theorem filterMap_set_same {α β : Type} {f : α → Option β} : ∀ {l : List α} {i : Nat} {e e' : α}, l[i]? = some e → f e' = f e → (l.set i e').filterMap f = l.filterMap f
  | [], i, e, e', hi, _ => by simp at hi
  | x :: l, 0, e, e', hi, he => by simp at hi; subst hi; simp [List.filterMap_cons, he]
  | x :: l, i + 1, e, e', hi, he => by simp at hi; simp [List.filterMap_cons, filterMap_set_same hi he]
theorem StH.store {C : Cx} {X : AS} {h h' : Heap} (S : StH C X h) {i : Nat} {x : Str} {ov : Option V} {v : V} {val : Value} (hi : X.ρ[i]? = some ⟨x, none, ov⟩) {m : Str → Option Value}
    (hm : ∀ e ∈ X.ρ, SlotRep C h X.N m e) (hn : h'.Ns C.env.locals (fun y => if y = x then some val else m y)) (sb : Heap.SameBut C.env.locals h h') (r : Rep h X.N val v) :
    StH C { X with ρ := X.ρ.set i ⟨x, none, some v⟩ } h' := by
  have hL : C.env.locals ∈ muts C X := List.mem_cons_self ..
  obtain ⟨m₀, ⟨oL, esL, epL, hoL, hdL, _⟩, _⟩ := S.ns
  have kb : ∀ (b : Addr) (o : Obj), b ≠ C.env.locals → h.get? b = some o → h'.get? b = some o := fun b o n e => (sb.2 b n).trans e
  have kk : ∀ (b : Addr) (o : Obj), h.get? b = some o → SeqObj o → b ∉ X.N → h'.get? b = some o ∧ b ∉ X.N := fun b o e q n => by
    refine ⟨kb b o (fun q' => ?_) e, n⟩
    subst q'
    obtain ⟨xs, k, hd⟩ := q
    rw [e] at hoL; cases hoL; rw [hd] at hdL; cases hdL
  have nd := List.nodup_cons.mp S.nodup
  refine ⟨S.std, fun b o e => kb b o (fun q => S.apart _ hL o (q ▸ e)) (S.kept b o e), S.apart, S.big, S.nodup, ⟨_, hn, fun e he => ?_⟩, fun c hc => ?_, ?_, ?_, fun p hp => ?_⟩
  · rcases mem_set_ne (e' := ⟨x, none, some v⟩) S.names hi rfl he with rfl | ⟨he', hne⟩
    · have := hm _ (List.mem_of_getElem? hi)
      (try unfold SlotRep at this); (try unfold SlotRep); unfold SlotRepE at this ⊢
      exact ⟨this.1, fun v' hv' => by cases hv'; exact ⟨val, by simp, r.map kk⟩⟩
    · have h1 := (hm e he').map kk (fun c o n nl e' _ => ⟨kb c o nl e', n⟩)
      (try unfold SlotRep at h1); (try unfold SlotRep); unfold SlotRepE at h1 ⊢
      cases hc : e.cell with
      | none =>
        rw [hc] at h1
        refine ⟨h1.1, fun v' hv' => ?_⟩
        obtain ⟨val', a, b⟩ := h1.2 v' hv'
        exact ⟨val', by show (if e.name = x then _ else _) = _; rw [if_neg hne]; exact a, b⟩
      | some c => rw [hc] at h1; exact h1
  · obtain ⟨o, u, a, b⟩ := S.cells c hc
    exact ⟨o, u, kb _ _ (fun q => nd.1 (List.mem_append_left _ (q ▸ hc))) a, b⟩
  · show ((X.ρ.set i _).map _).Nodup
    rw [map_set_same (e' := ⟨x, none, some v⟩) hi rfl]; exact S.names
  · show ((X.ρ.set i _).filterMap _).Nodup
    rw [filterMap_set_same (e' := ⟨x, none, some v⟩) hi rfl]; exact S.cnodup
  · refine (S.mem p hp).map kk fun o e => kb _ _ (fun q => nd.1 (List.mem_append_right _ ?_)) e
    exact q ▸ List.mem_map.mpr ⟨p, hp, rfl⟩
theorem Mono.store {C : Cx} {X : AS} {h h' : Heap} {ρ : List Sl} (sb : Heap.SameBut C.env.locals h h') : Mono C X h { X with ρ := ρ } h' :=
  fun a o e n => ⟨(sb.2 a fun q => n (q ▸ List.mem_cons_self ..)).trans e, n⟩
theorem cell_index {ρ : List Sl} {i j : Nat} {c : Addr} {e d : Sl} (hn : (ρ.filterMap (·.cell)).Nodup) (hi : ρ[i]? = some e) (hj : ρ[j]? = some d) (hc : e.cell = some c) (hd : d.cell = some c) : i = j := by
  induction ρ generalizing i j with
  | nil => simp at hi
  | cons x ρ ih =>
    rw [List.filterMap_cons] at hn
    have hn' : (ρ.filterMap (·.cell)).Nodup := by
      split at hn
      · exact hn
      · exact (List.nodup_cons.mp hn).2
    cases i with
    | zero =>
      simp at hi; subst hi
      cases j with
      | zero => rfl
      | succ j =>
        simp at hj
        rw [hc] at hn
        exact absurd (List.mem_filterMap.mpr ⟨d, List.mem_of_getElem? hj, hd⟩) (List.nodup_cons.mp hn).1
    | succ i =>
      simp at hi
      cases j with
      | zero =>
        simp at hj; subst hj
        rw [hd] at hn
        exact absurd (List.mem_filterMap.mpr ⟨e, List.mem_of_getElem? hi, hc⟩) (List.nodup_cons.mp hn).1
      | succ j => simp at hj; rw [ih hn' hi hj]
theorem StH.storeCell {C : Cx} {X : AS} {h h' : Heap} (S : StH C X h) {i : Nat} {x : Str} {c : Addr} {ov : Option V} {v : V} {val : Value} (hi : X.ρ[i]? = some ⟨x, some c, ov⟩) (hcC : c ∈ C.cells)
    (sb : Heap.SameBut c h h') (ho : ∃ o, h'.get? c = some o ∧ o.data = .cell (some val)) (r : Rep h X.N val v) :
    StH C { X with ρ := X.ρ.set i ⟨x, some c, some v⟩ } h' := by
  have hcm : c ∈ muts C X := List.mem_cons_of_mem _ (List.mem_append_left _ hcC)
  obtain ⟨oc, uc, hoc, hdc⟩ := S.cells c hcC
  have kb : ∀ (b : Addr) (o : Obj), b ≠ c → h.get? b = some o → h'.get? b = some o := fun b o n e => (sb.2 b n).trans e
  have nd := List.nodup_cons.mp S.nodup
  have kk : ∀ (b : Addr) (o : Obj), h.get? b = some o → SeqObj o → b ∉ X.N → h'.get? b = some o ∧ b ∉ X.N := fun b o e q n => by
    refine ⟨kb b o (fun q' => ?_) e, n⟩
    subst q'
    obtain ⟨xs, k, hd⟩ := q
    rw [e] at hoc; cases hoc; rw [hd] at hdc; cases hdc
  obtain ⟨m, hns, hm⟩ := S.ns
  refine ⟨S.std, fun b o e => kb b o (fun q => S.apart _ hcm o (q ▸ e)) (S.kept b o e), S.apart, S.big, S.nodup, ⟨m, ?_, fun e he => ?_⟩, fun c' hc' => ?_, ?_, ?_, fun p hp => ?_⟩
  · obtain ⟨o, es, ep, ho, r⟩ := hns
    exact ⟨o, es, ep, kb _ _ (fun q => nd.1 (List.mem_append_left _ (q ▸ hcC))) ho, r⟩
  · obtain ⟨j, hj⟩ := List.getElem?_of_mem he
    rw [List.getElem?_set] at hj
    by_cases hij : i = j
    · rw [if_pos hij] at hj; split at hj <;> cases hj
      have := hm _ (List.mem_of_getElem? hi)
      (try unfold SlotRep at this); (try unfold SlotRep); unfold SlotRepE at this ⊢
      obtain ⟨a1, a2, a3, a4, _⟩ := this
      obtain ⟨o, e1, e2⟩ := ho
      exact ⟨a1, a2, a3, a4, o, _, e1, e2, fun v' hv' => by cases hv'; exact ⟨val, rfl, r.map kk⟩⟩
    · rw [if_neg hij] at hj
      have h1 := hm e (List.mem_of_getElem? hj)
      (try unfold SlotRep at h1); (try unfold SlotRep); unfold SlotRepE at h1 ⊢
      cases hc : e.cell with
      | none => rw [hc] at h1; exact ⟨h1.1, fun v' hv' => (h1.2 v' hv').imp fun _ ab => ⟨ab.1, ab.2.map kk⟩⟩
      | some c' =>
        rw [hc] at h1
        obtain ⟨a1, a2, a3, a4, o, u, a5, a6, a7⟩ := h1
        exact ⟨a1, a2, a3, a4, o, u, kb _ _ (fun q => hij (cell_index S.cnodup hi hj rfl (q ▸ hc))) a5, a6, fun v' hv' => (a7 v' hv').imp fun _ ab => ⟨ab.1, ab.2.map kk⟩⟩
  · by_cases q : c' = c
    · subst q; obtain ⟨o, a, b⟩ := ho; exact ⟨o, _, a, b⟩
    · obtain ⟨o, u, a, b⟩ := S.cells c' hc'; exact ⟨o, u, kb _ _ q a, b⟩
  · show ((X.ρ.set i _).map _).Nodup
    rw [map_set_same (e' := ⟨x, some c, some v⟩) hi rfl]; exact S.names
  · show ((X.ρ.set i _).filterMap _).Nodup
    rw [filterMap_set_same (e' := ⟨x, some c, some v⟩) hi rfl]; exact S.cnodup
  · refine (S.mem p hp).map kk fun o e => kb _ _ (fun q => ?_) e
    exact (List.nodup_append.mp nd.2).2.2 c hcC p.1 (List.mem_map.mpr ⟨p, hp, rfl⟩) q.symm
theorem Mono.storeCell {C : Cx} {X : AS} {h h' : Heap} {ρ : List Sl} {c : Addr} (hcC : c ∈ C.cells) (sb : Heap.SameBut c h h') : Mono C X h { X with ρ := ρ } h' :=
  fun a o e n => ⟨(sb.2 a fun q => n (q ▸ List.mem_cons_of_mem _ (List.mem_append_left _ hcC))).trans e, n⟩
inductive Good {α β : Type} (C : Cx) (X : AS) (h : Heap) (R : Heap → List Addr → α → β → Prop) (Q : β → AS → Prop) (a : α) (s' : Shared) : Prop where
  | mk (b : β) (Y : AS) : Q b Y → St C Y s' → R s'.heap Y.N a b → Mono C X h Y s'.heap → Good C X h R Q a s'
noncomputable def TW {α β : Type} (C : Cx) (X : AS) (t : Sem α) (R : Heap → List Addr → α → β → Prop) (Q : β → AS → Prop) : Prop :=
  ∀ s, St C X s → wpAny (model C.G.prog C.G.w) C.A t (Good C X s.heap R Q) (fun _ _ => False) s
noncomputable abbrev RV : Heap → List Addr → Value → V → Prop := fun h N v x => Rep h N v x
noncomputable abbrev RL : Heap → List Addr → List Value → List V → Prop := fun h N v x => RepL h N v x
noncomputable abbrev RE {α : Type} : Heap → List Addr → α → α → Prop := fun _ _ a b => a = b
noncomputable abbrev Ev (C : Cx) (X : AS) (e : Expr) (Q : V → AS → Prop) : Prop := TW C X (eval e C.env) RV Q
noncomputable abbrev Tr (C : Cx) (X : AS) (e : Expr) (Q : Bool → AS → Prop) : Prop := TW C X (isTrue e C.env (eval e C.env)) RE Q
inductive Fl where
  | next | brk | cont
  | ret (v : V)
inductive RetR (f : Flow) (p : Value → Prop) : Prop where
  | mk (v : Value) : f = .ret v → p v → RetR f p
noncomputable def RF (h : Heap) (N : List Addr) (f : Flow) : Fl → Prop
  | .next => f = .next
  | .brk => f = .brk
  | .cont => f = .cont
  | .ret x => RetR f (fun v => Rep h N v x)
theorem RF.next {h : Heap} {N : List Addr} : RF h N .next .next := rfl
theorem RF.brk {h : Heap} {N : List Addr} : RF h N .brk .brk := rfl
theorem RF.cont {h : Heap} {N : List Addr} : RF h N .cont .cont := rfl
theorem RF.ret {h : Heap} {N : List Addr} {v : Value} {x : V} (r : Rep h N v x) : RF h N (.ret v) (.ret x) := ⟨v, rfl, r⟩
theorem RF.ret_inv {h : Heap} {N : List Addr} {f : Flow} {x : V} (r : RF h N f (.ret x)) : RetR f (fun v => Rep h N v x) := r
noncomputable abbrev Ex (C : Cx) (X : AS) (st : Stmt) (Q : Fl → AS → Prop) : Prop := TW C X (exec st C.env) RF Q
noncomputable abbrev Exs (C : Cx) (X : AS) (st : List Stmt) (Q : Fl → AS → Prop) : Prop := TW C X (execs st C.env) RF Q
section
variable {α β γ δ : Type} {C : Cx} {X : AS} {R : Heap → List Addr → α → β → Prop} {Q : β → AS → Prop}
theorem TW.run {t : Sem α} {E : Value → Shared → Prop} (h : TW C X t R Q) {s : Shared} (S : St C X s) {P : α → Shared → Prop}
    (k : ∀ a b Y s', Q b Y → St C Y s' → R s'.heap Y.N a b → Mono C X s.heap Y s'.heap → P a s') : wpAny (model C.G.prog C.G.w) C.A t P E s :=
  wpAny_mono (h s S) (fun a s' g => g.casesOn fun b Y q S' r m => k a b Y s' q S' r m) fun _ _ e => e.elim
theorem TW.mono {t : Sem α} {Q' : β → AS → Prop} (h : TW C X t R Q) (k : ∀ b Y, Q b Y → Q' b Y) : TW C X t R Q' :=
  fun s S => h.run S fun a b Y s' q S' r m => ⟨b, Y, k b Y q, S', r, m⟩
end
end
section
section
variable {α β : Type} {C : Cx} {X Y : AS} {s s' : Shared} {R : Heap → List Addr → α → β → Prop} {Q : β → AS → Prop} {a : α} {b : β}
theorem fin (S : St C X s) (H : StH C Y s'.heap) (m : Mono C X s.heap Y s'.heap) (r : R s'.heap Y.N a b) (q : Q b Y) (hg : s'.gens = s.gens := by rfl) (ho : s'.os = s.os := by rfl) : Good C X s.heap R Q a s' :=
  ⟨b, Y, q, ⟨H, hg.trans S.gens, ho.trans S.os⟩, r, m⟩
theorem fin0 (S : St C X s) (r : R s.heap X.N a b) (q : Q b X) : Good C X s.heap R Q a s := fin S S.H (Mono.refl _ _ _) r q
theorem fin_tk (S : St C X s) (r : R s.heap X.N a b) (q : Q b X) {n : Nat} : Good C X s.heap R Q a { s with toks := n } := fin S S.H (Mono.refl _ _ _) r q
theorem good_trans {h h' : Heap} (m : Mono C X h Y h') (g : Good C Y h' R Q a s') : Good C X h R Q a s' :=
  g.casesOn fun b Z q S r m' => ⟨b, Z, q, S, r, m.trans m'⟩
end
noncomputable def Op1 {α β : Type} (C : Cx) (X : AS) (t : Value → Sem α) (x : V) (R : Heap → List Addr → α → β → Prop) (Q : β → AS → Prop) : Prop :=
  ∀ s, St C X s → ∀ a, Rep s.heap X.N a x → wpAny (model C.G.prog C.G.w) C.A (t a) (Good C X s.heap R Q) (fun _ _ => False) s
noncomputable def Op2 {α β : Type} (C : Cx) (X : AS) (t : Value → Value → Sem α) (x y : V) (R : Heap → List Addr → α → β → Prop) (Q : β → AS → Prop) : Prop :=
  ∀ s, St C X s → ∀ a b, Rep s.heap X.N a x → Rep s.heap X.N b y → wpAny (model C.G.prog C.G.w) C.A (t a b) (Good C X s.heap R Q) (fun _ _ => False) s
noncomputable def Op3 {α β : Type} (C : Cx) (X : AS) (t : Value → Value → Value → Sem α) (x y z : V) (R : Heap → List Addr → α → β → Prop) (Q : β → AS → Prop) : Prop :=
  ∀ s, St C X s → ∀ a b c, Rep s.heap X.N a x → Rep s.heap X.N b y → Rep s.heap X.N c z → wpAny (model C.G.prog C.G.w) C.A (t a b c) (Good C X s.heap R Q) (fun _ _ => False) s
noncomputable def OpL {α β : Type} (C : Cx) (X : AS) (t : List Value → Sem α) (xs : List V) (R : Heap → List Addr → α → β → Prop) (Q : β → AS → Prop) : Prop :=
  ∀ s, St C X s → ∀ vs, RepL s.heap X.N vs xs → wpAny (model C.G.prog C.G.w) C.A (t vs) (Good C X s.heap R Q) (fun _ _ => False) s
section
variable {α β γ δ : Type} {C : Cx} {X : AS}
theorem Op1.run {t : Value → Sem α} {x : V} {R : Heap → List Addr → α → β → Prop} {Q : β → AS → Prop} (o : Op1 C X t x R Q) {s : Shared} (S : St C X s) {a : Value} (ra : Rep s.heap X.N a x)
    {P : α → Shared → Prop} {E : Value → Shared → Prop} (k : ∀ a s', Good C X s.heap R Q a s' → P a s') : wpAny (model C.G.prog C.G.w) C.A (t a) P E s :=
  wpAny_mono (o s S a ra) (fun a s' g => k a s' g) fun _ _ e => e.elim
theorem Op2.run {t : Value → Value → Sem α} {x y : V} {R : Heap → List Addr → α → β → Prop} {Q : β → AS → Prop} (o : Op2 C X t x y R Q) {s : Shared} (S : St C X s) {a b : Value} (ra : Rep s.heap X.N a x) (rb : Rep s.heap X.N b y)
    {P : α → Shared → Prop} {E : Value → Shared → Prop} (k : ∀ a s', Good C X s.heap R Q a s' → P a s') : wpAny (model C.G.prog C.G.w) C.A (t a b) P E s :=
  wpAny_mono (o s S a b ra rb) (fun a s' g => k a s' g) fun _ _ e => e.elim
theorem OpL.run {t : List Value → Sem α} {xs : List V} {R : Heap → List Addr → α → β → Prop} {Q : β → AS → Prop} (o : OpL C X t xs R Q) {s : Shared} (S : St C X s) {vs : List Value} (ra : RepL s.heap X.N vs xs)
    {P : α → Shared → Prop} {E : Value → Shared → Prop} (k : ∀ a s', Good C X s.heap R Q a s' → P a s') : wpAny (model C.G.prog C.G.w) C.A (t vs) P E s :=
  wpAny_mono (o s S vs ra) (fun a s' g => k a s' g) fun _ _ e => e.elim
theorem TW.runG {t : Sem α} {R : Heap → List Addr → α → β → Prop} {Q : β → AS → Prop} (o : TW C X t R Q) {s : Shared} (S : St C X s)
    {P : α → Shared → Prop} {E : Value → Shared → Prop} (k : ∀ a s', Good C X s.heap R Q a s' → P a s') : wpAny (model C.G.prog C.G.w) C.A t P E s :=
  wpAny_mono (o s S) (fun a s' g => k a s' g) fun _ _ e => e.elim
theorem Ev.name {x : Str} {c : Option Addr} {v : V} {pos : Pos} {Q : V → AS → Prop} (i : Nat) (hi : X.ρ[i]? = some ⟨x, c, some v⟩) (q : Q v X) (hd : (x == ("__debug__" : Str)) = false := by decide) : Ev C X (.Name x pos) Q := by
  intro s S
  refine wpAny_Name ?_ hd
  obtain ⟨m, hm, hs⟩ := S.H.ns
  have r := hs _ (List.mem_of_getElem? hi)
  (try unfold SlotRep at r); unfold SlotRepE at r
  cases c with
  | none =>
    obtain ⟨hk, hv⟩ := r
    obtain ⟨val, e, rv⟩ := hv v rfl
    exact wpAny_loadName_local S.H.std.fn hk hm e (fin0 S rv q)
  | some c =>
    obtain ⟨hk, hl, _, _, o, u, ho, hd', hv⟩ := r
    obtain ⟨val, e, rv⟩ := hv v rfl
    subst e
    rcases hk with hk | ⟨hk, hne⟩
    · exact wpAny_loadName_cell S.H.std.fn hk hl ⟨o, ho, hd'⟩ (fin0 S rv q)
    · exact wpAny_loadName_free S.H.std.fn hk hl ⟨o, ho, hd'⟩ (fin0 S rv q) (by simpa using hne)
theorem St.base {s : Shared} (S : St C X s) : ∀ b o, C.G.base.get? b = some o → s.heap.get? b = some o := fun b o e => S.H.kept b o (S.H.std.base b o e)
theorem St.top {s : Shared} (S : St C X s) : Top C.G.p C.G.loose C.G.mean C.G.mg C.G.mb s.heap := S.H.std.top.keeps S.base
theorem St.K {s : Shared} (S : St C X s) : C.G.K.In s.heap := S.H.std.K.keeps S.base
theorem Ev.glob {x : Str} {pos : Pos} {v : Value} {Q : V → AS → Prop} (hk : C.env.kindOf x = some .globalImplicit) (e : nsIn C.G.K mainGlobals x = some (some v)) (q : Q (.raw v) X) (hd : (x == ("__debug__" : Str)) = false := by decide) :
    Ev C X (.Name x pos) Q := by
  intro s S
  refine Name_function_global S.H.std.fn hk (loadGlobal_global (mg := C.G.mg) ?_ (mg_of S.H.std.K S.H.std.top.g e) (fin0 S (.raw v) q)) hd
  rw [S.H.std.gl]; exact S.top.g
theorem Ev.blt {x : Str} {pos : Pos} {v : Value} {Q : V → AS → Prop} (hk : C.env.kindOf x = some .globalImplicit) (e : nsIn C.G.K mainGlobals x = some none) (hv : bootBuiltins x = some v) (q : Q (.raw v) X) (hn : x ≠ "__name__" := by decide) (hd : (x == ("__debug__" : Str)) = false := by decide) :
    Ev C X (.Name x pos) Q := by
  intro s S
  refine Name_function_global S.H.std.fn hk (loadGlobal_builtin (mg := C.G.mg) (mb := C.G.mb) ?_ (mg_none_of S.H.std.K S.H.std.top.g e) ?_ ((S.H.std.top.builtins x hn).trans hv) (fin0 S (.raw v) q)) hd
  · rw [S.H.std.gl]; exact S.top.g
  · rw [S.H.std.bl]; exact S.top.b
theorem Ev.int {i : Int} {k : Nat} {pos : Pos} {Q : V → AS → Prop} (q : Q (.int i) X) : Ev C X (.Constant (.int i) k pos) Q := fun s S => wpAny_Constant_int (fin_tk S (.int ..) q)
theorem Ev.str {x : Str} {k : Nat} {pos : Pos} {Q : V → AS → Prop} (q : Q (.str x) X) : Ev C X (.Constant (.str x) k pos) Q := fun s S => Constant_str (fin_tk S (.str ..) q)
theorem Ev.bool {b : Bool} {k : Nat} {pos : Pos} {Q : V → AS → Prop} (q : Q (.bool b) X) : Ev C X (.Constant (.bool b) k pos) Q := fun s S => wpAny_pure (fin0 S (.bool b) q)
theorem Ev.none {k : Nat} {pos : Pos} {Q : V → AS → Prop} (q : Q .none X) : Ev C X (.Constant .none k pos) Q := fun s S => wpAny_pure (fin0 S .none q)
theorem Ev.bin {l r : Expr} {op : Operator} {pos : Pos} {Q : V → AS → Prop} (h : Ev C X l (fun x Y => Ev C Y r (fun y Z => Op2 C Z (binaryOp op) x y RV Q))) : Ev C X (.BinOp l op r pos) Q := by
  intro s S
  refine wpAny_BinOp (h.run S fun a x Y s1 q1 S1 r1 m1 => q1.run S1 fun b y Z s2 q2 S2 r2 m2 => ?_)
  exact q2.run S2 (r1.mono S1.H m2) r2 fun _ _ g => good_trans (m1.trans m2) g
theorem Ev.cmp {l r : Expr} {op : CmpOp} {pos : Pos} {Q : V → AS → Prop} (h : Ev C X l (fun x Y => Ev C Y r (fun y Z => Op2 C Z (compareOp op) x y RV Q))) (hm : behindInMarks op r = false := by with_unfolding_all rfl) : Ev C X (.Compare l [op] [r] pos) Q := by
  intro s S
  refine wpAny_Compare1 (h.run S fun a x Y s1 q1 S1 r1 m1 => q1.run S1 fun b y Z s2 q2 S2 r2 m2 => ?_) hm
  exact q2.run S2 (r1.mono S1.H m2) r2 fun _ _ g => good_trans (m1.trans m2) g
theorem Tr.cmp {l r : Expr} {op : CmpOp} {pos : Pos} {Q : Bool → AS → Prop} (h : Ev C X l (fun x Y => Ev C Y r (fun y Z => Op2 C Z (compareOp op) x y RV (fun v W => ∃ b, v = .bool b ∧ Q b W)))) (hm : behindInMarks op r = false := by with_unfolding_all rfl) : Tr C X (.Compare l [op] [r] pos) Q := by
  intro s S
  refine wpAny_isTrue_Compare1 (h.run S fun a x Y s1 q1 S1 r1 m1 => q1.run S1 fun b y Z s2 q2 S2 r2 m2 => ?_) hm
  refine q2.run S2 (r1.mono S1.H m2) r2 fun c s3 g => ?_
  obtain ⟨v, W, ⟨b, rfl, q⟩, S3, r3, m3⟩ := g
  cases r3
  exact wpAny_truthy_bool ⟨b, W, q, S3, rfl, (m1.trans m2).trans m3⟩
variable {Q : V → AS → Prop} {i j : Int}
theorem Op2.add (q : Q (.int (i + j)) X) : Op2 C X (binaryOp .Add) (.int i) (.int j) RV Q := fun s S a b ra rb => by cases ra; cases rb; exact PySem.P.add_int (fin_tk S (.int ..) q)
theorem Op2.sub (q : Q (.int (i - j)) X) : Op2 C X (binaryOp .Sub) (.int i) (.int j) RV Q := fun s S a b ra rb => by cases ra; cases rb; exact PySem.P.sub_int (fin_tk S (.int ..) q)
theorem Op2.mul (hm : IntMulOk i j) (q : Q (.int (i * j)) X) : Op2 C X (binaryOp .Mult) (.int i) (.int j) RV Q := fun s S a b ra rb => by cases ra; cases rb; exact PySem.P.mul_int (fin_tk S (.int ..) q) hm
end
section
variable {α β : Type} {C : Cx} {X : AS} {Q : V → AS → Prop} {i j : Int} {x y : V}
theorem Op2.lt (q : Q (.bool (decide (i < j))) X) : Op2 C X (compareOp .Lt) (.int i) (.int j) RV Q := fun s S a b ra rb => by cases ra; cases rb; exact PySem.P.lt_int (fin0 S (.bool _) q)
theorem Op2.le (q : Q (.bool (decide (i ≤ j))) X) : Op2 C X (compareOp .LtE) (.int i) (.int j) RV Q := fun s S a b ra rb => by cases ra; cases rb; exact PySem.P.le_int (fin0 S (.bool _) q)
theorem Op2.gt (q : Q (.bool (decide (i > j))) X) : Op2 C X (compareOp .Gt) (.int i) (.int j) RV Q := fun s S a b ra rb => by cases ra; cases rb; exact PySem.P.gt_int (fin0 S (.bool _) q)
theorem Op2.ge (q : Q (.bool (decide (i ≥ j))) X) : Op2 C X (compareOp .GtE) (.int i) (.int j) RV Q := fun s S a b ra rb => by cases ra; cases rb; exact PySem.P.ge_int (fin0 S (.bool _) q)
theorem Op2.eqi (q : Q (.bool (i == j)) X) : Op2 C X (compareOp .Eq) (.int i) (.int j) RV Q := fun s S a b ra rb => by cases ra; cases rb; exact PySem.P.eq_int (fin0 S (.bool _) q)
theorem Op2.nei (q : Q (.bool (i != j)) X) : Op2 C X (compareOp .NotEq) (.int i) (.int j) RV Q := fun s S a b ra rb => by cases ra; cases rb; exact PySem.P.ne_int (fin0 S (.bool _) q)
noncomputable def V.eqb (x y : V) : Bool := PyData.eqv x.py y.py
theorem Op2.eqD (hx : x.data = true) (hy : y.data = true) (hd : x.dep ≤ 64) (q : Q (.bool (x.eqb y)) X) : Op2 C X (compareOp .Eq) x y RV Q := fun s S a b ra rb => by
  obtain ⟨as, r⟩ := ra.reads hx
  obtain ⟨bs, r'⟩ := rb.reads hy
  exact SeqAt.compareEq_reads r r' (V.canLay _ hx) (V.canLay _ hy) (by have := V.depth_py x; have := S.H.std.units; omega) (fin0 S (.bool _) q)
theorem Op2.neD (hx : x.data = true) (hy : y.data = true) (hd : x.dep ≤ 64) (q : Q (.bool (!x.eqb y)) X) : Op2 C X (compareOp .NotEq) x y RV Q := fun s S a b ra rb => by
  obtain ⟨as, r⟩ := ra.reads hx
  obtain ⟨bs, r'⟩ := rb.reads hy
  exact SeqAt.compareNe_reads r r' (V.canLay _ hx) (V.canLay _ hy) (by have := V.depth_py x; have := S.H.std.units; omega) (fin0 S (.bool _) q)
theorem pys_any (l : List V) (f : PyData → Bool) : (V.pys l).any f = l.any fun z => f z.py := by
  induction l with
  | nil => rfl
  | cons z r ih => simp [pyC, ih]
theorem Op2.inL {l : List V} (hx : x.data = true) (hl : V.datas l = true) (hd : x.dep ≤ 64) (q : Q (.bool (l.any fun z => z.eqb x)) X) : Op2 C X (compareOp .In) x (.lst l) RV Q := fun s S a b ra rb => by
  obtain ⟨as, r⟩ := ra.reads hx
  obtain ⟨bs, r'⟩ := rb.reads (x := .lst l) hl
  exact SeqAt.in_list_reads r' r (V.canLays _ hl) (V.canLay _ hx) (by have := V.depth_py x; have := S.H.std.units; omega) (fin0 S (.bool _) (by rw [pys_any]; exact q))
theorem Op2.ninL {l : List V} (hx : x.data = true) (hl : V.datas l = true) (hd : x.dep ≤ 64) (q : Q (.bool (!l.any fun z => z.eqb x)) X) : Op2 C X (compareOp .NotIn) x (.lst l) RV Q := fun s S a b ra rb => by
  obtain ⟨as, r⟩ := ra.reads hx
  obtain ⟨bs, r'⟩ := rb.reads (x := .lst l) hl
  exact SeqAt.notIn_list_reads r' r (V.canLays _ hl) (V.canLay _ hx) (by have := V.depth_py x; have := S.H.std.units; omega) (fin0 S (.bool _) (by rw [pys_any]; exact q))
theorem Op2.inT {l : List V} (hx : x.data = true) (hl : V.datas l = true) (hd : x.dep ≤ 64) (q : Q (.bool (l.any fun z => z.eqb x)) X) : Op2 C X (compareOp .In) x (.tup l) RV Q := fun s S a b ra rb => by
  obtain ⟨as, r⟩ := ra.reads hx
  obtain ⟨bs, r'⟩ := rb.reads (x := .tup l) hl
  exact SeqAt.in_tuple_reads r' r (V.canLays _ hl) (V.canLay _ hx) (by have := V.depth_py x; have := S.H.std.units; omega) (fin0 S (.bool _) (by rw [pys_any]; exact q))
theorem MRep.data {prog : Program} {w : World} {h : Heap} {N : List Addr} {a : Addr} {l : List V} (r : MRep prog w h N a (.lst l)) (hl : V.datas l = true) : ∃ as, Reads h (.ref a) (.list (V.pys l)) as := by
  obtain ⟨vs, n, e, rl⟩ := r
  obtain ⟨as, k⟩ := rl.reads hl
  exact ⟨_, .list e rfl rfl (by simpa using k)⟩
theorem St.at {s : Shared} (S : St C X s) {k : Nat} {a : Addr} {m : MO} (hi : X.mem[k]? = some (a, m)) : MRep C.G.prog C.G.w s.heap X.N a m := S.H.mem _ (List.mem_of_getElem? hi)
theorem Op2.inM {l : List V} {a : Addr} (k : Nat) (hi : X.mem[k]? = some (a, .lst l)) (hx : x.data = true) (hl : V.datas l = true) (hd : x.dep ≤ 64) (q : Q (.bool (l.any fun z => z.eqb x)) X) : Op2 C X (compareOp .In) x (.raw (.ref a)) RV Q := fun s S a b ra rb => by
  obtain ⟨as, r⟩ := ra.reads hx
  cases rb
  obtain ⟨bs, r'⟩ := (S.at hi).data hl
  exact SeqAt.in_list_reads r' r (V.canLays _ hl) (V.canLay _ hx) (by have := V.depth_py x; have := S.H.std.units; omega) (fin0 S (.bool _) (by rw [pys_any]; exact q))
theorem Op2.ninM {l : List V} {a : Addr} (k : Nat) (hi : X.mem[k]? = some (a, .lst l)) (hx : x.data = true) (hl : V.datas l = true) (hd : x.dep ≤ 64) (q : Q (.bool (!l.any fun z => z.eqb x)) X) : Op2 C X (compareOp .NotIn) x (.raw (.ref a)) RV Q := fun s S a b ra rb => by
  obtain ⟨as, r⟩ := ra.reads hx
  cases rb
  obtain ⟨bs, r'⟩ := (S.at hi).data hl
  exact SeqAt.notIn_list_reads r' r (V.canLays _ hl) (V.canLay _ hx) (by have := V.depth_py x; have := S.H.std.units; omega) (fin0 S (.bool _) (by rw [pys_any]; exact q))
theorem Op2.neM {l : List V} {a : Addr} (k : Nat) (hi : X.mem[k]? = some (a, .lst l)) (hy : y.data = true) (hl : V.datas l = true) (hd : y.dep ≤ 64) (q : Q (.bool (!(V.lst l).eqb y)) X) : Op2 C X (compareOp .NotEq) (.raw (.ref a)) y RV Q := fun s S a b ra rb => by
  obtain ⟨as, r⟩ := rb.reads hy
  cases ra
  obtain ⟨bs, r'⟩ := (S.at hi).data hl
  exact SeqAt.compareNe_reads (da := (V.lst l).py) r' r (V.canLay (.lst l) hl) (V.canLay _ hy) (by have := V.depth_py y; have := S.H.std.units; omega) (fin0 S (.bool _) q)
theorem not_sys {s : Shared} (S : St C X s) {k : Nat} {a : Addr} {m : MO} (hi : X.mem[k]? = some (a, m)) : (a == sysModules) = false := by
  have := S.H.big a (List.mem_cons_of_mem _ (List.mem_append_right _ (List.mem_map.mpr ⟨_, List.mem_of_getElem? hi, rfl⟩)))
  have h3 : @LT.lt Nat _ 3 a := this
  have h1 : ¬ @Eq Nat a 1 := by omega
  simpa [sysModules] using h1
noncomputable def lookK {K : Type} [DecidableEq K] (kvs : List (K × V)) (k : K) : Option V := (kvs.find? fun p => decide (p.1 = k)).map (·.2)
theorem KH.is {h : Heap} {N : List Addr} {vs : List (Key × Addr × Value)} {l : List (Key × V)} (r : KH h N vs l) : ∀ x ∈ vs, Rep h [] (.ref x.2.1) x.1.v := by
  induction l generalizing vs with
  | nil => rw [r.nil_inv]; exact fun x hx => absurd hx List.not_mem_nil
  | cons e l ih =>
    obtain ⟨a, v, ws, hv, p, _, r⟩ := r.inv
    rw [hv]
    intro x hx
    rcases List.mem_cons.mp hx with hx | hx
    · rw [hx]; exact p.map fun _ _ e _ _ => ⟨e, List.not_mem_nil⟩
    · exact ih r x hx
theorem KH.look {h : Heap} {N : List Addr} {k : Key} {vs : List (Key × Addr × Value)} {l : List (Key × V)} (r : KH h N vs l) : match lookK l k with
    | none => atKey vs k = none
    | some y => ∃ p, atKey vs k = some p ∧ Rep h N p.2 y := by
  induction l generalizing vs with
  | nil => rw [r.nil_inv]; rfl
  | cons e l ih =>
    obtain ⟨a, v, ws, hv, _, b, r⟩ := r.inv
    rw [hv]
    have ih := ih r
    unfold lookK atKey at *
    simp only [List.find?_cons]
    by_cases hk : e.1 = k
    · simp [hk, b]
    · simpa [hk] using ih
theorem MRep.dictK {prog : Program} {w : World} {h : Heap} {N : List Addr} {a : Addr} {l : List (Key × V)} (r : MRep prog w h N a (.dK l)) : ∃ xs, h.DictOfH (kk prog w) a xs ∧ KH h N xs l := by
  obtain ⟨o, es, ep, xs, e, r1, r2, r3, r4, q⟩ := r
  exact ⟨xs, ⟨o, es, ep, e, r1, r2, r3, fun x hx => q.is x hx, r4⟩, q⟩
theorem key_ref {h : Heap} {N : List Addr} {v : Value} {k : Key} (r : Rep h N v k.v) : ∃ a, v = .ref a ∧ Rep h [] (.ref a) k.v := by
  have r' : Rep h [] v k.v := r.map fun _ _ e _ _ => ⟨e, by simp⟩
  cases k <;> (obtain ⟨a, _, hv, _⟩ := Rep.tup_inv r; rw [hv] at r' ⊢; exact ⟨a, rfl, r'⟩)
theorem Op2.ninK {kvs : List (Key × V)} {d : Addr} {key : Key} (k : Nat) (hi : X.mem[k]? = some (d, .dK kvs)) (q : Q (.bool (lookK kvs key).isNone) X) : Op2 C X (compareOp .NotIn) key.v (.raw (.ref d)) RV Q := fun s S a b ra rb => by
  cases rb
  obtain ⟨xs, hd, hk⟩ := (S.at hi).dictK
  obtain ⟨a', rfl, ra'⟩ := key_ref ra
  refine wpAny_notIn_heap (knd := kk C.G.prog C.G.w) (k := key) ?_ ra' (not_sys S hi) hd ?_
  · show C.A.in1.units + 10 < cLine
    have := S.H.std.units; show C.A.units + 1 + 10 < cLine; omega
  · have := hk.look (k := key)
    cases hl : lookK kvs key with
    | none => rw [hl] at this q; rw [this]; exact fin_tk S (.bool _) q
    | some y => rw [hl] at this q; obtain ⟨p, e, _⟩ := this; rw [e]; exact fin_tk S (.bool _) q
theorem Tr.plain {e : Expr} {Q : Bool → AS → Prop} (h : Ev C X e (fun v Y => ∃ b, v = .bool b ∧ Q b Y)) (he : isTrue e C.env (eval e C.env) = (do let v ← eval e C.env; standAt e.pos; holding [v] (truthy v)) := by rfl) : Tr C X e Q := by
  intro s S
  refine isTrue_plain (h.run S fun a v Y s1 q1 S1 r1 m1 => ?_) he
  obtain ⟨b, rfl, q⟩ := q1
  cases r1
  exact wpAny_truthy_bool ⟨b, Y, q, S1, rfl, m1⟩
theorem Tr.not {e : Expr} {pos : Pos} {Q : Bool → AS → Prop} (h : Tr C X e (fun b Y => Q (!b) Y)) : Tr C X (.UnaryOp .Not e pos) Q := by
  intro s S
  refine isTrue_not (h.run S fun a v Y s1 q1 S1 r1 m1 => ?_)
  cases r1
  exact ⟨_, Y, q1, S1, rfl, m1⟩
theorem Tr.and {e : Expr} {r : List Expr} {pos : Pos} {Q : Bool → AS → Prop} (h : Tr C X e (fun b Y => if b = true then Tr C Y (.BoolOp .And r pos) Q else Q false Y)) : Tr C X (.BoolOp .And (e :: r) pos) Q := by
  intro s S
  refine isTrue_and (h.run S fun a v Y s1 q1 S1 r1 m1 => ?_)
  cases r1
  cases a with
  | true => exact TW.runG (show TW C Y _ _ _ from q1) S1 fun _ _ g => good_trans m1 g
  | false => exact ⟨_, Y, q1, S1, rfl, m1⟩
theorem Tr.or {e : Expr} {r : List Expr} {pos : Pos} {Q : Bool → AS → Prop} (h : Tr C X e (fun b Y => if b = true then Q true Y else Tr C Y (.BoolOp .Or r pos) Q)) : Tr C X (.BoolOp .Or (e :: r) pos) Q := by
  intro s S
  refine isTrue_or (h.run S fun a v Y s1 q1 S1 r1 m1 => ?_)
  cases r1
  cases a with
  | true => exact ⟨_, Y, q1, S1, rfl, m1⟩
  | false => exact TW.runG (show TW C Y _ _ _ from q1) S1 fun _ _ g => good_trans m1 g
theorem Tr.and0 {pos : Pos} {Q : Bool → AS → Prop} (q : Q true X) : Tr C X (.BoolOp .And [] pos) Q := fun s S => isTrue_and_nil ⟨_, X, q, S, rfl, Mono.refl _ _ _⟩
theorem Tr.or0 {pos : Pos} {Q : Bool → AS → Prop} (q : Q false X) : Tr C X (.BoolOp .Or [] pos) Q := fun s S => isTrue_or_nil ⟨_, X, q, S, rfl, Mono.refl _ _ _⟩
theorem Ev.ite {t b o : Expr} {pos : Pos} (h : Tr C X t (fun c Y => if c = true then Ev C Y b Q else Ev C Y o Q)) : Ev C X (.IfExp t b o pos) Q := by
  intro s S
  refine IfExp_ (h.run S fun c c' Y s1 q1 S1 r1 m1 => ?_)
  cases r1
  cases c with
  | true => exact TW.runG (show Ev C Y b Q from q1) S1 fun _ _ g => good_trans m1 g
  | false => exact TW.runG (show Ev C Y o Q from q1) S1 fun _ _ g => good_trans m1 g
theorem Ev.one {op : BoolOp} {e : Expr} {pos : Pos} (h : Ev C X e Q) : Ev C X (.BoolOp op [e] pos) Q := fun s S => BoolOp_one (h s S)
theorem Ev.and {e e' : Expr} {r : List Expr} {pos : Pos} (h : Ev C X e (fun v Y => ∃ b, v = .bool b ∧ if b = true then Ev C Y (.BoolOp .And (e' :: r) pos) Q else Q (.bool false) Y)) : Ev C X (.BoolOp .And (e :: e' :: r) pos) Q := by
  intro s S
  refine BoolOp_and (h.run S fun a v Y s1 q1 S1 r1 m1 => ?_)
  obtain ⟨b, rfl, q⟩ := q1
  cases r1
  refine wpAny_truthy_bool ?_
  cases b with
  | true => exact TW.runG (show Ev C Y _ Q from q) S1 fun _ _ g => good_trans m1 g
  | false => exact ⟨_, Y, q, S1, .bool _, m1⟩
theorem Ev.or {e e' : Expr} {r : List Expr} {pos : Pos} (h : Ev C X e (fun v Y => ∃ b, v = .bool b ∧ if b = true then Q (.bool true) Y else Ev C Y (.BoolOp .Or (e' :: r) pos) Q)) : Ev C X (.BoolOp .Or (e :: e' :: r) pos) Q := by
  intro s S
  refine BoolOp_or (h.run S fun a v Y s1 q1 S1 r1 m1 => ?_)
  obtain ⟨b, rfl, q⟩ := q1
  cases r1
  refine wpAny_truthy_bool ?_
  cases b with
  | true => exact ⟨_, Y, q, S1, .bool _, m1⟩
  | false => exact TW.runG (show Ev C Y _ Q from q) S1 fun _ _ g => good_trans m1 g
theorem Ev.un {e : Expr} {op : UnaryOp} {pos : Pos} (h : Ev C X e (fun x Y => Op1 C Y (unaryOp op) x RV Q)) : Ev C X (.UnaryOp op e pos) Q := by
  intro s S
  exact UnaryOp_ (h.run S fun a v Y s1 q1 S1 r1 m1 => q1.run S1 r1 fun _ _ g => good_trans m1 g)
theorem Op1.not {b : Bool} (q : Q (.bool (!b)) X) : Op1 C X (unaryOp .Not) (.bool b) RV Q := fun s S a ra => by cases ra; exact not_of (wpAny_truthy_bool (fin0 S (.bool _) q))
theorem Op1.neg (q : Q (.int (-i)) X) : Op1 C X (unaryOp .USub) (.int i) RV Q := fun s S a ra => by cases ra; exact PySem.P.neg_int (fin_tk S (.int ..) q)
noncomputable abbrev EvL (C : Cx) (X : AS) (pos : Pos) (es : List Expr) (Q : List V → AS → Prop) : Prop := TW C X (spliced (backTo pos (starEach es C.env))) RL Q
theorem EvL.nil {pos : Pos} {Q : List V → AS → Prop} (q : Q [] X) : EvL C X pos [] Q := fun s S => spliced_nil (fin0 S .nil q)
theorem EvL.cons {pos : Pos} {e : Expr} {r : List Expr} {Q : List V → AS → Prop} (h : Ev C X e (fun x Y => EvL C Y pos r (fun l Z => Q (x :: l) Z))) (he : starEach (e :: r) C.env = (false, eval e C.env) :: starEach r C.env := by rfl) : EvL C X pos (e :: r) Q := by
  intro s S
  have e1 : backTo pos (starEach (e :: r) C.env) = (false, eval e C.env) :: backTo pos (starEach r C.env) := by rw [he]; rfl
  rw [e1]
  refine spliced_cons (h.run S fun a x Y s1 q1 S1 r1 m1 => q1.run S1 fun vs l Z s2 q2 S2 r2 m2 => ?_)
  exact ⟨_, Z, q2, S2, .cons (r1.mono S1.H m2) r2, m1.trans m2⟩
theorem push_tup {s : Shared} (S : St C X s) {vs : List Value} {l : List V} (r : RepL s.heap X.N vs l) : Rep (s.heap.push { cls := .type "tuple", data := .seq vs.toArray }) X.N (.ref s.heap.objs.size) (.tup l) :=
  .tup (Heap.get?_push_size _ rfl) (N_of_muts S.H.fresh) (r.mono S.H (Mono.push _))
theorem push_lst {s : Shared} (S : St C X s) {vs : List Value} {l : List V} (r : RepL s.heap X.N vs l) : Rep (s.heap.push { cls := .type "list", data := .seq vs.toArray }) X.N (.ref s.heap.objs.size) (.lst l) :=
  .lst (Heap.get?_push_size _ rfl) (N_of_muts S.H.fresh) (r.mono S.H (Mono.push _))
theorem wp_newTuple {s : Shared} (S : St C X s) {vs : List Value} {l : List V} (r : RepL s.heap X.N vs l) (hz : l.length ≤ sizeLine) (q : Q (.tup l) X) {A : Around} {E : Value → Shared → Prop} : wpAny (model C.G.prog C.G.w) A (newTuple vs) (Good C X s.heap RV Q) E s := by
  unfold newTuple
  exact wpAny_newObj_type (fin S (S.H.push _) (Mono.push _) (push_tup S r) q) (by show vs.toArray.size ≤ sizeLine; rw [List.size_toArray, r.length]; exact hz)
theorem Ev.tup {es : List Expr} {k : Nat} {pos : Pos} (h : EvL C X pos es (fun l Y => l.length ≤ sizeLine ∧ Q (.tup l) Y)) : Ev C X (.Tuple es k pos) Q := by
  intro s S
  refine Tuple_ (h.run S fun vs l Y s1 q1 S1 r1 m1 => ?_)
  exact wpAny_mono (wp_newTuple S1 r1 q1.1 q1.2 (E := fun _ _ => False)) (fun a s' g => good_trans m1 g) fun _ _ e => e
theorem Ev.lst {es : List Expr} {pos : Pos} (h : EvL C X pos es (fun l Y => l.length ≤ sizeLine ∧ Q (.lst l) Y)) : Ev C X (.List es pos) Q := by
  intro s S
  refine List_ (h.run S fun vs l Y s1 q1 S1 r1 m1 => ?_)
  unfold newList
  exact wpAny_newObj_type (good_trans m1 (fin S1 (S1.H.push _) (Mono.push _) (push_lst S1 r1) q1.2)) (by show vs.toArray.size ≤ sizeLine; rw [List.size_toArray, r1.length]; exact q1.1)
theorem Ev.mlst {es : List Expr} {pos : Pos} (h : EvL C X pos es (fun l Y => l.length ≤ sizeLine ∧ ∀ a, Q (.raw (.ref a)) { Y with mem := (a, .lst l) :: Y.mem })) : Ev C X (.List es pos) Q := by
  intro s S
  refine List_ (h.run S fun vs l Y s1 q1 S1 r1 m1 => ?_)
  unfold newList
  refine wpAny_newObj_type (good_trans m1 (fin S1 (Y := { Y with mem := (s1.heap.objs.size, .lst l) :: Y.mem }) (S1.H.alloc (mo := .lst l) ⟨vs, 0, Heap.get?_push_size _ rfl, ?_⟩) (Mono.alloc _ _) (.raw _) (q1.2 _))) (by show vs.toArray.size ≤ sizeLine; rw [List.size_toArray, r1.length]; exact q1.1)
  exact r1.map (StH.keep S1.H (Mono.alloc _ (.lst l)))
end
end
section
noncomputable def slotsOf (ps : List (Str × V)) : Nat → List (Str × NameKind) → List Sl
  | _, [] => []
  | n, (x, .local) :: r => ⟨x, none, ps.lookup x⟩ :: slotsOf ps n r
  | n, (x, .cell) :: r => ⟨x, some n, ps.lookup x⟩ :: slotsOf ps (n + 1) r
  | n, (_, .free) :: r => slotsOf ps n r
  | n, (_, .globalExplicit) :: r => slotsOf ps n r
  | n, (_, .globalImplicit) :: r => slotsOf ps n r
theorem cellsFrom_acc {x : Str} : ∀ (names : List (Str × NameKind)) (n : Nat) (acc : List (Str × Addr)), x ∉ names.map (·.1) → (cellsFrom n names acc).lookup x = acc.lookup x
  | [], _, _, _ => rfl
  | (y, k) :: r, n, acc, h => by
    simp only [List.map_cons, List.mem_cons, not_or] at h
    unfold cellsFrom
    split
    · rw [cellsFrom_acc r _ _ h.2, List.lookup_cons, beq_false_of_ne h.1]
    · exact cellsFrom_acc r _ _ h.2
inductive SoE (n : Nat) (names : List (Str × NameKind)) (acc : List (Str × Addr)) (e : Sl) : Prop where
  | loc : e.cell = none → names.lookup e.name = some .local → SoE n names acc e
  | cell (c : Addr) : e.cell = some c → n ≤ c → names.lookup e.name = some .cell → (cellsFrom n names acc).lookup e.name = some c → SoE n names acc e
theorem SoE.step {n m : Nat} {y : Str} {k : NameKind} {r : List (Str × NameKind)} {acc acc' : List (Str × Addr)} {e : Sl} {p : Prop} (hy : y ∉ r.map (·.1)) (hc : n ≤ m) (hf : cellsFrom n ((y, k) :: r) acc = cellsFrom m r acc') (h : p ∧ e.name ∈ r.map (·.1) ∧ SoE m r acc' e) :
    p ∧ e.name ∈ ((y, k) :: r).map (·.1) ∧ SoE n ((y, k) :: r) acc e := by
  obtain ⟨a1, a2, a3⟩ := h
  have hl : ((y, k) :: r).lookup e.name = r.lookup e.name := by rw [List.lookup_cons, beq_false_of_ne (show e.name ≠ y from fun q => hy (q ▸ a2))]
  refine ⟨a1, .tail _ a2, ?_⟩
  cases a3 with
  | loc a b => exact .loc a (hl.trans b)
  | cell c a b d f => exact .cell c a (Nat.le_trans hc b) (hl.trans d) (by rw [hf]; exact f)
theorem slotsOf_spec (ps : List (Str × V)) (names : List (Str × NameKind)) : ∀ (n : Nat) (acc : List (Str × Addr)), (names.map (·.1)).Nodup → ∀ e ∈ slotsOf ps n names,
    e.val = ps.lookup e.name ∧ e.name ∈ names.map (·.1) ∧ SoE n names acc e := by
  induction names with
  | nil => intro n acc _ e he; exact (List.not_mem_nil he).elim
  | cons x r ih =>
    obtain ⟨y, k⟩ := x
    intro n acc hn e he
    have hd := List.nodup_cons.mp (show (y :: r.map (·.1)).Nodup from hn)
    cases k with
    | «local» =>
      rcases List.mem_cons.mp (show e ∈ (⟨y, none, ps.lookup y⟩ : Sl) :: slotsOf ps n r from he) with rfl | he
      · exact ⟨rfl, .head _, .loc rfl List.lookup_cons_self⟩
      · exact SoE.step hd.1 (Nat.le_refl n) rfl (ih n acc hd.2 e he)
    | cell =>
      rcases List.mem_cons.mp (show e ∈ (⟨y, some n, ps.lookup y⟩ : Sl) :: slotsOf ps (n + 1) r from he) with rfl | he
      · exact ⟨rfl, .head _, .cell n rfl (Nat.le_refl _) List.lookup_cons_self ((cellsFrom_acc r (n + 1) ((y, n) :: acc) hd.1).trans List.lookup_cons_self)⟩
      · exact SoE.step hd.1 (Nat.le_succ n) rfl (ih (n + 1) ((y, n) :: acc) hd.2 e he)
    | free => exact SoE.step hd.1 (Nat.le_refl n) rfl (ih n acc hd.2 e he)
    | globalExplicit => exact SoE.step hd.1 (Nat.le_refl n) rfl (ih n acc hd.2 e he)
    | globalImplicit => exact SoE.step hd.1 (Nat.le_refl n) rfl (ih n acc hd.2 e he)
theorem slotsOf_names (ps : List (Str × V)) (names : List (Str × NameKind)) : ∀ n : Nat, ((slotsOf ps n names).map (·.name)).Sublist (names.map (·.1)) := by
  induction names with
  | nil => exact fun _ => .slnil
  | cons x r ih => obtain ⟨y, k⟩ := x; intro n; cases k <;> first | exact (ih _).cons_cons _ | exact (ih _).cons _
theorem slotsOf_cells (ps : List (Str × V)) (names : List (Str × NameKind)) : ∀ n : Nat, ((slotsOf ps n names).filterMap (·.cell)).Nodup ∧ ∀ c ∈ (slotsOf ps n names).filterMap (·.cell), n ≤ c := by
  induction names with
  | nil => exact fun n => ⟨.nil, fun _ h => (List.not_mem_nil h).elim⟩
  | cons x r ih =>
    obtain ⟨y, k⟩ := x
    intro n
    cases k <;> try exact ih n
    obtain ⟨a, b⟩ := ih (n + 1)
    refine ⟨List.nodup_cons.mpr ⟨fun h => absurd (b _ h) (Nat.not_succ_le_self n), a⟩, fun c hc => ?_⟩
    rcases List.mem_cons.mp hc with rfl | hc
    · exact Nat.le_refl _
    · exact Nat.le_of_succ_le (b _ hc)
theorem bindL_at {kindOf : Str → Option NameKind} {x : Str} (hk : kindOf x = some .local) : ∀ (binds : List (Str × Value)) (m : Str → Option Value), (binds.map (·.1)).Nodup → bindL kindOf binds m x = (binds.lookup x).or (m x)
  | [], _, _ => rfl
  | (n, v) :: r, m, h => by
    simp only [List.map_cons, List.nodup_cons] at h
    unfold bindL
    rw [bindL_at hk r _ h.2, List.lookup_cons]
    by_cases q : x = n
    · subst q
      have : r.lookup x = none := by
        rw [List.lookup_eq_none_iff]
        intro p hp
        have : ¬ x = p.1 := fun e => h.1 (e ▸ List.mem_map_of_mem hp)
        simpa using this
      simp [this, hk]
    · simp only [beq_false_of_ne q]
      split <;> simp [q]
theorem bindC_at {kindOf : Str → Option NameKind} {x : Str} (hk : kindOf x = some .cell) : ∀ (binds : List (Str × Value)) (m : Str → Option Value), (binds.map (·.1)).Nodup → bindC kindOf binds m x = (binds.lookup x).or (m x)
  | [], _, _ => rfl
  | (n, v) :: r, m, h => by
    simp only [List.map_cons, List.nodup_cons] at h
    unfold bindC
    rw [bindC_at hk r _ h.2, List.lookup_cons]
    by_cases q : x = n
    · subst q
      have : r.lookup x = none := by
        rw [List.lookup_eq_none_iff]
        intro p hp
        have : ¬ x = p.1 := fun e => h.1 (e ▸ List.mem_map_of_mem hp)
        simpa using this
      simp [this, hk]
    · simp only [beq_false_of_ne q]
      split <;> simp [q]
theorem zip_lookup {h : Heap} {N : List Addr} {ns : List Str} {vs : List Value} {xs : List V} {y : Str} {x : V} (r : RepL h N vs xs) (e : (ns.zip xs).lookup y = some x) : ∃ v, (ns.zip vs).lookup y = some v ∧ Rep h N v x := by
  induction ns generalizing vs xs with
  | nil => cases e
  | cons n ns ih =>
    cases xs with
    | nil => cases e
    | cons z xs =>
      obtain ⟨_, _, ⟨⟩, a, r⟩ := r
      simp only [List.zip_cons_cons, List.lookup_cons] at e ⊢
      by_cases q : y = n
      · rw [q, beq_self_eq_true] at e ⊢; cases e; exact ⟨_, rfl, a⟩
      · rw [beq_false_of_ne q] at e ⊢; exact ih r e
theorem zip_fst_sub {α β : Type} : ∀ (a : List α) (b : List β), ((a.zip b).map (·.1)).Sublist a
  | [], _ => by simp
  | x :: a, [] => by simp
  | x :: a, y :: b => by simpa using zip_fst_sub a b
noncomputable def Ret (fl : Fl) (v : V) : Prop := match fl with | .ret x => v = x | .next => v = .none | .brk => False | .cont => False
theorem Ret.ret (v : V) : Ret (.ret v) v := rfl
theorem Ret.next : Ret .next .none := rfl
noncomputable abbrev envC (scope : Scope) (L a : Addr) (qual : Str) (cd : Value) : Env := newEnv scope L mainGlobals (cellsFrom (L + 1) scope.names []) (qual ++ ".<locals>.") (some a) cd none builtinsNs
noncomputable abbrev cxC (G : GCx) (n : Nat) (A : Around) (scope : Scope) (L a : Addr) (qual : Str) (cd : Value) (cells : List Addr) (Kp : Addr → Obj → Prop) : Cx := ⟨G, n, A, envC scope L a qual cd, cells, Kp⟩
inductive Out (ρ : List Sl) (Q : V → AS → Prop) (fl : Fl) (Y : AS) : Prop where
  | mk (v : V) (Z : AS) : Ret fl v → Z.ρ = ρ → Z.mem.Sublist Y.mem → Q v Z → Out ρ Q fl Y
theorem len0 {P : List Value → Prop} (h : P []) (vs : List Value) (e : vs.length = 0) : P vs := by rw [List.eq_nil_of_length_eq_zero e]; exact h
theorem lenS {n : Nat} {P : List Value → Prop} (h : ∀ a, ∀ vs : List Value, vs.length = n → P (a :: vs)) (vs : List Value) (e : vs.length = n + 1) : P vs := by
  cases vs with
  | nil => cases e
  | cons a t => exact h a t (Nat.succ.inj e)
theorem len1 {P : List Value → Prop} (h : ∀ a, P [a]) : ∀ vs : List Value, vs.length = 1 → P vs := lenS fun a => len0 (h a)
theorem len2 {P : List Value → Prop} (h : ∀ a b, P [a, b]) : ∀ vs : List Value, vs.length = 2 → P vs := lenS fun a => len1 (h a)
theorem len3 {P : List Value → Prop} (h : ∀ a b c, P [a, b, c]) : ∀ vs : List Value, vs.length = 3 → P vs := lenS fun a => len2 (h a)
theorem len4 {P : List Value → Prop} (h : ∀ a b c d, P [a, b, c, d]) : ∀ vs : List Value, vs.length = 4 → P vs := lenS fun a => len3 (h a)
theorem len5 {P : List Value → Prop} (h : ∀ a b c d e, P [a, b, c, d, e]) : ∀ vs : List Value, vs.length = 5 → P vs := lenS fun a => len4 (h a)
theorem OpL.fn {C : Cx} {X : AS} {a : Addr} {xs : List V} {Q : V → AS → Prop} {name qual : Str} {params : Arguments} {body : List Stmt} {scope : Scope} {dV kV doc pm cdv ct oc : Value} {an od : Option Addr} {osl : Array (Option Value)} {n : Nat}
    (ho : C.G.K.lookup a = some ⟨oc, od, .func (fnOf name qual params body scope dV kV doc pm an cdv ct), osl⟩) (hcd : codeIn C.G.K cdv qual = true) (hlv : C.lv = n + 1)
    (hargs : ∀ vs : List Value, vs.length = xs.length → bindArgs (fnOf name qual params body scope dV kV doc pm an cdv ct) ⟨vs, []⟩ = pure ((params.args.map (·.arg)).zip vs))
    (hkinds : ∀ p ∈ params.args.map (·.arg), scope.names.lookup p = some .local ∨ scope.names.lookup p = some .cell) (hpn : (params.args.map (·.arg)).Nodup) (hnames : (scope.names.map (·.1)).Nodup)
    (hco : scope.isCoroutine = false) (hgen : scope.isGenerator = false) (hk : scope.kind = .function)
    (h : ∀ (L : Addr) (A : Around) (Kp : Addr → Obj → Prop), (∀ b o, C.Kp b o → Kp b o) →
      Exs (cxC C.G n A scope L a qual cdv ((slotsOf ((params.args.map (·.arg)).zip xs) (L + 1) scope.names).filterMap (·.cell)) Kp) ⟨slotsOf ((params.args.map (·.arg)).zip xs) (L + 1) scope.names, X.mem⟩ body
        (Out X.ρ Q)) :
    OpL C X (fun vs => call (.ref a) vs) xs RV Q := by
  intro s S vs r
  have std := S.H.std
  have hd1 := std.depth
  have hu1 := std.units
  rw [hlv] at hd1 hu1
  have hlen : vs.length = xs.length := r.length
  have hbn : (((params.args.map (·.arg)).zip vs).map (·.1)).Nodup := by
    exact hpn.sublist (zip_fst_sub _ _)
  have hbm : ∀ p ∈ ((params.args.map (·.arg)).zip vs), p.1 ∈ params.args.map (·.arg) := fun p hp => (List.of_mem_zip hp).1
  show wpAny (model C.G.prog C.G.w) C.A (call (.ref a) vs) _ _ s
  refine wpAny_call (codeAny_call_function (by omega) (S.K _ _ ho) rfl hco hgen rfl (codeRec_of S.K hcd) ?_)
  rw [hargs vs hlen]
  refine wpAny_pure (wpAny_newFunctionEnv_cells hk ?_ fun env' he s' x => ?_)
  · intro p hp
    rcases hkinds p.1 (hbm p hp) with q | q
    · exact .inl q
    · exact .inr ⟨q, cellsFrom_some _ _ _ (.inl q)⟩
  · have heL : env' = envC scope s.heap.objs.size a qual cdv := he
    clear he
    subst heL
    have x' : InCallC s s.heap.objs.size (bindL (envC scope s.heap.objs.size a qual cdv).kindOf ((params.args.map (·.arg)).zip vs) fun _ => none) (cellsFrom (s.heap.objs.size + 1) scope.names [])
      (bindC (envC scope s.heap.objs.size a qual cdv).kindOf ((params.args.map (·.arg)).zip vs) fun _ => none) s' := x
    obtain ⟨h', tk, rfl, keep⟩ := x'.done
    refine ⟨S.top.nolimit.keeps keep, codeAny_func ?_⟩
    have hns : h'.Ns s.heap.objs.size _ := x'.toInCall.ns
    have spec := slotsOf_spec ((params.args.map (·.arg)).zip xs) scope.names (s.heap.objs.size + 1) [] hnames
    have scells := slotsOf_cells ((params.args.map (·.arg)).zip xs) scope.names (s.heap.objs.size + 1)
    have hXN : ∀ b ∈ X.N, @LT.lt Nat _ b s.heap.objs.size := fun b hb => S.H.lt (List.mem_cons_of_mem _ (List.mem_append_right _ hb))
    have kseq : ∀ (b : Addr) (o : Obj), s.heap.get? b = some o → SeqObj o → b ∉ X.N → h'.get? b = some o ∧ b ∉ X.N := fun b o e _ q => ⟨keep b o e, q⟩
    have S' : St (cxC C.G n (C.A.deeper (envC scope s.heap.objs.size a qual cdv)) scope s.heap.objs.size a qual cdv ((slotsOf ((params.args.map (·.arg)).zip xs) (s.heap.objs.size + 1) scope.names).filterMap (·.cell)) (fun b o => s.heap.get? b = some o ∧ b ∉ X.N))
        ⟨slotsOf ((params.args.map (·.arg)).zip xs) (s.heap.objs.size + 1) scope.names, X.mem⟩ { s with heap := h', toks := tk } := by
      refine ⟨⟨⟨hk, rfl, rfl, ⟨_, rfl⟩, fun b o e => ⟨S.base b o e, fun hm => S.H.apart b (List.mem_cons_of_mem _ (List.mem_append_right _ hm)) o (std.base b o e)⟩, std.top, std.K, std.hand, ?_, ?_⟩, fun b o e => keep b o e.1, ?_, ?_, ?_, ⟨_, hns, ?_⟩, ?_, ?_, scells.1, ?_⟩, S.gens, S.os⟩
      · show C.A.depth + 1 + 20 * n < recursionLimit; omega
      · show C.A.units + 3 + 100 * n + 300 < cLine; omega
      · intro b hb o ⟨e, hn⟩
        rcases List.mem_cons.mp hb with rfl | hb
        · exact absurd (Heap.lt_size e) (Nat.lt_irrefl _)
        · rcases List.mem_append.mp hb with hb | hb
          · exact absurd (Heap.lt_size e) (Nat.not_lt.mpr (Nat.le_of_succ_le (scells.2 b hb)))
          · exact hn hb
      · intro b hb
        have h3 := S.H.big3
        rcases List.mem_cons.mp hb with rfl | hb
        · exact h3
        · rcases List.mem_append.mp hb with hb | hb
          · exact Nat.lt_trans h3 (scells.2 b hb)
          · exact S.H.big b (List.mem_cons_of_mem _ (List.mem_append_right _ hb))
      · refine List.nodup_cons.mpr ⟨fun hb => ?_, List.nodup_append.mpr ⟨scells.1, (List.nodup_append.mp (List.nodup_cons.mp S.H.nodup).2).2.1, fun b hb c hc e => ?_⟩⟩
        · rcases List.mem_append.mp hb with hb | hb
          · exact absurd (scells.2 _ hb) (Nat.not_succ_le_self _)
          · exact absurd (hXN _ hb) (Nat.lt_irrefl _)
        · subst e; exact absurd (hXN _ hc) (Nat.not_lt.mpr (Nat.le_of_succ_le (scells.2 b hb)))
      · intro e he
        obtain ⟨e1, e2, e3⟩ := spec e he
        (try unfold SlotRep); unfold SlotRepE
        rcases e3 with ⟨c1, c2⟩ | ⟨c, c1, c2, c3, c4⟩
        · rw [c1]
          refine ⟨c2, fun v hv => ?_⟩
          rw [e1] at hv
          obtain ⟨val, l1, l2⟩ := zip_lookup r hv
          refine ⟨val, ?_, l2.map kseq⟩
          rw [bindL_at c2 _ _ hbn, l1]; rfl
        · rw [c1]
          obtain ⟨o, ho', hd'⟩ := x'.cell e.name c c4
          refine ⟨.inl c3, c4, fun hm => ?_, fun q => ?_, o, _, ho', hd', fun v hv => ?_⟩
          · exact absurd (hXN _ hm) (Nat.not_lt.mpr (Nat.le_of_succ_le c2))
          · have : c = s.heap.objs.size := q
            subst this; exact absurd c2 (Nat.not_succ_le_self _)
          · rw [e1] at hv
            obtain ⟨val, l1, l2⟩ := zip_lookup r hv
            refine ⟨val, ?_, l2.map kseq⟩
            rw [bindC_at c3 _ _ hbn, l1]; rfl
      · intro c hc
        obtain ⟨e, he, hec⟩ := List.mem_filterMap.mp hc
        obtain ⟨e1, e2, e3⟩ := spec e he
        rcases e3 with ⟨c1, c2⟩ | ⟨c', c1, c2, c3, c4⟩
        · rw [c1] at hec; cases hec
        · rw [c1] at hec; cases hec
          obtain ⟨o, ho', hd'⟩ := x'.cell e.name _ c4
          exact ⟨o, _, ho', hd'⟩
      · exact hnames.sublist (slotsOf_names _ _ _)
      · intro p hp
        exact (S.H.mem p hp).map kseq fun o e => keep _ _ e
    have hrun := h s.heap.objs.size (C.A.deeper (envC scope s.heap.objs.size a qual cdv)) (fun b o => s.heap.get? b = some o ∧ b ∉ X.N)
      (fun b o e => ⟨S.H.kept b o e, fun hm => S.H.apart b (List.mem_cons_of_mem _ (List.mem_append_right _ hm)) o e⟩)
    refine hrun.run S' fun f fl Y s'' q S'' rf mo => ?_
    obtain ⟨v, Z, hret, hZ, hsub, hq⟩ := q
    have kept' : ∀ (b : Addr) (o : Obj), s.heap.get? b = some o → b ∉ X.N → s''.heap.get? b = some o := fun b o e hn => S''.H.kept b o ⟨e, hn⟩
    have hZN : ∀ b ∈ Z.N, b ∈ X.N ∨ s.heap.get? b = none := fun b hb => by
      cases e : s.heap.get? b with
      | none => exact .inr rfl
      | some o =>
        refine .inl (Classical.byContradiction fun hn => ?_)
        exact S''.H.apart b (List.mem_cons_of_mem _ (List.mem_append_right _ ((hsub.map _).subset hb))) o ⟨e, hn⟩
    have kseq' : ∀ (b : Addr) (o : Obj), s.heap.get? b = some o → SeqObj o → b ∉ X.N → s''.heap.get? b = some o ∧ b ∉ Z.N := fun b o e _ hn => ⟨kept' b o e hn, fun hb => by
      rcases hZN b hb with q | q
      · exact hn q
      · rw [e] at q; cases q⟩
    have hLN : C.env.locals ∉ X.N := fun hm => (List.nodup_cons.mp S.H.nodup).1 (List.mem_append_right _ hm)
    have hcN : ∀ c ∈ C.cells, c ∉ X.N := fun c hc hm => (List.nodup_append.mp (List.nodup_cons.mp S.H.nodup).2).2.2 c hc c hm rfl
    have live_not : ∀ (b : Addr) (o : Obj), s.heap.get? b = some o → b ∉ X.N → b ∉ Z.N := fun b o e hn hb => by
      rcases hZN b hb with q | q
      · exact hn q
      · rw [e] at q; cases q
    have HZ : StH C Z s''.heap := by
      obtain ⟨m, hns0, hslots⟩ := S.H.ns
      refine ⟨std, fun b o e => kept' b o (S.H.kept b o e) fun hm => S.H.apart b (List.mem_cons_of_mem _ (List.mem_append_right _ hm)) o e, ?_, ?_, ?_, ⟨m, ?_, ?_⟩, ?_, hZ ▸ S.H.names, hZ ▸ S.H.cnodup, ?_⟩
      · intro b hb o hkp
        rcases List.mem_cons.mp hb with rfl | hb
        · exact S.H.apart _ (List.mem_cons_self ..) o hkp
        · rcases List.mem_append.mp hb with hb | hb
          · exact S.H.apart b (List.mem_cons_of_mem _ (List.mem_append_left _ hb)) o hkp
          · rcases hZN b hb with q | q
            · exact S.H.apart b (List.mem_cons_of_mem _ (List.mem_append_right _ q)) o hkp
            · rw [S.H.kept b o hkp] at q; cases q
      · intro b hb
        rcases List.mem_cons.mp hb with rfl | hb
        · exact S.H.big _ (List.mem_cons_self ..)
        · rcases List.mem_append.mp hb with hb | hb
          · exact S.H.big b (List.mem_cons_of_mem _ (List.mem_append_left _ hb))
          · exact S''.H.big b (List.mem_cons_of_mem _ (List.mem_append_right _ ((hsub.map _).subset hb)))
      · have nd := List.nodup_cons.mp S.H.nodup
        have nd2 := List.nodup_append.mp nd.2
        refine List.nodup_cons.mpr ⟨fun hb => ?_, List.nodup_append.mpr ⟨nd2.1, ((List.nodup_append.mp (List.nodup_cons.mp S''.H.nodup).2).2.1).sublist (hsub.map _), fun c hc b hb e => ?_⟩⟩
        · rcases List.mem_append.mp hb with hb | hb
          · exact nd.1 (List.mem_append_left _ hb)
          · obtain ⟨o, e⟩ := S.H.live _ (List.mem_cons_self ..)
            exact live_not _ o e hLN hb
        · subst e
          obtain ⟨o, u, e, _⟩ := S.H.cells c hc
          exact live_not _ o e (hcN c hc) hb
      · obtain ⟨o, es, ep, e, rest⟩ := hns0
        exact ⟨o, es, ep, kept' _ _ e hLN, rest⟩
      · intro e he
        rw [hZ] at he
        exact (hslots e he).map kseq' fun c o hn hc e' _ => ⟨kept' c o e' hn, live_not c o e' hn⟩
      · intro c hc
        obtain ⟨o, u, e, e'⟩ := S.H.cells c hc
        exact ⟨o, u, kept' _ _ e (hcN c hc), e'⟩
      · intro p hp
        have := S''.H.mem p (hsub.subset hp)
        exact this.map (fun b o e _ hn => ⟨e, fun hm => hn ((hsub.map _).subset hm)⟩) fun o e => e
    have mo' : Mono C X s.heap Z s''.heap := fun b o e hn => by
      refine ⟨kept' b o e (N_of_muts hn), fun hm => ?_⟩
      rcases List.mem_cons.mp hm with rfl | hm
      · exact hn (List.mem_cons_self ..)
      · rcases List.mem_append.mp hm with hm | hm
        · exact hn (List.mem_cons_of_mem _ (List.mem_append_left _ hm))
        · exact live_not b o e (N_of_muts hn) hm
    have rv : ∀ {val : Value}, Rep s''.heap Y.N val v → Rep s''.heap Z.N val v := fun r => r.map fun b o e _ hn => ⟨e, fun hm => hn ((hsub.map _).subset hm)⟩
    cases fl with
    | ret x => obtain ⟨_, e, r0⟩ := RF.ret_inv rf; rw [e]; have hret : v = x := hret; subst hret; exact ⟨v, Z, hq, ⟨HZ, S''.gens, S''.os⟩, rv r0, mo'⟩
    | next => rw [show f = .next from rf]; have hret : v = .none := hret; subst hret; exact ⟨_, Z, hq, ⟨HZ, S''.gens, S''.os⟩, .none, mo'⟩
    | brk => exact hret.elim
    | cont => exact hret.elim
noncomputable def slotsP : List V → Nat → List (Str × NameKind) → List Sl
  | _, _, [] => []
  | [], n, (x, .local) :: r => ⟨x, none, none⟩ :: slotsP [] n r
  | v :: vs, n, (x, .local) :: r => ⟨x, none, some v⟩ :: slotsP vs n r
  | [], n, (x, .cell) :: r => ⟨x, some n, none⟩ :: slotsP [] (n + 1) r
  | v :: vs, n, (x, .cell) :: r => ⟨x, some n, some v⟩ :: slotsP vs (n + 1) r
  | vs, n, (_, .free) :: r => slotsP vs n r
  | vs, n, (_, .globalExplicit) :: r => slotsP vs n r
  | vs, n, (_, .globalImplicit) :: r => slotsP vs n r
noncomputable def cellsP : Nat → List (Str × NameKind) → List Addr
  | _, [] => []
  | n, (_, .cell) :: r => n :: cellsP (n + 1) r
  | n, (_, .local) :: r => cellsP n r
  | n, (_, .free) :: r => cellsP n r
  | n, (_, .globalExplicit) :: r => cellsP n r
  | n, (_, .globalImplicit) :: r => cellsP n r
theorem slotsP_cells : ∀ (names : List (Str × NameKind)) (vs : List V) (n : Nat), (slotsP vs n names).filterMap (·.cell) = cellsP n names
  | [], vs, n => by cases vs <;> rfl
  | (x, k) :: r, vs, n => by
    cases k <;> cases vs <;> first | exact slotsP_cells r _ _ | exact congrArg (List.cons n) (slotsP_cells r _ _)
theorem slotsOf_congr {ps ps' : List (Str × V)} : ∀ (names : List (Str × NameKind)) (n : Nat), (∀ x ∈ names.map (·.1), ps.lookup x = ps'.lookup x) → slotsOf ps n names = slotsOf ps' n names
  | [], _, _ => rfl
  | (x, k) :: r, n, h => by
    have h1 := h x (by simp)
    have h2 : ∀ y ∈ r.map (·.1), ps.lookup y = ps'.lookup y := fun y hy => h y (by simp only [List.map_cons]; exact List.mem_cons_of_mem _ hy)
    cases k <;> first | exact slotsOf_congr r _ h2 | (show (⟨x, _, ps.lookup x⟩ : Sl) :: _ = ⟨x, _, ps'.lookup x⟩ :: _; rw [h1]; exact congrArg _ (slotsOf_congr r _ h2))
theorem slotsOf_nil : ∀ (names : List (Str × NameKind)) (n : Nat), slotsOf [] n names = slotsP [] n names
  | [], _ => rfl
  | (x, k) :: r, n => by cases k <;> first | exact slotsOf_nil r _ | exact congrArg (List.cons _) (slotsOf_nil r _)
noncomputable def isParam : NameKind → Bool
  | .local | .cell => true
  | _ => false
theorem slotsOf_eq : ∀ (names : List (Str × NameKind)) (xs : List V) (n : Nat) (ps : List Str), (names.map (·.1)).Nodup → (names.take xs.length).map (·.1) = ps → (names.take xs.length).all (fun p => isParam p.2) = true → ps.length = xs.length → slotsOf (ps.zip xs) n names = slotsP xs n names
  | [], xs, n, ps, _, h, _, hl => by cases xs <;> rfl
  | (x, k) :: r, [], n, ps, _, h, _, hl => by
    simp at h; subst h
    exact slotsOf_nil _ _
  | (x, k) :: r, v :: vs, n, ps, hn, h, hp, hl => by
    simp only [List.length_cons, List.take_succ_cons, List.map_cons] at h
    simp only [List.map_cons, List.nodup_cons] at hn
    simp only [List.length_cons, List.take_succ_cons, List.all_cons, Bool.and_eq_true] at hp
    subst h
    simp only [List.length_cons, Nat.add_right_cancel_iff] at hl
    have ih := fun m => slotsOf_eq r vs m _ hn.2 rfl hp.2 hl
    have cg : ∀ m, slotsOf ((x, v) :: ((r.take vs.length).map (·.1)).zip vs) m r = slotsP vs m r := fun m => by
      rw [← ih m]
      refine slotsOf_congr r m fun y hy => ?_
      have hne : y ≠ x := fun e => hn.1 (by rw [← e]; exact hy)
      rw [List.lookup_cons, beq_false_of_ne hne]
    have e0 : List.lookup x ((x, v) :: ((r.take vs.length).map (·.1)).zip vs) = some v := List.lookup_cons_self
    cases k <;> first | exact absurd hp.1 Bool.false_ne_true | (show (⟨x, _, List.lookup x ((x, v) :: ((r.take vs.length).map (·.1)).zip vs)⟩ : Sl) :: _ = ⟨x, _, some v⟩ :: _; rw [e0]; exact congrArg _ (cg _))
theorem lookup_of_mem {α : Type} : ∀ {l : List (Str × α)} {p : Str × α}, (l.map (·.1)).Nodup → p ∈ l → l.lookup p.1 = some p.2
  | l, (c, d), hn, hp => by
   induction l with
   | nil => cases hp
   | cons x r ih =>
    obtain ⟨a, b⟩ := x
    simp only [List.map_cons, List.nodup_cons] at hn
    rcases List.mem_cons.mp hp with e | hq
    · cases e; simp [List.lookup_cons]
    · have hne : c ≠ a := fun e => hn.1 (by rw [← e]; exact List.mem_map_of_mem (f := (·.1)) hq)
      rw [List.lookup_cons, beq_false_of_ne hne]
      exact ih hn.2 hq
theorem OpL.fnP {C : Cx} {X : AS} {a : Addr} {xs : List V} {Q : V → AS → Prop} {name qual : Str} {params : Arguments} {body : List Stmt} {scope : Scope} {dV kV doc pm cdv ct oc : Value} {an od : Option Addr} {osl : Array (Option Value)} {n : Nat}
    (ho : C.G.K.lookup a = some ⟨oc, od, .func (fnOf name qual params body scope dV kV doc pm an cdv ct), osl⟩) (hcd : codeIn C.G.K cdv qual = true) (hlv : C.lv = n + 1)
    (hargs : ∀ vs : List Value, vs.length = xs.length → bindArgs (fnOf name qual params body scope dV kV doc pm an cdv ct) ⟨vs, []⟩ = pure ((params.args.map (·.arg)).zip vs))
    (hps : (scope.names.take xs.length).map (·.1) = params.args.map (·.arg)) (hpk : (scope.names.take xs.length).all (fun p => isParam p.2) = true) (hpl : (params.args.map (·.arg)).length = xs.length) (hnames : (scope.names.map (·.1)).Nodup)
    (hco : scope.isCoroutine = false) (hgen : scope.isGenerator = false) (hk : scope.kind = .function)
    (h : ∀ (L : Addr) (A : Around) (Kp : Addr → Obj → Prop), (∀ b o, C.Kp b o → Kp b o) →
      let C' : Cx := cxC C.G n A scope L a qual cdv (cellsP (L + 1) scope.names) Kp
      Exs C' ⟨slotsP xs (L + 1) scope.names, X.mem⟩ body (Out X.ρ Q)) :
    OpL C X (fun vs => call (.ref a) vs) xs RV Q := by
  have e : ∀ m, slotsOf ((params.args.map (·.arg)).zip xs) m scope.names = slotsP xs m scope.names := fun m => slotsOf_eq _ _ m _ hnames hps hpk hpl
  have hnd : ((scope.names.take xs.length).map (·.1)).Nodup := hnames.sublist ((List.take_sublist _ _).map _)
  refine OpL.fn ho hcd hlv hargs (fun p hp => ?_) (hps ▸ hnd) hnames hco hgen hk fun L A Kp hK => ?_
  · rw [← hps] at hp
    obtain ⟨q, hq, rfl⟩ := List.mem_map.mp hp
    have hqk := List.all_eq_true.mp hpk q hq
    have hq' : q ∈ scope.names := (List.take_sublist _ _).subset hq
    have hl : scope.names.lookup q.1 = some q.2 := lookup_of_mem hnames hq'
    rw [hl]
    obtain ⟨x, k⟩ := q
    cases k <;> simp_all [isParam]
  · rw [e, slotsP_cells]
    exact h L A Kp hK
end
section
section
variable {α β : Type} {C : Cx} {X : AS} {Q : AS → Prop}
theorem fresh_none (h : Heap) : h.get? h.objs.size = none := by
  cases e : h.get? h.objs.size with
  | none => rfl
  | some o => exact absurd (Heap.lt_size e) (Nat.lt_irrefl _)
noncomputable abbrev As (C : Cx) (X : AS) (t : Expr) (x : V) (Q : AS → Prop) : Prop := Op1 C X (assign t C.env) x RE (fun (_ : Unit) Y => Q Y)
noncomputable abbrev AsL (C : Cx) (X : AS) (ts : List Expr) (l : List V) (Q : AS → Prop) : Prop := OpL C X (fun vs => assignInOrder ((assignEach ts C.env).map (·.2)) vs) l RE (fun (_ : Unit) Y => Q Y)
theorem bind_local {x : Str} {ov : Option V} {v : V} {s : Shared} {val : Value} (S : St C X s) (i : Nat) (hi : X.ρ[i]? = some ⟨x, none, ov⟩) (r : Rep s.heap X.N val v) (q : Q { X with ρ := X.ρ.set i ⟨x, none, some v⟩ }) {E : Value → Shared → Prop} :
    wpAny (model C.G.prog C.G.w) C.A (bindName C.env x val) (Good C X s.heap RE (fun (_ : Unit) Y => Q Y)) E s := by
  obtain ⟨m, hm, hs⟩ := S.H.ns
  have r0 := hs _ (List.mem_of_getElem? hi)
  (try unfold SlotRep at r0); unfold SlotRepE at r0
  refine wpAny_bindName (wpAny_storeName_local r0.1 hm (fun h' hn hb => ?_) (by rw [S.H.std.fn]; rfl))
  exact fin S (Y := { X with ρ := X.ρ.set i ⟨x, none, some v⟩ }) (S.H.store hi hs hn hb r) (Mono.store hb) rfl q
theorem bind_cell {x : Str} {c : Addr} {ov : Option V} {v : V} {s : Shared} {val : Value} (S : St C X s) (i : Nat) (hi : X.ρ[i]? = some ⟨x, some c, ov⟩) (hc : c ∈ C.cells) (hkind : C.env.kindOf x = some .cell) (r : Rep s.heap X.N val v) (q : Q { X with ρ := X.ρ.set i ⟨x, some c, some v⟩ }) {E : Value → Shared → Prop} :
    wpAny (model C.G.prog C.G.w) C.A (bindName C.env x val) (Good C X s.heap RE (fun (_ : Unit) Y => Q Y)) E s := by
  obtain ⟨m, hm, hs⟩ := S.H.ns
  have r0 := hs _ (List.mem_of_getElem? hi)
  (try unfold SlotRep at r0); unfold SlotRepE at r0
  obtain ⟨_, hl, _, _, o, u, ho, hd, _⟩ := r0
  refine wpAny_bindName (wpAny_storeName_cell S.H.std.fn hkind hl ⟨o, ho, hd⟩ fun h' hc' hb => ?_)
  exact fin S (Y := { X with ρ := X.ρ.set i ⟨x, some c, some v⟩ }) (S.H.storeCell hi hc hb hc' r) (Mono.storeCell hc hb) rfl q
theorem As.name {x : Str} {ov : Option V} {v : V} {pos : Pos} (i : Nat) (hi : X.ρ[i]? = some ⟨x, none, ov⟩) (q : Q { X with ρ := X.ρ.set i ⟨x, none, some v⟩ }) : As C X (.Name x pos) v Q := fun s S val r => by
  show wpAny _ _ (do standAt pos; bindName C.env x val) _ _ s
  exact wpAny_bind (wpAny_standAt (bind_local S i hi r q))
theorem As.cell {x : Str} {c : Addr} {ov : Option V} {v : V} {pos : Pos} (i : Nat) (hi : X.ρ[i]? = some ⟨x, some c, ov⟩) (hc : c ∈ C.cells) (hkind : C.env.kindOf x = some .cell) (q : Q { X with ρ := X.ρ.set i ⟨x, some c, some v⟩ }) : As C X (.Name x pos) v Q := fun s S val r => by
  show wpAny _ _ (do standAt pos; bindName C.env x val) _ _ s
  exact wpAny_bind (wpAny_standAt (bind_cell S i hi hc hkind r q))
theorem AsL.nil {l : List V} (q : Q X) : AsL C X [] l Q := fun s S vs r => wpAny_pure (fin0 S rfl q)
theorem AsL.cons {t : Expr} {ts : List Expr} {x : V} {l : List V} (h : As C X t x (fun Y => AsL C Y ts l Q)) (he : assignEach (t :: ts) C.env = (false, assign t C.env) :: assignEach ts C.env := by rfl) : AsL C X (t :: ts) (x :: l) Q := fun s S vs r => by
  obtain ⟨_, _, ⟨⟩, r1, r2⟩ := r
  ·
    show wpAny _ _ (assignInOrder ((assignEach (t :: ts) C.env).map (·.2)) _) _ _ s
    rw [he]
    show wpAny _ _ (do holding _ (assign t C.env _); assignInOrder ((assignEach ts C.env).map (·.2)) _) _ _ s
    refine wpAny_bind (wpAny_holding (h.run S r1 fun u s1 g => ?_))
    obtain ⟨_, Y, o, S1, _, m⟩ := g
    exact OpL.run (show AsL C Y ts l Q from o) S1 (r2.mono S.H m) fun _ _ g => good_trans m g
theorem As.tup {ts : List Expr} {k : Nat} {pos : Pos} {l : List V} (h : AsL C X ts l Q) (hn : (assignEach ts C.env).length = l.length := by rfl) (hst : (assignEach ts C.env).findIdx? (·.1) = none := by rfl) : As C X (.Tuple ts k pos) (.tup l) Q := fun s S val r => by
  obtain ⟨a, vs, hv9, e, hN, rl⟩ := Rep.tup_inv r; clear r; cases (hv9)
  · refine wpAny_assign_Tuple S.H.std.hand ⟨_, e, rfl, _, rfl⟩ (by rw [hn]; simp [rl.length]) hst fun h' he => ?_
    have kp : ∀ (b : Addr) (o : Obj), s.heap.get? b = some o → h'.get? b = some o := fun b o e => he b o (Nat.ne_of_lt (Heap.lt_size e)) e
    have S1 : St C X { s with heap := h' } := S.heap (S.H.keeps kp)
    exact OpL.run (show AsL C X ts l Q from h) S1 (rl.mono S.H (Mono.keeps kp)) fun _ _ g => good_trans (Mono.keeps kp) g
variable {Q : Fl → AS → Prop}
theorem Exs.nil (q : Q .next X) : Exs C X [] Q := fun s S => wpAny_execs_nil (fin0 S .next q)
noncomputable abbrev NextK (P : AS → Prop) (Q : Fl → AS → Prop) (fl : Fl) (Y : AS) : Prop := match fl with | .next => P Y | .brk => Q .brk Y | .cont => Q .cont Y | .ret v => Q (.ret v) Y
theorem Exs.cons {st : Stmt} {r : List Stmt} (h : Ex C X st (NextK (fun Y => Exs C Y r Q) Q)) : Exs C X (st :: r) Q := fun s S => by
  refine wpAny_execs_cons (h.run S fun f fl Y s1 q S1 rf m => ?_)
  cases fl with
  | next => rw [show f = .next from rf]; exact TW.runG (show Exs C Y r Q from q) S1 fun _ _ g => good_trans m g
  | brk => rw [show f = .brk from rf]; exact ⟨_, Y, q, S1, .brk, m⟩
  | cont => rw [show f = .cont from rf]; exact ⟨_, Y, q, S1, .cont, m⟩
  | ret x => obtain ⟨_, e, r1⟩ := RF.ret_inv rf; rw [e]; exact ⟨_, Y, q, S1, .ret r1, m⟩
theorem Ex.ret {e : Expr} {pos : Pos} (h : Ev C X e (fun v Y => Q (.ret v) Y)) : Ex C X (.Return (some e) pos) Q := fun s S =>
  wpAny_Return_some (h.run S fun a v Y s1 q S1 r m => ⟨_, Y, q, S1, .ret r, m⟩)
theorem Ex.ret0 {pos : Pos} (q : Q (.ret .none) X) : Ex C X (.Return none pos) Q := fun s S => wpAny_Return_none (fin0 S (.ret .none) q)
theorem Ex.ite {t : Expr} {b o : List Stmt} {pos : Pos} (h : Tr C X t (fun c Y => if c = true then Exs C Y b Q else Exs C Y o Q)) : Ex C X (.If t b o pos) Q := fun s S => by
  refine wpAny_If (h.run S fun c c' Y s1 q S1 r m => ?_)
  cases r
  cases c with
  | true => exact TW.runG (show Exs C Y b Q from q) S1 fun _ _ g => good_trans m g
  | false => exact TW.runG (show Exs C Y o Q from q) S1 fun _ _ g => good_trans m g
inductive NonRef : V → Prop where
  | none : NonRef .none
  | bool (b : Bool) : NonRef (.bool b)
  | int (i : Int) : NonRef (.int i)
  | str (s : Str) : NonRef (.str s)
theorem Ex.expr {e : Expr} {pos : Pos} (h : Ev C X e (fun v Y => NonRef v ∧ Q .next Y)) (hi : interactive C.env = false := by rfl) (hs : swapsWith e none pos.line C.env = pure false := by rfl) : Ex C X (.Expr e pos) Q := fun s S => by
  refine wpAny_Expr (h.run S fun a v Y s1 q S1 r m => ?_) hi hs
  obtain ⟨n, q⟩ := q
  cases n <;> (cases r; exact ⟨_, Y, q, S1, .next, m⟩)
theorem Ex.asg {t : Expr} {e : Expr} {pos : Pos} (h : Ev C X e (fun v Y => As C Y t v (fun Z => Q .next Z))) (hs : swapsWithSole [t] e pos.line C.env = pure false := by rfl) (hw : swappedStores [t] e C.env = pure none := by rfl)
    (he : (assignEach [t] C.env).map (·.2) = [assign t C.env] := by rfl) : Ex C X (.Assign [t] e pos) Q := fun s S => by
  rw [exec_Assign]
  refine wpAny_bind (wpAny_standAt ?_)
  rw [hs]
  refine wpAny_bind (wpAny_pure ?_)
  rw [if_neg (by decide)]
  refine wpAny_bind (h.run S fun a v Y s1 q S1 r m => ?_)
  rw [hw, he]
  refine wpAny_bind (wpAny_pure ?_)
  show wpAny _ _ (do assignAll a [PySem.assign t C.env]; pure Flow.next) _ _ s1
  refine wpAny_bind (Op1.run (show As C Y t v _ from q) S1 r fun u s2 g => ?_)
  obtain ⟨_, Z, q2, S2, _, m2⟩ := g
  exact wpAny_pure ⟨_, Z, q2, S2, .next, m.trans m2⟩
theorem RepL.reverse {h : Heap} {N : List Addr} {vs : List Value} {l : List V} (r : RepL h N vs l) : RepL h N vs.reverse l.reverse := by
  induction l generalizing vs with
  | nil => rw [RepL.nil_inv r]; exact .nil
  | cons x l ih => obtain ⟨_, _, ⟨⟩, a, r⟩ := r; rw [List.reverse_cons, List.reverse_cons]; exact (ih r).append (.cons a .nil)
noncomputable def BindL (C : Cx) (X : AS) (ns : List Str) (l : List V) (Q : AS → Prop) : Prop := OpL C X (fun vs => assignInOrder (ns.map fun n => bindName C.env n) vs) l RE (fun (_ : Unit) Y => Q Y)
theorem BindL.nil {l : List V} {Q : AS → Prop} (q : Q X) : BindL C X [] l Q := fun s S vs r => wpAny_pure (fin0 S rfl q)
theorem BindL.cons {n : Str} {ns : List Str} {x : V} {l : List V} {ov : Option V} {Q : AS → Prop} (i : Nat) (hi : X.ρ[i]? = some ⟨n, none, ov⟩) (h : BindL C { X with ρ := X.ρ.set i ⟨n, none, some x⟩ } ns l Q) : BindL C X (n :: ns) (x :: l) Q := fun s S vs r => by
  obtain ⟨_, _, ⟨⟩, r1, r2⟩ := r
  ·
    show wpAny _ _ (do holding _ (bindName C.env n _); assignInOrder (ns.map fun n => bindName C.env n) _) _ _ s
    refine wpAny_bind (wpAny_holding (wpAny_mono (bind_local (Q := fun Y => BindL C Y ns l Q) S i hi r1 h (E := fun _ _ => False)) (fun u s1 g => ?_) fun _ _ e => e))
    obtain ⟨_, Y, o, S1, _, m⟩ := g
    exact OpL.run o S1 (r2.mono S.H m) fun _ _ g => good_trans m g
theorem Ex.asgSwap {ts : List Expr} {k : Nat} {tp : Pos} {e : Expr} {pos : Pos} {ns : List Str} (h : Ev C X e (fun v Y => ∃ l, v = .tup l ∧ l.length = ns.length ∧ BindL C Y ns.reverse l.reverse (fun Z => Q .next Z)))
    (hs : swapsWithSole [.Tuple ts k tp] e pos.line C.env = pure false := by rfl) (hw : swappedStores [.Tuple ts k tp] e C.env = pure (some ns) := by rfl) : Ex C X (.Assign [.Tuple ts k tp] e pos) Q := fun s S => by
  refine Assign_Tuple_swapped (h.run S fun a v Y s1 q S1 r m => ?_) hs hw
  obtain ⟨l, rfl, hl, q⟩ := q
  obtain ⟨a, vs, hv9, e, hN, rl⟩ := Rep.tup_inv r; clear r; cases (hv9)
  · have hz : ns.length = vs.toArray.size := by simp [rl.length, hl]
    rw [hz]
    refine wpAny_unpackItems_tuple S1.H.std.hand ⟨_, e, rfl, _, rfl⟩ fun h' he => ?_
    have kp : ∀ (b : Addr) (o : Obj), s1.heap.get? b = some o → h'.get? b = some o := fun b o e => he b o (Nat.ne_of_lt (Heap.lt_size e)) e
    have S2 : St C Y { s1 with heap := h' } := S1.heap (S1.H.keeps kp)
    refine OpL.run q S2 (vs := vs.reverse) (RepL.reverse (rl.mono S1.H (Mono.keeps kp))) fun u s3 g => ?_
    obtain ⟨_, Z, q3, S3, _, m3⟩ := g
    exact ⟨_, Z, q3, S3, .next, (m.trans (Mono.keeps kp)).trans m3⟩
end
end
section
section
variable {C : Cx} {X : AS} {Q : V → AS → Prop}
inductive Inst (C : Cx) (x K : Addr) (f : Str → Option Value) : Prop where
  | mk (dx : Addr) (es : List DictEntry) (n : Nat) : C.Kp x (instObj K dx) → C.Kp dx (dictOf es n) → (∀ name, getL name es = some (f name)) → Inst C x K f
inductive InstR (h : Heap) (x K : Addr) (f : Str → Option Value) : Prop where
  | mk (dx : Addr) (es : List DictEntry) (n : Nat) : InstAt h x (instObj K dx) K (some (dictOf es n)) → (∀ name, getL name es = some (f name)) → InstR h x K f
theorem Inst.at {x K : Addr} {f : Str → Option Value} (i : Inst C x K f) {s : Shared} (S : St C X s) : InstR s.heap x K f := i.casesOn fun dx es n a b c => ⟨dx, es, n, ⟨S.H.kept _ _ a, rfl, rfl, S.H.kept _ _ b⟩, c⟩
noncomputable def KeepOK (C : Cx) (f : Value) : Prop := (∃ id, f = .builtin id) ∨ (∃ n, f = .type n) ∨ keepIn C.G.K f = true
theorem KeepOK.keeps {f : Value} (hk : KeepOK C f) {M : Model} (h : Heap) (X : C.G.K.In h) : ∃ k, (k = Keeper.frame ∨ k = Keeper.machine ∨ k = Keeper.boundFrame) ∧ Looks M h (keeperOf f) k := by
  rcases hk with ⟨id, rfl⟩ | ⟨n, rfl⟩ | hk
  · exact ⟨.machine, .inr (.inl rfl), Looks.of_pure rfl⟩
  · exact ⟨.machine, .inr (.inl rfl), Looks.of_pure rfl⟩
  · exact keeps_K hk h X
theorem evalArgs_star {M : Model} {A : Around} {s : Shared} {f : Value} {P : Args → Shared → Prop} {E : Value → Shared → Prop} {args : List (Bool × Sem Value)} (hp : args.any (·.1) = false)
    (h : wpAny M A (spliced args) (fun vs s' => P ⟨vs, []⟩ s') E s) : wpAny M A (evalArgs f true args []) P E s := by
  match args with
  | [] =>
    unfold evalArgs
    show wpAny M A (spliced [] >>= _) P E s
    refine wpAny_bind (wpAny_mono h (fun vs s' h' => ?_) fun _ _ e => e)
    exact wpAny_bind (wpAny_pure (wpAny_holding (wpAny_bind (wpAny_pure (wpAny_bind (wpAny_pure (wpAny_pure h')))))))
  | (true, x) :: r => simp at hp
  | (false, x) :: r => exact evalArgs_plain h
theorem Ev.call {func : Expr} {args : List Expr} {pos : Pos} {f : Value} (hk : KeepOK C f) (h : Ev C X func (fun y Y => y = .raw f ∧ EvL C Y pos args (fun l Z => OpL C Z (fun vs => call f vs) l RV Q)))
    (he : eval (.Call func args [] pos) C.env = (do callWith pos (← eval func C.env) [] (backTo pos (starEach args C.env)) []) := by rfl) (hp : (backTo pos (starEach args C.env)).any (·.1) = false := by rfl) : Ev C X (.Call func args [] pos) Q := fun s S => by
  rw [he]
  refine wpAny_bind (h.run S fun a y Y s1 q S1 r m => ?_)
  obtain ⟨rfl, q⟩ := q
  cases r
  refine callWith_of (P := C.G.K.In) (by rw [hp]; rfl) (fun h X => hk.keeps h X) (evalArgs_star hp (q.run S1 fun vs l Z s2 q2 S2 r2 m2 => ⟨S2.K, ?_⟩))
  exact q2.run S2 r2 fun _ _ g => good_trans (m.trans m2) g
noncomputable def IsMeth (C : Cx) (X : AS) (x : V) (name : Str) (f : Value) : Prop :=
  KeepOK C f ∧ ∀ s, St C X s → ∀ a, Rep s.heap X.N a x → ∀ (pl : Sem Bool) (P : Value × List Value → Shared → Prop), P (f, [a]) s → wpAny (model C.G.prog C.G.w) C.A (getMethod a name pl) P (fun _ _ => False) s
theorem Ev.meth {o : Expr} {name : Str} {apos pos : Pos} {args : List Expr}
    (h : Ev C X o (fun y Y => ∃ f, IsMeth C Y y name f ∧ EvL C Y pos args (fun l Z => OpL C Z (fun vs => PySem.call f vs) (y :: l) RV Q)))
    (hbase : attributeBase o name C.env (eval o C.env) = eval o C.env := by rfl) (hline : (apos.endLine == pos.line) = true := by rfl) (hfew : args.length < 29 := by decide) (hp : (backTo pos (starEach args C.env)).any (·.1) = false := by rfl) :
    Ev C X (.Call (.Attribute o name apos) args [] pos) Q := fun s S => by
  rw [arm_eval_Call, hbase]
  refine wpAny_bind (h.run S fun a y Y s1 q S1 r m => wpAny_bind (wpAny_standAt ?_))
  obtain ⟨f, hM, q⟩ := q
  have hform : methodCallForm (args.length + ([] : List Keyword).length) (backTo pos (starEach args C.env)) (backToKw pos (keywordEach [] C.env)) = true := by
    have h1 : (backTo pos (starEach args C.env)).all (!·.1) = true := by
      rw [List.all_eq_true]; intro x hx
      cases hb : x.1 with
      | false => rfl
      | true => rw [List.any_eq_false] at hp; exact absurd hb (hp x hx)
    unfold methodCallForm
    rw [h1]
    show (true && true && decide (args.length + 0 + 0 < 30)) = true
    simp; omega
  have hpos : methodCallPos true o C.env apos pos = pure pos := by unfold methodCallPos; simp [hline]
  unfold methodCall
  rw [hform]
  refine wpAny_bind (wpAny_holding (wpAny_mono (hM.2 s1 S1 a r _ _ (wpAny_bind (wpAny_of_eq hpos ?_))) (fun _ _ x => x) fun _ _ e => e.elim))
  show wpAny _ _ (callWith pos f [a] (backTo pos (starEach args C.env)) []) _ _ s1
  refine callWith_of (P := C.G.K.In) (by rw [hp]; rfl) (fun h X => hM.1.keeps h X) (evalArgs_star hp (q.run S1 fun vs l Z s2 q2 S2 r2 m2 => ⟨S2.K, ?_⟩))
  exact q2.run S2 (vs := a :: vs) (.cons (r.mono S1.H m2) r2) fun _ _ g => good_trans (m.trans m2) g
theorem IsMeth.inst {x K fa : Addr} {name : Str} {f : Str → Option Value} (hI : Inst C x K f) (hg : plainGet C.G.K K name = true) (hf : findIn C.G.K (.ref K) name = some (some (.ref fa))) (ht : isFn C.G.K (.ref fa) = true) (hk : keepIn C.G.K (.ref fa) = true) (hn : f name = none) :
    IsMeth C X (.raw (.ref x)) name (.ref fa) := ⟨.inr (.inr hk), fun s S a r pl P p => by
  cases r
  obtain ⟨dx, es, n, I, hL⟩ := hI.at S
  exact method_fn S.K I (plainGet_of hg).1 (plainGet_of hg).2 hf (beq_iff_eq.mp ht) (by show (lookIn name (dictOf es n)).map _ = _; rw [lookIn_dict, hL, hn]; rfl) p⟩
theorem IsMeth.blt {x : V} {name : Str} {T id : String} (pa : PlainAttrs T) (slot : Slot T name id) (hty : typeOf (.builtin id) = pure (.type "method_descriptor"))
    (hT : ∀ s, St C X s → ∀ a, Rep s.heap X.N a x → s.TypeIs a T ∧ ∀ b, a = .ref b → ∃ o, s.heap.get? b = some o ∧ o.dict = none) : IsMeth C X x name (.builtin id) :=
  ⟨.inl ⟨_, rfl⟩, fun s S a r pl P p => getMethod_builtin (hT s S a r).1 pa slot hty (hT s S a r).2 p⟩
theorem Ev.sub {e i : Expr} {pos : Pos} (h : Ev C X e (fun x Y => Ev C Y i (fun y Z => Op2 C Z (subscriptTail e i) x y RV Q))) : Ev C X (.Subscript e i pos) Q := fun s S => by
  refine Subscript_ (h.run S fun a x Y s1 q1 S1 r1 m1 => q1.run S1 fun b y Z s2 q2 S2 r2 m2 => ?_)
  exact q2.run S2 (r1.mono S1.H m2) r2 fun _ _ g => good_trans (m1.trans m2) g
theorem Op2.itemT {e i : Expr} {l : List V} {k : Int} {j : Nat} {x : V} (hj : seqIndex? k l.length = some j) (hx : l[j]? = some x) (hlo : -(2 ^ 63) ≤ k) (hhi : k < 2 ^ 63) (q : Q x X)
    (hs : ∀ o v, subscripted i false o v = operate [o, v] (getItem o v) := by intros; rfl) : Op2 C X (subscriptTail e i) (.tup l) (.int k) RV Q := fun s S a b ra rb => by
  cases rb
  obtain ⟨a, vs, hv9, eh, hN, rl⟩ := Rep.tup_inv ra; clear ra; cases (hv9)
  · obtain ⟨v, hv, rv⟩ := rl.get hx
    exact item_tupleT ⟨_, eh, rfl, _, rfl⟩ hlo hhi (by rw [rl.length]; exact hj) hv (fin0 S rv q) (hs _ _)
theorem get_list {s : Shared} (S : St C X s) {a : Addr} {vs : List Value} {n : Nat} {l : List V} (e : s.heap.get? a = some { cls := .type "list", data := .seq vs.toArray n }) (rl : RepL s.heap X.N vs l) {k : Int} {t : Tok} {j : Nat} {x : V} (hj : seqIndex? k l.length = some j) (hx : l[j]? = some x) (hlo : -(2 ^ 63) ≤ k) (hhi : k < 2 ^ 63) (q : Q x X) {A : Around} {E : Value → Shared → Prop} :
    wpAny (model C.G.prog C.G.w) A (getItem (.ref a) (.int k t)) (Good C X s.heap RV Q) E s := by
  obtain ⟨v, hv, rv⟩ := rl.get hx
  have hl : s.heap.IsList a vs.toArray := ⟨_, e, rfl, _, rfl⟩
  have hz := rl.length
  by_cases h0 : k < 0
  · have e1 : seqIndex? k l.length = if (decide (0 ≤ k + (l.length : Int)) && decide (k + (l.length : Int) < l.length)) = true then some (k + (l.length : Int)).toNat else none := by
      unfold seqIndex?; simp only [if_pos h0]
    rw [e1] at hj
    split at hj
    · rename_i h1
      simp only [Bool.and_eq_true, decide_eq_true_eq] at h1
      cases hj
      refine wpAny_getItem_list_neg hl h0 (by simp [hz]; omega) hlo (x := v) ?_ (fin0 S rv q)
      simpa [hz] using hv
    · cases hj
  · have e1 : seqIndex? k l.length = if (decide (0 ≤ k) && decide (k < (l.length : Int))) = true then some k.toNat else none := by
      unfold seqIndex?; simp only [if_neg h0]
    rw [e1] at hj
    split at hj
    · rename_i h1
      simp only [Bool.and_eq_true, decide_eq_true_eq] at h1
      cases hj
      refine wpAny_getItem_list hl h1.1 hhi (x := v) ?_ (fin0 S rv q)
      simpa using hv
    · cases hj
theorem Op2.itemL {e i : Expr} {l : List V} {k : Int} {j : Nat} {x : V} (hj : seqIndex? k l.length = some j) (hx : l[j]? = some x) (hlo : -(2 ^ 63) ≤ k) (hhi : k < 2 ^ 63) (q : Q x X)
    (hs : ∀ o v, subscripted i false o v = operate [o, v] (getItem o v) := by intros; rfl) : Op2 C X (subscriptTail e i) (.lst l) (.int k) RV Q := fun s S a b ra rb => by
  cases rb
  obtain ⟨a, vs, n, hv9, eh, hN, rl⟩ := Rep.lst_inv ra; clear ra; cases (hv9)
  exact tail_any ⟨_, eh, rfl⟩ slot_list_getitem.lookup (get_list S eh rl hj hx hlo hhi q) (hs _ _)
theorem Op2.itemM {e i : Expr} {a : Addr} {l : List V} {k : Int} {j : Nat} {x : V} (n : Nat) (hi : X.mem[n]? = some (a, .lst l)) (hj : seqIndex? k l.length = some j) (hx : l[j]? = some x) (hlo : -(2 ^ 63) ≤ k) (hhi : k < 2 ^ 63) (q : Q x X)
    (hs : ∀ o v, subscripted i false o v = operate [o, v] (getItem o v) := by intros; rfl) : Op2 C X (subscriptTail e i) (.raw (.ref a)) (.int k) RV Q := fun s S a b ra rb => by
  cases rb
  cases ra
  obtain ⟨vs, n, eh, rl⟩ := S.at hi
  exact tail_any ⟨_, eh, rfl⟩ slot_list_getitem.lookup (get_list S eh rl hj hx hlo hhi q) (hs _ _)
theorem KV.look {K : Type} [DecidableEq K] {h : Heap} {N : List Addr} {k : K} {vs : List (K × Value)} {l : List (K × V)} (r : KV h N vs l) : match lookK l k with
    | none => valueAt vs k = none
    | some y => ∃ v, valueAt vs k = some v ∧ Rep h N v y := by
  induction l generalizing vs with
  | nil => rw [r.nil_inv]; rfl
  | cons e l ih =>
    obtain ⟨v, ws, hv, b, r⟩ := r.inv
    rw [hv]
    have ih := ih r
    unfold lookK valueAt at *
    simp only [List.find?_cons]
    by_cases hk : e.1 = k
    · simp [hk, b]
    · simpa [hk] using ih
theorem Op2.itemS {e i : Expr} {a : Addr} {kvs : List (Str × V)} {k : Str} {x : V} (n : Nat) (hi : X.mem[n]? = some (a, .dS kvs)) (hx : lookK kvs k = some x) (q : Q x X)
    (hs : ∀ o v, subscripted i false o v = operate [o, v] (getItem o v) := by intros; rfl) : Op2 C X (subscriptTail e i) (.raw (.ref a)) (.str k) RV Q := fun s S a b ra rb => by
  cases rb
  cases ra
  obtain ⟨vs, hd, hk⟩ := S.at hi
  have := hk.look (k := k)
  rw [hx] at this
  obtain ⟨v, e1, rv⟩ := this
  exact tail_any hd.typeIs slot_dict_getitem.lookup (wpAny_getItem_of (strKind_is _ _ _ _) hd.mapOf e1 (fin_tk S rv q)) (hs _ _)
theorem Op2.itemI {e i : Expr} {a : Addr} {kvs : List (Int × V)} {k : Int} {x : V} (n : Nat) (hi : X.mem[n]? = some (a, .dI kvs)) (hx : lookK kvs k = some x) (q : Q x X)
    (hs : ∀ o v, subscripted i false o v = operate [o, v] (getItem o v) := by intros; rfl) : Op2 C X (subscriptTail e i) (.raw (.ref a)) (.int k) RV Q := fun s S a b ra rb => by
  cases rb
  cases ra
  obtain ⟨vs, hd, hk⟩ := S.at hi
  have := hk.look (k := k)
  rw [hx] at this
  obtain ⟨v, e1, rv⟩ := this
  exact tail_any hd.typeIs slot_dict_getitem.lookup (wpAny_getItem_of (intKind_is _ _ _ _) hd.mapOf e1 (fin_tk S rv q)) (hs _ _)
theorem Op2.itemK {e i : Expr} {a : Addr} {kvs : List (Key × V)} {k : Key} {x : V} (n : Nat) (hi : X.mem[n]? = some (a, .dK kvs)) (hx : lookK kvs k = some x) (q : Q x X)
    (hs : ∀ o v, subscripted i false o v = operate [o, v] (getItem o v) := by intros; rfl) : Op2 C X (subscriptTail e i) (.raw (.ref a)) k.v RV Q := fun s S a b ra rb => by
  cases ra
  obtain ⟨xs, hd, hk⟩ := (S.at hi).dictK
  have := hk.look (k := k)
  rw [hx] at this
  obtain ⟨p, e1, rv⟩ := this
  obtain ⟨b', rfl, rb'⟩ := key_ref rb
  refine tail_any hd.typeIs slot_dict_getitem.lookup (wpAny_getItem_heap (knd := kk C.G.prog C.G.w) (k := k) ?_ rb' hd e1 (fin_tk S rv q)) (hs _ _)
  show C.A.units + 1 + 10 < cLine
  have := S.H.std.units; omega
end
section
variable {C : Cx} {X : AS} {Q : V → AS → Prop}
theorem seqIndex_nat {α : Type} {l : List α} {j : Nat} {x : α} (hx : l[j]? = some x) : seqIndex? (j : Int) l.length = some j := by
  have h := (List.getElem?_eq_some_iff.mp hx).1
  unfold seqIndex?
  have h0 : ¬ ((j : Int) < 0) := by omega
  simp only [if_neg h0]
  have h1 : (decide (0 ≤ (j : Int)) && decide ((j : Int) < (l.length : Int))) = true := by simp; omega
  rw [if_pos h1]; simp
theorem seqIndex_last {α : Type} {l : List α} {x : α} (hx : l.getLast? = some x) : seqIndex? (-1) l.length = some (l.length - 1) ∧ l[l.length - 1]? = some x := by
  have hne : l ≠ [] := fun e => by rw [e] at hx; cases hx
  have hp : 0 < l.length := List.length_pos_iff.mpr hne
  refine ⟨?_, by rw [List.getLast?_eq_getElem?] at hx; exact hx⟩
  unfold seqIndex?
  have h0 : ((-1 : Int) < 0) := by decide
  simp only [if_pos h0]
  have h1 : (decide (0 ≤ (-1 : Int) + l.length) && decide ((-1 : Int) + l.length < (l.length : Int))) = true := by simp; omega
  rw [if_pos h1]; simp; omega
theorem Op2.iT {e i : Expr} {l : List V} {k : Int} {x : V} (j : Nat) (hx : l[j]? = some x) (q : Q x X) (hk : k = (j : Int) := by rfl) (hj : j < 2 ^ 63 := by decide)
    (hs : ∀ o v, subscripted i false o v = operate [o, v] (getItem o v) := by intros; rfl) : Op2 C X (subscriptTail e i) (.tup l) (.int k) RV Q := by
  subst hk; exact Op2.itemT (seqIndex_nat hx) hx (by omega) (by omega) q hs
theorem Op2.iL {e i : Expr} {l : List V} {k : Int} {x : V} (j : Nat) (hx : l[j]? = some x) (q : Q x X) (hk : k = (j : Int) := by rfl) (hj : j < 2 ^ 63 := by decide)
    (hs : ∀ o v, subscripted i false o v = operate [o, v] (getItem o v) := by intros; rfl) : Op2 C X (subscriptTail e i) (.lst l) (.int k) RV Q := by
  subst hk; exact Op2.itemL (seqIndex_nat hx) hx (by omega) (by omega) q hs
theorem Op2.iM {e i : Expr} {a : Addr} {l : List V} {k : Int} {x : V} (n : Nat) (hi : X.mem[n]? = some (a, .lst l)) (j : Nat) (hx : l[j]? = some x) (q : Q x X) (hk : k = (j : Int) := by rfl) (hj : j < 2 ^ 63 := by decide)
    (hs : ∀ o v, subscripted i false o v = operate [o, v] (getItem o v) := by intros; rfl) : Op2 C X (subscriptTail e i) (.raw (.ref a)) (.int k) RV Q := by
  subst hk; exact Op2.itemM n hi (seqIndex_nat hx) hx (by omega) (by omega) q hs
theorem Op2.iT1 {e i : Expr} {l : List V} {x : V} (hx : l.getLast? = some x) (q : Q x X)
    (hs : ∀ o v, subscripted i false o v = operate [o, v] (getItem o v) := by intros; rfl) : Op2 C X (subscriptTail e i) (.tup l) (.int (-1)) RV Q :=
  Op2.itemT (seqIndex_last hx).1 (seqIndex_last hx).2 (by decide) (by decide) q hs
theorem Op2.iM1 {e i : Expr} {a : Addr} {l : List V} {x : V} (n : Nat) (hi : X.mem[n]? = some (a, .lst l)) (hx : l.getLast? = some x) (q : Q x X)
    (hs : ∀ o v, subscripted i false o v = operate [o, v] (getItem o v) := by intros; rfl) : Op2 C X (subscriptTail e i) (.raw (.ref a)) (.int (-1)) RV Q :=
  Op2.itemM n hi (seqIndex_last hx).1 (seqIndex_last hx).2 (by decide) (by decide) q hs
end
end
section
section
variable {C : Cx} {X : AS}
theorem StH.front {h h' : Heap} {ρ : List Sl} {F F' M : List (Addr × MO)} (S : StH C ⟨ρ, F ++ M⟩ h) (hs : (F'.map (·.1)).Sublist (F.map (·.1)))
    (hk : ∀ c o, c ∉ F.map (·.1) → h.get? c = some o → h'.get? c = some o) (hr : ∀ p ∈ F', MRep C.G.prog C.G.w h' ((F' ++ M).map (·.1)) p.1 p.2) : StH C ⟨ρ, F' ++ M⟩ h' := by
  have eN : (⟨ρ, F ++ M⟩ : AS).N = F.map (·.1) ++ M.map (·.1) := List.map_append ..
  have eN' : (⟨ρ, F' ++ M⟩ : AS).N = F'.map (·.1) ++ M.map (·.1) := List.map_append ..
  have sN : (⟨ρ, F' ++ M⟩ : AS).N.Sublist (⟨ρ, F ++ M⟩ : AS).N := by rw [eN, eN']; exact hs.append (List.Sublist.refl _)
  have sm : (muts C ⟨ρ, F' ++ M⟩).Sublist (muts C ⟨ρ, F ++ M⟩) := .cons_cons _ (List.Sublist.append (List.Sublist.refl _) sN)
  have fN : ∀ a, a ∈ F.map (·.1) → a ∈ (⟨ρ, F ++ M⟩ : AS).N := fun a ha => by rw [eN]; exact List.mem_append_left _ ha
  have nd := List.nodup_cons.mp S.nodup
  have kk : ∀ (a : Addr) (o : Obj), h.get? a = some o → SeqObj o → a ∉ (⟨ρ, F ++ M⟩ : AS).N → h'.get? a = some o ∧ a ∉ (⟨ρ, F' ++ M⟩ : AS).N := fun a o e _ n => ⟨hk a o (fun q => n (fN a q)) e, fun q => n (sN.subset q)⟩
  have nF : ∀ a o, C.Kp a o → a ∉ F.map (·.1) := fun a o e q => S.apart a (List.mem_cons_of_mem _ (List.mem_append_right _ (fN a q))) o e
  refine ⟨S.std, fun a o e => hk a o (nF a o e) (S.kept a o e), fun a ha => S.apart a (sm.subset ha), fun a ha => S.big a (sm.subset ha), S.nodup.sublist sm, ?_, fun c hc => ?_, S.names, S.cnodup, fun p hp => ?_⟩
  · obtain ⟨m, ⟨o, es, ep, ho, r⟩, q⟩ := S.ns
    refine ⟨m, ⟨o, es, ep, hk _ _ (fun x => nd.1 (List.mem_append_right _ (fN _ x))) ho, r⟩, fun e he => (q e he).map kk fun c o n nl e' hc => ⟨hk c o (fun x => n (fN c x)) e', fun x => n (sN.subset x)⟩⟩
  · obtain ⟨o, u, e, r⟩ := S.cells c hc
    exact ⟨o, u, hk _ _ (fun x => (List.nodup_append.mp nd.2).2.2 c hc c (fN c x) rfl) e, r⟩
  · rcases List.mem_append.mp hp with hp | hp
    · exact hr p hp
    · refine (S.mem p (List.mem_append_right _ hp)).map kk fun o e => hk _ _ (fun x => ?_) e
      have := (List.nodup_append.mp nd.2).2.1
      rw [eN] at this
      exact (List.nodup_append.mp this).2.2 p.1 x p.1 (List.mem_map_of_mem hp) rfl
theorem Mono.front {h h' : Heap} {ρ ρ' : List Sl} {F F' M : List (Addr × MO)} (hs : (F'.map (·.1)).Sublist (F.map (·.1))) (hk : ∀ c o, c ∉ F.map (·.1) → h.get? c = some o → h'.get? c = some o) : Mono C ⟨ρ, F ++ M⟩ h ⟨ρ', F' ++ M⟩ h' := by
  have eN : (⟨ρ, F ++ M⟩ : AS).N = F.map (·.1) ++ M.map (·.1) := List.map_append ..
  have eN' : (⟨ρ', F' ++ M⟩ : AS).N = F'.map (·.1) ++ M.map (·.1) := List.map_append ..
  have sN : (⟨ρ', F' ++ M⟩ : AS).N.Sublist (⟨ρ, F ++ M⟩ : AS).N := by rw [eN, eN']; exact hs.append (List.Sublist.refl _)
  have sm : (muts C ⟨ρ', F' ++ M⟩).Sublist (muts C ⟨ρ, F ++ M⟩) := .cons_cons _ (List.Sublist.append (List.Sublist.refl _) sN)
  refine fun a o e n => ⟨hk a o (fun q => N_of_muts n (by rw [eN]; exact List.mem_append_left _ q)) e, fun q => n (sm.subset q)⟩
theorem StH.perm {h : Heap} {ρ : List Sl} {M M' : List (Addr × MO)} (S : StH C ⟨ρ, M⟩ h) (hp : M.Perm M') : StH C ⟨ρ, M'⟩ h := by
  have pN : (⟨ρ, M⟩ : AS).N.Perm (⟨ρ, M'⟩ : AS).N := hp.map _
  have pm : (muts C ⟨ρ, M⟩).Perm (muts C ⟨ρ, M'⟩) := .cons _ (pN.append_left _)
  have kk : ∀ (a : Addr) (o : Obj), h.get? a = some o → SeqObj o → a ∉ (⟨ρ, M⟩ : AS).N → h.get? a = some o ∧ a ∉ (⟨ρ, M'⟩ : AS).N := fun a o e _ n => ⟨e, fun q => n (pN.mem_iff.mpr q)⟩
  refine ⟨S.std, S.kept, fun a ha => S.apart a (pm.mem_iff.mpr ha), fun a ha => S.big a (pm.mem_iff.mpr ha), pm.nodup_iff.mp S.nodup, ?_, S.cells, S.names, S.cnodup, fun p q => (S.mem p (hp.mem_iff.mpr q)).map kk fun _ e => e⟩
  obtain ⟨m, a, q⟩ := S.ns
  exact ⟨m, a, fun e he => (q e he).map kk fun c o n _ e' _ => ⟨e', fun q => n (pN.mem_iff.mpr q)⟩⟩
theorem Mono.perm {h : Heap} {ρ ρ' : List Sl} {M M' : List (Addr × MO)} (hp : M.Perm M') : Mono C ⟨ρ, M⟩ h ⟨ρ', M'⟩ h := by
  have pN : (⟨ρ, M⟩ : AS).N.Perm (⟨ρ', M'⟩ : AS).N := hp.map _
  have pm : (muts C ⟨ρ, M⟩).Perm (muts C ⟨ρ', M'⟩) := .cons _ (pN.append_left _)
  exact fun a o e n => ⟨e, fun q => n (pm.mem_iff.mpr q)⟩
inductive Back (F : List (Addr × MO)) (I : AS → Prop) (W : AS) : Prop where
  | mk (Z : AS) : W = ⟨Z.ρ, F ++ Z.mem⟩ → I Z → Back F I W
inductive ItR (C : Cx) (X Y : AS) (v : Value) (x : V) (h : Heap) (s : Shared) : Prop where
  | mk : St C Y s → Rep s.heap Y.N v x → Mono C X h Y s.heap → ItR C X Y v x h s
inductive StopR (C : Cx) (X Y : AS) (h : Heap) (r : Option Value) (s : Shared) : Prop where
  | mk : r = none → St C Y s → Mono C X h Y s.heap → StopR C X Y h r s
structure Iter (C : Cx) (tgt : Expr) (b : Addr) (l : List V) (front : Nat → List (Addr × MO)) (K : Heap → List Addr → Prop) (ok : List (Addr × MO) → Prop) : Prop where
  item : ∀ j x ρ M, l[j]? = some x → ok M → ∀ s, St C ⟨ρ, front j ++ M⟩ s → K s.heap (⟨ρ, front j ++ M⟩ : AS).N →
    wpAny (model C.G.prog C.G.w) C.A (pyNext (.ref b)) (fun r s1 => ∃ v, r = some v ∧ wpAny (model C.G.prog C.G.w) C.A (letOwnedTupleGo tgt (.ref b) v)
      (fun _ => ItR C ⟨ρ, front j ++ M⟩ ⟨ρ, front (j + 1) ++ M⟩ v x s.heap) (fun _ _ => False) s1) (fun _ _ => False) s
  stop : ∀ j ρ M, j = l.length → ok M → ∀ s, St C ⟨ρ, front j ++ M⟩ s → K s.heap (⟨ρ, front j ++ M⟩ : AS).N →
    wpAny (model C.G.prog C.G.w) C.A (pyNext (.ref b)) (StopR C ⟨ρ, front j ++ M⟩ ⟨ρ, M⟩ s.heap) (fun _ _ => False) s
  self : ∀ j ρ M, ∀ s, St C ⟨ρ, front j ++ M⟩ s → wpAny (model C.G.prog C.G.w) C.A (pyIter (.ref b)) (fun r s1 => r = .ref b ∧ s1 = s) (fun _ _ => False) s
  kmono : ∀ (Y : AS) (h : Heap) (Z : AS) (h' : Heap), StH C Y h → Mono C Y h Z h' → K h Y.N → K h' Z.N
inductive MkR (C : Cx) (tgt : Expr) (X : AS) (l : List V) (M : List (Addr × MO)) (ok : List (Addr × MO) → Prop) (h : Heap) (r : Value) (s' : Shared) : Prop where
  | mk (b : Addr) (front : Nat → List (Addr × MO)) (K : Heap → List Addr → Prop) : r = .ref b → (∀ C' : Cx, C'.G = C.G → C'.A = C.A → Iter C' tgt b l front K ok) → St C ⟨X.ρ, front 0 ++ M⟩ s' → K s'.heap (⟨X.ρ, front 0 ++ M⟩ : AS).N → Mono C X h ⟨X.ρ, front 0 ++ M⟩ s'.heap → MkR C tgt X l M ok h r s'
noncomputable def MkIter (C : Cx) (tgt : Expr) (X : AS) (x : V) (l : List V) (M : List (Addr × MO)) (ok : List (Addr × MO) → Prop) : Prop :=
  ∀ s, St C X s → ∀ a, Rep s.heap X.N a x → wpAny (model C.G.prog C.G.w) C.A (pyIter a) (MkR C tgt X l M ok s.heap) (fun _ _ => False) s
theorem wp_noOwned {M : Model} {A : Around} {E : Value → Shared → Prop} {tgt : Expr} {b : Addr} {v : Value} {s : Shared} {o : Obj} {T : String} {Q : Unit → Shared → Prop} (ho : s.heap.get? b = some o) (hc : o.cls = .type T)
    (hT : ["enumerate", "zip", "dict_itemiterator", "dict_reverseitemiterator", "odict_iterator", "itertools.zip_longest", "itertools.pairwise"].contains T = false) (h : Q () s) : wpAny M A (letOwnedTupleGo tgt (.ref b) v) Q E s := by
  have key : ∀ a : Addr, wpAny M A (do
      let o ← load b
      match o.cls, o.data with
      | .type n, .fields vs =>
        if ["enumerate", "zip", "dict_itemiterator", "dict_reverseitemiterator", "odict_iterator", "itertools.zip_longest", "itertools.pairwise"].contains n && vs[0]? == some (rawInt a) then
          rule "for.unpacks-the-owned-tuple"
          updateField b 0 .none
      | _, _ => pure () : Sem Unit) Q E s := fun a => by
    refine wpAny_bind (wpAny_load ho ?_)
    rw [hc]
    cases o.data <;> first | exact wpAny_pure h | (simp only [hT, Bool.false_and, Bool.false_eq_true, if_false]; exact wpAny_pure h)
  cases tgt <;> first | exact wpAny_pure h | (cases v <;> first | exact wpAny_pure h | exact key _)
noncomputable abbrev noOwn (T : String) : Prop := ["enumerate", "zip", "dict_itemiterator", "dict_reverseitemiterator", "odict_iterator", "itertools.zip_longest", "itertools.pairwise"].contains T = false
theorem iter_one {tgt : Expr} {b : Addr} {l : List V} {T : String} {p : Nat → Obj → Prop} {K : Heap → List Addr → Prop} {ok : List (Addr × MO) → Prop}
    (hT : noOwn T) (hp : ∀ j o, p j o → o.cls = .type T)
    (hnext : ∀ j ρ M, ok M → ∀ s, St C ⟨ρ, [(b, .obj (p j))] ++ M⟩ s → K s.heap (⟨ρ, [(b, .obj (p j))] ++ M⟩ : AS).N → 
      (∀ x (Q : Option Value → Shared → Prop), l[j]? = some x → (∀ v h' tk o, Rep s.heap (⟨ρ, [(b, .obj (p j))] ++ M⟩ : AS).N v x → h'.get? b = some o → p (j + 1) o → Heap.ExtBut b s.heap h' → Q (some v) { s with heap := h', toks := tk }) → wpAny (model C.G.prog C.G.w) C.A (pyNext (.ref b)) Q (fun _ _ => False) s) ∧
      (j = l.length → ∀ (Q : Option Value → Shared → Prop), (∀ h', Heap.ExtBut b s.heap h' → Q none { s with heap := h' }) → wpAny (model C.G.prog C.G.w) C.A (pyNext (.ref b)) Q (fun _ _ => False) s))
    (hself : ∀ (j : Nat) (s : Shared) (o : Obj) (Q : Value → Shared → Prop), s.heap.get? b = some o → p j o → Q (.ref b) s → wpAny (model C.G.prog C.G.w) C.A (pyIter (.ref b)) Q (fun _ _ => False) s)
    (hK : ∀ (Y : AS) (h : Heap) (Z : AS) (h' : Heap), StH C Y h → Mono C Y h Z h' → K h Y.N → K h' Z.N) : Iter C tgt b l (fun j => [(b, .obj (p j))]) K ok where
  item := fun j x ρ M hx hok s S k => by
    obtain ⟨hn, _⟩ := hnext j ρ M hok s S k
    refine hn x _ hx fun v h' tk o rv ho hpo hb => ⟨v, rfl, wp_noOwned ho (hp _ _ hpo) hT ?_⟩
    have hk : ∀ c o, c ∉ [(b, MO.obj (p j))].map (·.1) → s.heap.get? c = some o → h'.get? c = some o := fun c o n e => hb c o (by simpa using n) e
    have S1 := S.H.front (F := [(b, .obj (p j))]) (F' := [(b, .obj (p (j + 1)))]) (.refl _) hk (by intro p hp; simp at hp; subst hp; exact ⟨o, ho, hpo⟩)
    have mo := Mono.front (C := C) (ρ := ρ) (ρ' := ρ) (F := [(b, .obj (p j))]) (F' := [(b, .obj (p (j + 1)))]) (M := M) (.refl _) hk
    exact ⟨⟨S1, S.gens, S.os⟩, rv.mono S.H mo, mo⟩
  stop := fun j ρ M hx hok s S k => by
    obtain ⟨_, hn⟩ := hnext j ρ M hok s S k
    refine hn hx _ fun h' hb => ?_
    have hk : ∀ c o, c ∉ [(b, MO.obj (p j))].map (·.1) → s.heap.get? c = some o → h'.get? c = some o := fun c o n e => hb c o (by simpa using n) e
    exact ⟨rfl, S.heap (S.H.front (F := [(b, .obj (p j))]) (F' := []) (List.nil_sublist _) hk (by intro p hp; simp at hp)), Mono.front (C := C) (ρ := ρ) (ρ' := ρ) (F := [(b, .obj (p j))]) (F' := []) (M := M) (List.nil_sublist _) hk⟩
  self := fun j ρ M s S => by
    obtain ⟨o, ho, hpo⟩ := S.H.mem (b, .obj (p j)) (by simp)
    exact hself j s o _ ho hpo ⟨rfl, rfl⟩
  kmono := hK
noncomputable def atIt (T : String) (a : Addr) (j : Nat) : Obj → Prop := fun o => o.cls = .type T ∧ o.data = .fields #[.ref a, .int j 0]
theorem alloc_it {h : Heap} {p : Obj → Prop} (S : StH C X h) {o : Obj} (hpo : p o) (hf : o.isFreed = false) : StH C ⟨X.ρ, [(h.objs.size, .obj p)] ++ X.mem⟩ (h.push o) :=
  S.alloc (mo := .obj p) ⟨o, Heap.get?_push_size _ hf, hpo⟩
theorem St.hand {s : Shared} (S : St C X s) : C.A.handled = none := S.H.std.hand
theorem MkIter.tup {tgt : Expr} {l : List V} : MkIter C tgt X (.tup l) l X.mem (fun _ => True) := fun s0 S a r => by
  have r0 := r
  obtain ⟨a, vs, hv9, e, hN, rl⟩ := Rep.tup_inv r; clear r; cases (hv9)
  · refine wpAny_pyIter_tuple ⟨_, e, rfl, _, rfl⟩ ⟨_, fun j => [(s0.heap.objs.size, .obj (atIt "tuple_iterator" a j))], fun h N => Rep h N (.ref a) (.tup l), rfl, ?_, S.heap (alloc_it S.H ⟨rfl, rfl⟩ rfl), r0.mono S.H (Mono.alloc _ (.obj (atIt "tuple_iterator" a 0))), Mono.alloc _ (.obj (atIt "tuple_iterator" a 0))⟩
    intro C' hG hA
    refine iter_one (p := fun j => atIt "tuple_iterator" a j) (by decide +kernel) (fun j o h => h.1) (fun j ρ M _ s S k => ?_) (fun j s o Q ho h q => wpAny_pyIter_tupleiter ⟨o, ho, h.1, h.2⟩ q) fun Y h Z h' S m k => k.mono S m
    obtain ⟨o, ho, hc, hd⟩ := S.H.mem (s0.heap.objs.size, .obj (atIt "tuple_iterator" a j)) (by simp)
    obtain ⟨_, ws, hv9, e', _, rl'⟩ := Rep.tup_inv k; clear k; cases (hv9)
    · refine ⟨fun x Q hx hQ => ?_, fun hx Q hQ => wpAny_pyNext_tuple_end S.hand ⟨o, ho, hc, hd⟩ ⟨_, e', rfl, _, rfl⟩ (by simp [hx, rl'.length]) hQ⟩
      obtain ⟨v, hv, rv⟩ := rl'.get hx
      exact wpAny_pyNext_tuple_item ⟨o, ho, hc, hd⟩ ⟨_, e', rfl, _, rfl⟩ (by simpa using hv) fun h' ⟨o', ho', hc', hd'⟩ hb => hQ v h' s.toks o' rv ho' ⟨hc', hd'⟩ hb.extBut
theorem MkIter.lst {tgt : Expr} {l : List V} : MkIter C tgt X (.lst l) l X.mem (fun _ => True) := fun s0 S a r => by
  have r0 := r
  obtain ⟨a, vs, n, hv9, e, hN, rl⟩ := Rep.lst_inv r; clear r; cases (hv9)
  · refine wpAny_pyIter_list ⟨_, e, rfl, _, rfl⟩ ⟨_, fun j => [(s0.heap.objs.size, .obj (atIt "list_iterator" a j))], fun h N => Rep h N (.ref a) (.lst l), rfl, ?_, S.heap (alloc_it S.H ⟨rfl, rfl⟩ rfl), r0.mono S.H (Mono.alloc _ (.obj (atIt "list_iterator" a 0))), Mono.alloc _ (.obj (atIt "list_iterator" a 0))⟩
    intro C' hG hA
    refine iter_one (p := fun j => atIt "list_iterator" a j) (by decide +kernel) (fun j o h => h.1) (fun j ρ M _ s S k => ?_) (fun j s o Q ho h q => wpAny_pyIter_listiter ⟨o, ho, h.1, h.2⟩ q) fun Y h Z h' S m k => k.mono S m
    obtain ⟨o, ho, hc, hd⟩ := S.H.mem (s0.heap.objs.size, .obj (atIt "list_iterator" a j)) (by simp)
    obtain ⟨_, ws, n', hv9, e', _, rl'⟩ := Rep.lst_inv k; clear k; cases (hv9)
    · refine ⟨fun x Q hx hQ => ?_, fun hx Q hQ => wpAny_pyNext_list_end S.hand ⟨o, ho, hc, hd⟩ ⟨_, e', rfl, _, rfl⟩ (by simp [hx, rl'.length]) hQ⟩
      obtain ⟨v, hv, rv⟩ := rl'.get hx
      exact wpAny_pyNext_list_item ⟨o, ho, hc, hd⟩ ⟨_, e', rfl, _, rfl⟩ (by simpa using hv) fun h' ⟨o', ho', hc', hd'⟩ hb => hQ v h' s.toks o' rv ho' ⟨hc', hd'⟩ hb.extBut
theorem MkIter.mlst {tgt : Expr} {l : List V} {a : Addr} (hm : (a, .lst l) ∈ X.mem) : MkIter C tgt X (.raw (.ref a)) l X.mem (fun M => (a, .lst l) ∈ M) := fun s0 S _ r => by
  cases r
  obtain ⟨vs, n, e, rl⟩ := S.H.mem _ hm
  refine wpAny_pyIter_list ⟨_, e, rfl, _, rfl⟩ ⟨_, fun j => [(s0.heap.objs.size, .obj (atIt "list_iterator" a j))], fun h N => True, rfl, ?_, S.heap (alloc_it S.H ⟨rfl, rfl⟩ rfl), trivial, Mono.alloc _ (.obj (atIt "list_iterator" a 0))⟩
  intro C' hG hA
  refine iter_one (p := fun j => atIt "list_iterator" a j) (by decide +kernel) (fun j o h => h.1) (fun j ρ M hok s S k => ?_) (fun j s o Q ho h q => wpAny_pyIter_listiter ⟨o, ho, h.1, h.2⟩ q) fun Y h Z h' S m k => trivial
  obtain ⟨o, ho, hc, hd⟩ := S.H.mem (s0.heap.objs.size, .obj (atIt "list_iterator" a j)) (by simp)
  obtain ⟨ws, n', e', rl'⟩ := S.H.mem (a, .lst l) (List.mem_append_right _ hok)
  refine ⟨fun x Q hx hQ => ?_, fun hx Q hQ => wpAny_pyNext_list_end S.hand ⟨o, ho, hc, hd⟩ ⟨_, e', rfl, _, rfl⟩ (by simp [hx, rl'.length]) hQ⟩
  obtain ⟨v, hv, rv⟩ := rl'.get hx
  exact wpAny_pyNext_list_item ⟨o, ho, hc, hd⟩ ⟨_, e', rfl, _, rfl⟩ (by simpa using hv) fun h' ⟨o', ho', hc', hd'⟩ hb => hQ v h' s.toks o' rv ho' ⟨hc', hd'⟩ hb.extBut
noncomputable def atRng (a : Int) (n j : Nat) : Obj → Prop := fun o => o = { cls := .type "range_iterator", dict := none, data := .fields #[rawInt (a + (j : Nat) * 1), rawInt ((n : Int) - (j : Nat)), rawInt 1], slots := #[] }
noncomputable def IsRng (a : Int) (n : Nat) (p : Obj → Prop) : Prop := ∀ o, p o → ∃ c t u v, o = { cls := .type "range", dict := none, data := .fields #[.int a t, .int c u, .int 1 v], slots := #[] } ∧ Builtin.Range.small a c 1 = true ∧ Builtin.Range.rangeSize a c 1 = n
theorem MkIter.rng {tgt : Expr} {a : Int} {n : Nat} {r : Addr} {p : Obj → Prop} {M : List (Addr × MO)} (hm : X.mem = (r, .obj p) :: M) (hp : IsRng a n p) : MkIter C tgt X (.raw (.ref r)) ((List.range n).map fun i : Nat => .int (a + (i : Int))) X.mem (fun _ => True) := fun s0 S _ hr => by
  cases hr
  obtain ⟨o, ho, hpo⟩ := S.H.mem (r, .obj p) (by rw [hm]; exact List.mem_cons_self ..)
  obtain ⟨c, t, u, v, rfl, hsm, hsz⟩ := hp o hpo
  refine wpAny_pyIter_range ho hsm ?_
  rw [hsz]
  refine ⟨_, fun j => [(s0.heap.objs.size, .obj (atRng a n j))], fun h N => True, rfl, ?_, S.heap (alloc_it S.H (by simp [atRng]) rfl), trivial, Mono.alloc _ (.obj (atRng a n 0))⟩
  intro C' hG hA
  refine iter_one (p := fun j => atRng a n j) (T := "range_iterator") (by decide +kernel) (fun j o h => by rw [h]) (fun j ρ M hok s S k => ?_) (fun j s o Q ho h q => wpAny_pyIter_rangeiter (x := a + (j : Nat) * 1) (left := (n : Int) - (j : Nat)) (step := 1) (by cases h; exact ho) q) fun Y h Z h' S m k => trivial
  obtain ⟨o, ho, rfl⟩ := S.H.mem (s0.heap.objs.size, .obj (atRng a n j)) (by simp)
  have W := Walks.range (prog := C'.G.prog) (w := C'.G.w) S.hand s0.heap.objs.size a 1 n
  refine ⟨fun x Q hx hQ => ?_, fun hx Q hQ => ?_⟩
  · have hj : j < n := by
      have := (List.getElem?_eq_some_iff.mp hx).1
      simpa using this
    have hx' : x = .int (a + j) := by
      rw [List.getElem?_map, List.getElem?_range hj] at hx; simpa using hx.symm
    subst hx'
    refine W.item j s Q _ hj ho fun v h' tk hv hst hk => ?_
    obtain ⟨t, rfl⟩ := hv
    exact hQ _ h' tk _ (by rw [Int.mul_one]; exact .int _ t) hst rfl fun c o n e => hk c o (by simpa using n) e
  · have hj : j = n := by simpa using hx
    subst hj
    have ho' : IsRangeIter s.heap s0.heap.objs.size (a + (j : Nat) * 1) ((j : Int) - (j : Nat)) 1 := ho
    exact wpAny_pyNext_range_end S.hand ho' (by omega) fun h' he => hQ h' he
end
end
section
section
variable {C : Cx} {X : AS}
noncomputable abbrev TurnK (P : AS → Prop) (Q : Fl → AS → Prop) (fl : Fl) (W : AS) : Prop := match fl with | .next => P W | .cont => P W | .brk => False | .ret v => Q (.ret v) W
noncomputable abbrev WhileK (P : AS → Prop) (Q : Fl → AS → Prop) (fl : Fl) (W : AS) : Prop := match fl with | .next => P W | .cont => P W | .brk => Q .next W | .ret v => Q (.ret v) W
inductive LoopAt (C : Cx) (X : AS) (h : Heap) (m : Nat) (front : Nat → List (Addr × MO)) (K : Heap → List Addr → Prop) (I : Nat → AS → Prop) (n : Nat) (s : Shared) : Prop where
  | mk (j : Nat) (Z : AS) : j ≤ m → n = m - j → I j Z → St C ⟨Z.ρ, front j ++ Z.mem⟩ s → K s.heap (⟨Z.ρ, front j ++ Z.mem⟩ : AS).N → Mono C X h ⟨Z.ρ, front j ++ Z.mem⟩ s.heap → LoopAt C X h m front K I n s
theorem Ex.for {tgt it : Expr} {body : List Stmt} {pos : Pos} {l : List V} {ok : List (Addr × MO) → Prop} {Q : Fl → AS → Prop} (I : Nat → AS → Prop)
    (h : Ev C X it (fun x Y => ∃ M, MkIter C tgt Y x l M ok ∧ I 0 ⟨Y.ρ, M⟩)) (hok : ∀ j Z, I j Z → ok Z.mem)
    (turn : ∀ j x Z F, l[j]? = some x → I j Z → As C ⟨Z.ρ, F ++ Z.mem⟩ tgt x (fun W => Exs C W body (TurnK (Back F (I (j + 1))) Q)))
    (done : ∀ Z, I l.length Z → Q .next Z) (hs : ∀ x, foldedSetIterable it C.env x = pure x := by intro _; rfl) : Ex C X (.For tgt it body [] pos) Q := fun s S => by
  refine wpAny_For (h.run S fun a x Y s1 q1 S1 r1 m1 => ?_) hs
  obtain ⟨M, mk, hI⟩ := q1
  refine wpAny_mono (mk s1 S1 a r1) (fun it' s2 g => ?_) fun _ _ e => e.elim
  obtain ⟨b, front, K, rfl, IT', S2, hK, m2⟩ := g
  have IT := IT' C rfl rfl
  refine codeAny_forLoop_any (LoopAt C X s.heap l.length front K I)
    (fun n s' g => ?_) l.length ⟨0, ⟨Y.ρ, M⟩, Nat.zero_le _, rfl, hI, S2, hK, m1.trans m2⟩
  obtain ⟨j, Z, hj, rfl, hI, S', hK', m'⟩ := g
  cases hx : l[j]? with
  | some x =>
    have hjl : j < l.length := (List.getElem?_eq_some_iff.mp hx).1
    refine wpAny_mono (IT.item j x Z.ρ Z.mem hx (hok j Z hI) s' S' hK') (fun r s3 g => ?_) fun _ _ e => e.elim
    obtain ⟨v, rfl, g⟩ := g
    refine wpAny_mono g (fun _ s4 g => ?_) fun _ _ e => e.elim
    obtain ⟨S4, rv, m4⟩ := g
    have hK4 := IT.kmono _ _ _ _ S'.H m4 hK'
    refine Op1.run (turn j x Z (front (j + 1)) hx hI) S4 rv fun _ s5 g => ?_
    obtain ⟨_, W, q5, S5, _, m5⟩ := g
    refine (show Exs C W body _ from q5).run S5 fun f fl W' s6 q6 S6 rf m6 => ?_
    have hm : Mono C X s.heap W' s6.heap := ((m'.trans m4).trans m5).trans m6
    cases fl with
    | next =>
      rw [show f = .next from rf]
      obtain ⟨Z', rfl, hI'⟩ := q6
      exact ⟨_, by omega, j + 1, Z', hjl, rfl, hI', S6, IT.kmono _ _ _ _ S4.H (m5.trans m6) hK4, hm⟩
    | cont =>
      rw [show f = .cont from rf]
      obtain ⟨Z', rfl, hI'⟩ := q6
      exact ⟨_, by omega, j + 1, Z', hjl, rfl, hI', S6, IT.kmono _ _ _ _ S4.H (m5.trans m6) hK4, hm⟩
    | brk => exact q6.elim
    | ret x => obtain ⟨_, e, rv'⟩ := RF.ret_inv rf; rw [e]; exact ⟨_, W', q6, S6, .ret rv', hm⟩
  | none =>
    have hjl : j = l.length := Nat.le_antisymm hj (List.getElem?_eq_none_iff.mp hx)
    subst hjl
    refine wpAny_mono (IT.stop _ Z.ρ Z.mem rfl (hok _ Z hI) s' S' hK') (fun r s3 g => ?_) fun _ _ e => e.elim
    obtain ⟨rfl, S3, m3⟩ := g
    exact wpAny_execs_nil ⟨_, Z, done Z hI, S3, .next, m'.trans m3⟩
theorem Ex.while {test : Expr} {body : List Stmt} {pos : Pos} {Q : Fl → AS → Prop} (I : Nat → AS → Prop) (n : Nat) (h0 : I n X)
    (turn : ∀ n Z, I n Z → Tr C Z test (fun b W => if b = true then Exs C W body (WhileK (fun W' => ∃ m, m < n ∧ I m W') Q) else Q .next W)) : Ex C X (.While test body [] pos) Q := fun s S => by
  refine wpAny_While (codeAny_whileLoop (fun n s' => ∃ Z, I n Z ∧ St C Z s' ∧ Mono C X s.heap Z s'.heap) (fun n s' g => ?_) n ⟨X, h0, S, Mono.refl _ _ _⟩)
  obtain ⟨Z, hI, S', m'⟩ := g
  refine (turn n Z hI).run S' fun b b' W s2 q S2 r m2 => ?_
  cases r
  cases b with
  | false => exact wpAny_execs_nil ⟨_, W, q, S2, .next, m'.trans m2⟩
  | true =>
    refine (show Exs C W body _ from q).run S2 fun f fl W' s3 q3 S3 rf m3 => ?_
    have hm := (m'.trans m2).trans m3
    cases fl with
    | next => rw [show f = .next from rf]; obtain ⟨m, h1, h2⟩ := q3; exact ⟨m, h1, W', h2, S3, hm⟩
    | cont => rw [show f = .cont from rf]; obtain ⟨m, h1, h2⟩ := q3; exact ⟨m, h1, W', h2, S3, hm⟩
    | brk => rw [show f = .brk from rf]; exact ⟨_, W', q3, S3, .next, hm⟩
    | ret x => obtain ⟨_, e, rv⟩ := RF.ret_inv rf; rw [e]; exact ⟨_, W', q3, S3, .ret rv, hm⟩
inductive CodR (C : Cx) (X : AS) (h : Heap) (Q : AS → Prop) (r : Result) (s' : Shared) : Prop where
  | mk : r = .ok .next → (Y : AS) → Q Y → St C Y s' → Mono C X h Y s'.heap → CodR C X h Q r s'
noncomputable def Cod (C : Cx) (X : AS) (c : Code) (Q : AS → Prop) : Prop := ∀ s, St C X s → codeAny (model C.G.prog C.G.w) C.A c (CodR C X s.heap Q) s
noncomputable abbrev Ifs (C : Cx) (X : AS) (ifs : List Expr) (Q : Bool → AS → Prop) : Prop :=
  TW C X (forIn ifs true fun c r => if r = true then do let ok ← isTrue c C.env (eval c C.env); pure (ForInStep.yield ok) else pure (ForInStep.yield r)) RE Q
theorem Ifs.nil {Q : Bool → AS → Prop} (q : Q true X) : Ifs C X [] Q := fun s S => wpAny_pure (fin0 S rfl q)
theorem Ifs.one {e : Expr} {Q : Bool → AS → Prop} (h : Tr C X e Q) : Ifs C X [e] Q := fun s S => by
  rw [List.forIn_cons]
  simp only [if_true, List.forIn_nil]
  refine wpAny_bind (wpAny_bind (h.run S fun b b' Y s1 q S1 r m => wpAny_pure (wpAny_pure ?_)))
  cases r
  exact ⟨_, Y, q, S1, rfl, m⟩
noncomputable abbrev Emit (C : Cx) (X : AS) (elt : Expr) (D : Addr) (Q : AS → Prop) : Prop :=
  TW C X (do let x ← eval elt C.env; let _ ← call (.builtin "list.append") [.ref D, x]; pure PUnit.unit) RE (fun (_ : PUnit) Y => Q Y)
theorem append_at {ρ : List Sl} {F M : List (Addr × MO)} {D : Addr} {acc : List V} {s : Shared} (S : St C ⟨ρ, F ++ (D, .lst acc) :: M⟩ s) {v : Value} {x : V} (rv : Rep s.heap (⟨ρ, F ++ (D, .lst acc) :: M⟩ : AS).N v x)
    (hz : acc.length ≤ sizeLine) {Q : V → AS → Prop} (q : Q .none ⟨ρ, F ++ (D, .lst (acc ++ [x])) :: M⟩) {A : Around} {E : Value → Shared → Prop} :
    wpAny (model C.G.prog C.G.w) A (call (.builtin "list.append") [.ref D, v]) (Good C ⟨ρ, F ++ (D, .lst acc) :: M⟩ s.heap RV Q) E s := by
  have hi : (⟨ρ, F ++ (D, .lst acc) :: M⟩ : AS).mem[F.length]? = some (D, .lst acc) := by simp
  obtain ⟨vs, n, e, rl⟩ := S.at hi
  have hty : s.TypeIs (.ref D) "list" := ⟨_, e, rfl⟩
  refine wpAny_call_entry slot_list_append hty entry_list_append ?_ (args_list_append _ _)
  show wpAny _ _ (updateSeq D (·.push v) >>= fun _ => ret .none) _ _ s
  have hl := rl.length
  refine wpAny_bind (wpAny_updateSeq e rfl (wpAny_pure ⟨.none, rfl, ?_⟩) (by simp; omega) (by simp; omega))
  have hb : Heap.SameBut D s.heap (s.heap.update D (Obj.mapSeq (·.push v))) := Heap.SameBut.update ..
  have eset : (F ++ (D, MO.lst acc) :: M).set F.length (D, MO.lst (acc ++ [x])) = F ++ (D, MO.lst (acc ++ [x])) :: M := by simp
  have hDN : D ∈ (⟨ρ, F ++ (D, .lst acc) :: M⟩ : AS).N := List.mem_map.mpr ⟨(D, .lst acc), by simp, rfl⟩
  have kk : ∀ (b : Addr) (o : Obj), s.heap.get? b = some o → SeqObj o → b ∉ (⟨ρ, F ++ (D, .lst acc) :: M⟩ : AS).N → (s.heap.update D (Obj.mapSeq (·.push v))).get? b = some o ∧ b ∉ (⟨ρ, F ++ (D, .lst acc) :: M⟩ : AS).N :=
    fun b o e _ n => ⟨(hb.2 b fun q => n (q ▸ hDN)).trans e, n⟩
  have H := S.H.write (mo' := .lst (acc ++ [x])) hi hb ⟨vs ++ [v], _, by rw [Heap.get?_update_self _ e rfl]; simp [Obj.mapSeq]; rfl, (rl.map kk).append (.cons (rv.map kk) .nil)⟩
  have mo := Mono.write (C := C) (h' := s.heap.update D (Obj.mapSeq (·.push v))) (mo' := .lst (acc ++ [x])) hi hb
  simp only [eset] at H mo
  exact ⟨.none, _, q, S.heap H, .none, mo⟩
theorem Emit.mk {elt : Expr} {D : Addr} {Q : AS → Prop} (h : Ev C X elt (fun x Y => ∃ F acc M, Y.mem = F ++ (D, .lst acc) :: M ∧ acc.length ≤ sizeLine ∧ Q ⟨Y.ρ, F ++ (D, .lst (acc ++ [x])) :: M⟩)) : Emit C X elt D Q := fun s S =>
  wpAny_bind (h.run S fun v x Y s1 q S1 r m => by
    obtain ⟨ρ, mem⟩ := Y
    obtain ⟨F, acc, M, rfl, hz, q⟩ := q
    refine wpAny_bind (wpAny_mono (append_at (Q := fun _ Y => Q Y) S1 r hz q (E := fun _ _ => False)) (fun _ s2 g => wpAny_pure ?_) fun _ _ e => e)
    obtain ⟨_, Y, q, S2, _, m2⟩ := g
    exact ⟨_, Y, q, S2, rfl, m.trans m2⟩)
noncomputable def Rest (C : Cx) (elt : Expr) (D : Addr) : List Comprehension → AS → (AS → Prop) → Prop
  | [], X, Q => Emit C X elt D Q
  | ⟨tgt, it, ifs, _⟩ :: gs, X, Q => Ev C X it (fun x Y => ∃ l M ok, MkIter C tgt Y x l M ok ∧ ∃ I : Nat → AS → Prop, I 0 ⟨Y.ρ, M⟩ ∧ (∀ j Z, I j Z → ok Z.mem) ∧
      (∀ j x Z F, l[j]? = some x → I j Z → As C ⟨Z.ρ, F ++ Z.mem⟩ tgt x (fun W => Ifs C W ifs (fun c W' => if c = true then Rest C elt D gs W' (Back F (I (j + 1))) else Back F (I (j + 1)) W'))) ∧
      ∀ Z, I l.length Z → Q Z)
noncomputable def restK (elt : Expr) (gens : List Comprehension) (scope : Scope) (pos : Pos) (d : Nat) (acc : Value) (env : Env) (k : Sem Fin) : Sem Fin :=
  match gens[d + 1]? with
  | some g' => (do
    let x ← eval g'.iter env
    standAt g'.iter.pos
    let x ← if g'.is_async != 0 then foldedIterable g'.iter x else foldedSetIterable g'.iter env x
    let _ ← runOwn (.compStart (.ListComp elt gens scope pos) (d + 1) (← holding [x] (if g'.is_async != 0 then asyncIter x else pyIter x)) acc env) env
    k)
  | none => (do let x ← eval elt env; let _ ← call (.builtin "list.append") [acc, x]; pure PUnit.unit) >>= fun _ => k
theorem compTurn_list {elt : Expr} {gens : List Comprehension} {scope : Scope} {pos : Pos} {d : Nat} {it acc : Value} {env : Env} {tgt iter : Expr} {ifs : List Expr} (hg : gens[d]? = some ⟨tgt, iter, ifs, 0⟩) :
    compTurn (.ListComp elt gens scope pos) d it acc env = (standAt iter.pos >>= fun _ => pyNext it >>= fun r => match r with
      | none => pure (.done .next)
      | some v => letOwnedTupleGo tgt it v >>= fun _ => assign tgt env v >>= fun _ =>
        (forIn ifs true fun c r => if r = true then do let ok ← isTrue c env (eval c env); pure (ForInStep.yield ok) else pure (ForInStep.yield r)) >>= fun ok =>
        (if ok = true then restK elt gens scope pos d acc env (again (.compLoop (.ListComp elt gens scope pos) d it acc env))
         else again (.compLoop (.ListComp elt gens scope pos) d it acc env))) := by
  unfold compTurn restK
  simp only [hg]
  rfl
theorem cod_start {elt : Expr} {gens : List Comprehension} {scope : Scope} {pos : Pos} {d : Nat} {it acc : Value} {R : Result → Shared → Prop} {s : Shared} {g : Comprehension} (hg : gens[d]? = some g) (h0 : g.is_async = 0)
    (hl : codeAny (model C.G.prog C.G.w) C.A (.compLoop (.ListComp elt gens scope pos) d it acc C.env) R s)
    (hi : wpAny (model C.G.prog C.G.w) C.A (pyIter it) (fun r s1 => r = it ∧ s1 = s) (fun _ _ => False) s) : codeAny (model C.G.prog C.G.w) C.A (.compStart (.ListComp elt gens scope pos) d it acc C.env) R s := by
  refine codeAny_of_tree ?_
  show wpAny _ _ ((compStart (.ListComp elt gens scope pos) d it acc C.env).onRaise (fun x => do noteFrame x C.env; standAt theWindowsPlace)) _ _ s
  refine wpAny_notedAt ?_
  unfold compStart
  have e1 : clausesOf (.ListComp elt gens scope pos) = gens := rfl
  simp only [e1, hg, Option.elim, h0, bne_self_eq_false, Bool.false_eq_true, if_false]
  show wpAny _ _ (ask >>= _) _ _ s
  refine wpAny_bind (wpAny_askSetting (wpAny_ite ?_))
  split
  · first
      | exact wpAny_bind (wpAny_pure (wpAny_pure (And.intro rfl hl)))
      | exact wpAny_pure (And.intro rfl hl)
  · refine wpAny_bind (wpAny_rule ?_)
    show wpAny _ _ (standAt g.iter.pos >>= _) _ _ s
    refine wpAny_bind (wpAny_standAt (wpAny_bind (wpAny_mono hi (fun r s1 h => ?_) fun _ _ e => e.elim)))
    obtain ⟨rfl, rfl⟩ := h
    exact wpAny_pure (And.intro rfl hl)
theorem cod_step {elt : Expr} {gens : List Comprehension} {scope : Scope} {pos : Pos} {d : Nat} {b D : Addr} {tgt iter : Expr} {ifs : List Expr} {l : List V} {front : Nat → List (Addr × MO)} {K : Heap → List Addr → Prop} {ok : List (Addr × MO) → Prop} {Q : AS → Prop} {gs : List Comprehension}
    (hg : gens[d]? = some ⟨tgt, iter, ifs, 0⟩)
    (hrest : ∀ (Q' : AS → Prop) W, Rest C elt D gs W Q' → ∀ s, St C W s → ∀ (k : Sem Fin) P E, (∀ Y s', Q' Y → St C Y s' → Mono C W s.heap Y s'.heap → wpAny (model C.G.prog C.G.w) C.A k P E s') → wpAny (model C.G.prog C.G.w) C.A (restK elt gens scope pos d (.ref D) C.env k) P E s)
    (IT : Iter C tgt b l front K ok) (I : Nat → AS → Prop) (hok : ∀ j Z, I j Z → ok Z.mem)
    (turn : ∀ j x Z F, l[j]? = some x → I j Z → As C ⟨Z.ρ, F ++ Z.mem⟩ tgt x (fun W => Ifs C W ifs (fun c W' => if c = true then Rest C elt D gs W' (Back F (I (j + 1))) else Back F (I (j + 1)) W')))
    (done : ∀ Z, I l.length Z → Q Z) (j : Nat) (Z : AS) (hj : j ≤ l.length) (hI : I j Z) (s : Shared) (S : St C ⟨Z.ρ, front j ++ Z.mem⟩ s) (hK : K s.heap (⟨Z.ρ, front j ++ Z.mem⟩ : AS).N) :
    codeAny (model C.G.prog C.G.w) C.A (.compLoop (.ListComp elt gens scope pos) d (.ref b) (.ref D) C.env) (CodR C ⟨Z.ρ, front j ++ Z.mem⟩ s.heap Q) s := by
  refine codeAny_loop rfl (LoopAt C ⟨Z.ρ, front j ++ Z.mem⟩ s.heap l.length front K I)
    (fun n s' g => ?_) (l.length - j) ⟨j, Z, hj, rfl, hI, S, hK, Mono.refl _ _ _⟩
  show wpAny _ _ ((compTurn (.ListComp elt gens scope pos) d (.ref b) (.ref D) C.env).onRaise (fun x => do noteFrame x C.env; theTreesLotGoes x)) _ _ s'
  refine wpAny_noted ?_
  rw [compTurn_list hg]
  obtain ⟨j', Z', hj', rfl, hI', S', hK', m'⟩ := g
  refine wpAny_bind (wpAny_standAt (wpAny_bind ?_))
  cases hx : l[j']? with
  | none =>
    have hjl : j' = l.length := Nat.le_antisymm hj' (List.getElem?_eq_none_iff.mp hx)
    subst hjl
    refine wpAny_mono (IT.stop _ Z'.ρ Z'.mem rfl (hok _ Z' hI') s' S' hK') (fun r s3 g => ?_) fun _ _ e => e.elim
    obtain ⟨rfl, S3, m3⟩ := g
    exact wpAny_pure ⟨rfl, Z', done Z' hI', S3, m'.trans m3⟩
  | some x =>
    have hjl : j' < l.length := (List.getElem?_eq_some_iff.mp hx).1
    refine wpAny_mono (IT.item j' x Z'.ρ Z'.mem hx (hok j' Z' hI') s' S' hK') (fun r s3 g => ?_) fun _ _ e => e.elim
    obtain ⟨v, rfl, g⟩ := g
    refine wpAny_bind (wpAny_mono g (fun _ s4 g => ?_) fun _ _ e => e.elim)
    obtain ⟨S4, rv, m4⟩ := g
    have hK4 := IT.kmono _ _ _ _ S'.H m4 hK'
    refine wpAny_bind (Op1.run (turn j' x Z' (front (j' + 1)) hx hI') S4 rv fun _ s5 g => ?_)
    obtain ⟨_, W, q5, S5, _, m5⟩ := g
    refine wpAny_bind ((show Ifs C W ifs _ from q5).run S5 fun c c' W' s6 q6 S6 rc m6 => ?_)
    cases rc
    cases c with
    | false =>
      obtain ⟨Z'', rfl, hI''⟩ := q6
      simp only [Bool.false_eq_true, if_false]
      exact wpAny_pure ⟨rfl, _, by omega, j' + 1, Z'', hjl, rfl, hI'', S6, IT.kmono _ _ _ _ S4.H (m5.trans m6) hK4, ((m'.trans m4).trans m5).trans m6⟩
    | true =>
      simp only [if_true]
      refine hrest _ W' q6 s6 S6 _ _ _ fun Y s7 q7 S7 m7 => ?_
      obtain ⟨Z'', rfl, hI''⟩ := q7
      exact wpAny_pure ⟨rfl, _, by omega, j' + 1, Z'', hjl, rfl, hI'', S7, IT.kmono _ _ _ _ S4.H ((m5.trans m6).trans m7) hK4, (((m'.trans m4).trans m5).trans m6).trans m7⟩
theorem rest_ok {elt : Expr} {gens : List Comprehension} {scope : Scope} {pos : Pos} {D : Addr} (hgs : ∀ g ∈ gens, g.is_async = 0 ∧ ∀ x, foldedSetIterable g.iter C.env x = pure x) : ∀ (gs : List Comprehension) (d : Nat), gens.drop (d + 1) = gs →
    ∀ (Q' : AS → Prop) W, Rest C elt D gs W Q' → ∀ s, St C W s → ∀ (k : Sem Fin) P E, (∀ Y s', Q' Y → St C Y s' → Mono C W s.heap Y s'.heap → wpAny (model C.G.prog C.G.w) C.A k P E s') → wpAny (model C.G.prog C.G.w) C.A (restK elt gens scope pos d (.ref D) C.env k) P E s
  | [], d, hd, Q', W, q, s, S, k, P, E, hk => by
    have e : gens[d + 1]? = none := by have := congrArg (·[0]?) hd; simpa using this
    unfold restK
    rw [e]
    refine wpAny_bind ((show Emit C W elt D _ from q).run S fun _ _ Y s7 q7 S7 _ m7 => hk Y s7 q7 S7 m7)
  | ⟨tgt, it, ifs, as⟩ :: gs, d, hd, Q', W, q, s, S, k, P, E, hk => by
    have e : gens[d + 1]? = some ⟨tgt, it, ifs, as⟩ := by have := congrArg (·[0]?) hd; simpa using this
    obtain ⟨h0, hfs⟩ := hgs _ (List.mem_of_getElem? e)
    simp only at h0 hfs
    subst h0
    have hd' : gens.drop (d + 1 + 1) = gs := by have := congrArg (List.drop 1) hd; simpa using this
    unfold restK
    rw [e]
    refine wpAny_bind (TW.run (show Ev C W it _ from q) S fun xv x' Y s7 q7 S7 r7 m7 => ?_)
    obtain ⟨l, M, ok, mk, I, hI0, hok, turn, done⟩ := q7
    refine wpAny_bind (wpAny_standAt ?_)
    simp only [bne_self_eq_false, Bool.false_eq_true, if_false]
    rw [hfs]
    refine wpAny_bind (wpAny_pure (wpAny_bind (wpAny_holding (wpAny_mono (mk s7 S7 _ r7) (fun it2 s8 g => ?_) fun _ _ e => e.elim))))
    obtain ⟨b, front, K, rfl, IT', S8, hK8, m8⟩ := g
    have IT := IT' C rfl rfl
    have hl := cod_step (pos := pos) (scope := scope) (Q := Q') e (rest_ok hgs gs (d + 1) hd') IT I hok turn done 0 ⟨Y.ρ, M⟩ (Nat.zero_le _) hI0 s8 S8 hK8
    refine wpAny_bind (wpAny_runOwn (cod_start e rfl (codeAny_mono hl fun r s9 g => ?_) (IT.self 0 _ _ s8 S8)))
    obtain ⟨rfl, Y9, q9, S9, m9⟩ := g
    exact hk Y9 s9 q9 S9 ((m7.trans m8).trans m9)
end
section
variable {C : Cx} {X : AS}
theorem As.mem {ρ : List Sl} {M M' : List (Addr × MO)} {t : Expr} {v : V} {Q : AS → Prop} (e : M = M') (h : As C ⟨ρ, M'⟩ t v Q) : As C ⟨ρ, M⟩ t v Q := e ▸ h
theorem Exs.mem {ρ : List Sl} {M M' : List (Addr × MO)} {b : List Stmt} {Q : Fl → AS → Prop} (e : M = M') (h : Exs C ⟨ρ, M'⟩ b Q) : Exs C ⟨ρ, M⟩ b Q := e ▸ h
theorem OpL.mem {ρ : List Sl} {M M' : List (Addr × MO)} {f : List Value → Sem Value} {l : List V} {R : Heap → List Addr → Value → V → Prop} {Q : V → AS → Prop} (e : M = M') (h : OpL C ⟨ρ, M'⟩ f l R Q) : OpL C ⟨ρ, M⟩ f l R Q := e ▸ h
theorem backE {ρ : List Sl} {F M M' : List (Addr × MO)} {I : AS → Prop} (e : M = F ++ M') (h : I ⟨ρ, M'⟩) : Back F I ⟨ρ, M⟩ := e ▸ ⟨⟨ρ, M'⟩, rfl, h⟩
theorem TW.endE {α β : Type} {R : Heap → List Addr → α → β → Prop} {Q : β → AS → Prop} {t : Sem α} (h : ∀ E : β → AS → Prop, (∀ b Y, Q b Y → E b Y) → TW C X t R E) : TW C X t R Q := h Q fun _ _ h => h
theorem As.endE {t : Expr} {v : V} {b : List Stmt} {Q : Fl → AS → Prop} (h : ∀ E : Fl → AS → Prop, (∀ fl Y, Q fl Y → E fl Y) → As C X t v fun W => Exs C W b E) : As C X t v fun W => Exs C W b Q := h Q fun _ _ h => h
theorem As.endV {t : Expr} {v : V} {b : Expr} {Q : V → AS → Prop} (h : ∀ E : V → AS → Prop, (∀ v Y, Q v Y → E v Y) → As C X t v fun W => Ev C W b E) : As C X t v fun W => Ev C W b Q := h Q fun _ _ h => h
end
end
section
theorem leave {C C' : Cx} {X Y Z : AS} {h h'' : Heap} (S : StH C X h) (S'' : StH C' Y h'') (hG : C'.G = C.G) (hKp : C'.Kp = fun b o => h.get? b = some o ∧ b ∉ X.N) (hZ : Z.ρ = X.ρ) (hsub : Z.mem.Sublist Y.mem) :
    StH C Z h'' ∧ Mono C X h Z h'' ∧ ∀ val v, Rep h'' Y.N val v → Rep h'' Z.N val v := by
  have kept' : ∀ (b : Addr) (o : Obj), h.get? b = some o → b ∉ X.N → h''.get? b = some o := fun b o e hn => S''.kept b o (by rw [hKp]; exact ⟨e, hn⟩)
  have hZN : ∀ b ∈ Z.N, b ∈ X.N ∨ h.get? b = none := fun b hb => by
    cases e : h.get? b with
    | none => exact .inr rfl
    | some o =>
      refine .inl (Classical.byContradiction fun hn => ?_)
      exact S''.apart b (List.mem_cons_of_mem _ (List.mem_append_right _ ((hsub.map _).subset hb))) o (by rw [hKp]; exact ⟨e, hn⟩)
  have kseq' : ∀ (b : Addr) (o : Obj), h.get? b = some o → SeqObj o → b ∉ X.N → h''.get? b = some o ∧ b ∉ Z.N := fun b o e _ hn => ⟨kept' b o e hn, fun hb => by
    rcases hZN b hb with q | q
    · exact hn q
    · rw [e] at q; cases q⟩
  have hLN : C.env.locals ∉ X.N := fun hm => (List.nodup_cons.mp S.nodup).1 (List.mem_append_right _ hm)
  have hcN : ∀ c ∈ C.cells, c ∉ X.N := fun c hc hm => (List.nodup_append.mp (List.nodup_cons.mp S.nodup).2).2.2 c hc c hm rfl
  have live_not : ∀ (b : Addr) (o : Obj), h.get? b = some o → b ∉ X.N → b ∉ Z.N := fun b o e hn hb => by
    rcases hZN b hb with q | q
    · exact hn q
    · rw [e] at q; cases q
  refine ⟨?_, fun b o e hn => ⟨kept' b o e (N_of_muts hn), fun hm => ?_⟩, fun val v r => r.map fun b o e _ hn => ⟨e, fun hm => hn ((hsub.map _).subset hm)⟩⟩
  · obtain ⟨m, hns0, hslots⟩ := S.ns
    refine ⟨S.std, fun b o e => kept' b o (S.kept b o e) fun hm => S.apart b (List.mem_cons_of_mem _ (List.mem_append_right _ hm)) o e, ?_, ?_, ?_, ⟨m, ?_, ?_⟩, ?_, hZ ▸ S.names, hZ ▸ S.cnodup, ?_⟩
    · intro b hb o hkp
      rcases List.mem_cons.mp hb with rfl | hb
      · exact S.apart _ (List.mem_cons_self ..) o hkp
      · rcases List.mem_append.mp hb with hb | hb
        · exact S.apart b (List.mem_cons_of_mem _ (List.mem_append_left _ hb)) o hkp
        · rcases hZN b hb with q | q
          · exact S.apart b (List.mem_cons_of_mem _ (List.mem_append_right _ q)) o hkp
          · rw [S.kept b o hkp] at q; cases q
    · intro b hb
      rcases List.mem_cons.mp hb with rfl | hb
      · exact S.big _ (List.mem_cons_self ..)
      · rcases List.mem_append.mp hb with hb | hb
        · exact S.big b (List.mem_cons_of_mem _ (List.mem_append_left _ hb))
        · exact S''.big b (List.mem_cons_of_mem _ (List.mem_append_right _ ((hsub.map _).subset hb)))
    · have nd := List.nodup_cons.mp S.nodup
      have nd2 := List.nodup_append.mp nd.2
      refine List.nodup_cons.mpr ⟨fun hb => ?_, List.nodup_append.mpr ⟨nd2.1, ((List.nodup_append.mp (List.nodup_cons.mp S''.nodup).2).2.1).sublist (hsub.map _), fun c hc b hb e => ?_⟩⟩
      · rcases List.mem_append.mp hb with hb | hb
        · exact nd.1 (List.mem_append_left _ hb)
        · obtain ⟨o, e⟩ := S.live _ (List.mem_cons_self ..)
          exact live_not _ o e hLN hb
      · subst e
        obtain ⟨o, u, e, _⟩ := S.cells c hc
        exact live_not _ o e (hcN c hc) hb
    · obtain ⟨o, es, ep, e, rest⟩ := hns0
      exact ⟨o, es, ep, kept' _ _ e hLN, rest⟩
    · intro e he
      rw [hZ] at he
      exact (hslots e he).map kseq' fun c o hn hc e' _ => ⟨kept' c o e' hn, live_not c o e' hn⟩
    · intro c hc
      obtain ⟨o, u, e, e'⟩ := S.cells c hc
      exact ⟨o, u, kept' _ _ e (hcN c hc), e'⟩
    · intro p hp
      have := S''.mem p (hsub.subset hp)
      rw [hG] at this
      exact this.map (fun b o e _ hn => ⟨e, fun hm => hn ((hsub.map _).subset hm)⟩) fun o e => e
  · rcases List.mem_cons.mp hm with rfl | hm
    · exact hn (List.mem_cons_self ..)
    · rcases List.mem_append.mp hm with hm | hm
      · exact hn (List.mem_cons_of_mem _ (List.mem_append_left _ hm))
      · exact live_not b o e (N_of_muts hn) hm
noncomputable def cslots (ρ : List Sl) : Nat → List (Str × NameKind) → List Sl
  | _, [] => []
  | n, (x, .local) :: r => ⟨x, none, none⟩ :: cslots ρ n r
  | n, (x, .cell) :: r => ⟨x, some n, none⟩ :: cslots ρ (n + 1) r
  | n, (x, .free) :: r => (match ρ.find? (fun e => e.name == x) with
    | some ⟨y, some c, v⟩ => ⟨y, some c, v⟩ :: cslots ρ n r
    | _ => cslots ρ n r)
  | n, (_, .globalExplicit) :: r => cslots ρ n r
  | n, (_, .globalImplicit) :: r => cslots ρ n r
noncomputable def clOf (env : Env) : List (Str × NameKind) → List (Str × Addr) → List (Str × Addr)
  | [], acc => acc
  | (x, .free) :: r, acc => (match env.cells.lookup x with | some c => clOf env r ((x, c) :: acc) | none => clOf env r acc)
  | (_, .local) :: r, acc => clOf env r acc
  | (_, .cell) :: r, acc => clOf env r acc
  | (_, .globalExplicit) :: r, acc => clOf env r acc
  | (_, .globalImplicit) :: r, acc => clOf env r acc
theorem clOf_acc {env : Env} {x : Str} : ∀ (names : List (Str × NameKind)) (acc : List (Str × Addr)), x ∉ names.map (·.1) → (clOf env names acc).lookup x = acc.lookup x
  | [], _, _ => rfl
  | (y, k) :: r, acc, h => by
    simp only [List.map_cons, List.mem_cons, not_or] at h
    cases k <;> try exact clOf_acc r acc h.2
    have e0 : clOf env ((y, .free) :: r) acc = (match env.cells.lookup y with | some c => clOf env r ((y, c) :: acc) | none => clOf env r acc) := rfl
    rw [e0]
    cases env.cells.lookup y with
    | some c => exact (clOf_acc r _ h.2).trans (by rw [List.lookup_cons, beq_false_of_ne h.1])
    | none => exact clOf_acc r _ h.2
theorem clOf_at {env : Env} {x : Str} {c : Addr} (hc : env.cells.lookup x = some c) : ∀ (names : List (Str × NameKind)) (acc : List (Str × Addr)), (names.map (·.1)).Nodup → names.lookup x = some .free → (clOf env names acc).lookup x = some c
  | [], _, _, h => by simp at h
  | (y, k) :: r, acc, hn, h => by
    simp only [List.map_cons, List.nodup_cons] at hn
    rw [List.lookup_cons] at h
    by_cases q : x = y
    · subst q
      simp only [beq_self_eq_true, Option.some.injEq] at h
      subst h
      have e0 : clOf env ((x, .free) :: r) acc = (match env.cells.lookup x with | some c => clOf env r ((x, c) :: acc) | none => clOf env r acc) := rfl
      rw [e0, hc]
      exact (clOf_acc r _ hn.1).trans List.lookup_cons_self
    · rw [beq_false_of_ne q] at h
      cases k <;> try exact clOf_at hc r acc hn.2 h
      have e0 : clOf env ((y, .free) :: r) acc = (match env.cells.lookup y with | some c => clOf env r ((y, c) :: acc) | none => clOf env r acc) := rfl
      rw [e0]
      cases env.cells.lookup y with
      | some c => exact clOf_at hc r _ hn.2 h
      | none => exact clOf_at hc r _ hn.2 h
theorem cellsFrom_other {x : Str} : ∀ (names : List (Str × NameKind)) (n : Nat) (acc : List (Str × Addr)), names.lookup x ≠ some .cell → (names.map (·.1)).Nodup → (cellsFrom n names acc).lookup x = acc.lookup x
  | [], _, _, _, _ => rfl
  | (y, k) :: r, n, acc, h, hn => by
    simp only [List.map_cons, List.nodup_cons] at hn
    rw [List.lookup_cons] at h
    by_cases q : x = y
    · subst q
      simp only [beq_self_eq_true] at h
      unfold cellsFrom
      have hk : ¬ ((k == NameKind.cell) = true) := fun e => h (by simpa using e)
      rw [if_neg hk]
      exact cellsFrom_acc r _ _ hn.1
    · rw [beq_false_of_ne q] at h
      unfold cellsFrom
      split
      · rw [cellsFrom_other r _ _ h hn.2, List.lookup_cons, beq_false_of_ne q]
      · exact cellsFrom_other r _ _ h hn.2
theorem cellsP_ge : ∀ (names : List (Str × NameKind)) (n : Nat), (cellsP n names).Nodup ∧ ∀ c ∈ cellsP n names, n ≤ c
  | [], _ => ⟨.nil, fun _ h => (List.not_mem_nil h).elim⟩
  | (y, k) :: r, n => by
    cases k <;> try exact cellsP_ge r n
    obtain ⟨a, b⟩ := cellsP_ge r (n + 1)
    refine ⟨List.nodup_cons.mpr ⟨fun h => absurd (b _ h) (Nat.not_succ_le_self n), a⟩, fun c hc => ?_⟩
    rcases List.mem_cons.mp hc with rfl | hc
    · exact Nat.le_refl _
    · exact Nat.le_of_succ_le (b _ hc)
theorem pushCells_at : ∀ (names : List (Str × NameKind)) (h : Heap), ∀ c ∈ cellsP h.objs.size names, ∃ o, (pushCells h names).get? c = some o ∧ o.data = .cell none
  | [], _, c, hc => (List.not_mem_nil hc).elim
  | (y, k) :: r, h, c, hc => by
    cases k <;> try exact pushCells_at r h c hc
    show ∃ o, (pushCells (h.push _) r).get? c = some o ∧ _
    rcases List.mem_cons.mp hc with rfl | hc
    · exact ⟨_, pushCells_keeps _ _ _ _ (Heap.get?_push_size _ rfl), rfl⟩
    · exact pushCells_at r _ c (by rw [Heap.size_push]; exact hc)
theorem find_name {ρ : List Sl} {x : Str} {e : Sl} (h : ρ.find? (fun e => e.name == x) = some e) : e ∈ ρ ∧ e.name = x :=
  ⟨List.mem_of_find?_eq_some h, by simpa using List.find?_some h⟩
inductive CsE (ρ : List Sl) (n : Nat) (names : List (Str × NameKind)) (acc : List (Str × Addr)) (e : Sl) : Prop where
  | loc : e.cell = none → e.val = none → names.lookup e.name = some .local → CsE ρ n names acc e
  | cell (c : Addr) : e.cell = some c → e.val = none → c ∈ cellsP n names → names.lookup e.name = some .cell → (cellsFrom n names acc).lookup e.name = some c → CsE ρ n names acc e
  | free : e ∈ ρ → (∃ c, e.cell = some c) → names.lookup e.name = some .free → CsE ρ n names acc e
theorem CsE.step {ρ : List Sl} {n m : Nat} {y : Str} {k : NameKind} {r : List (Str × NameKind)} {acc acc' : List (Str × Addr)} {e : Sl} (hy : y ∉ r.map (·.1)) (hc : ∀ c, c ∈ cellsP m r → c ∈ cellsP n ((y, k) :: r)) (hf : cellsFrom n ((y, k) :: r) acc = cellsFrom m r acc') (h : e.name ∈ r.map (·.1) ∧ CsE ρ m r acc' e) :
    e.name ∈ ((y, k) :: r).map (·.1) ∧ CsE ρ n ((y, k) :: r) acc e := by
  obtain ⟨a2, a3⟩ := h
  have hl : ((y, k) :: r).lookup e.name = r.lookup e.name := by rw [List.lookup_cons, beq_false_of_ne (show e.name ≠ y from fun q => hy (q ▸ a2))]
  refine ⟨.tail _ a2, ?_⟩
  cases a3 with
  | loc a b c => exact .loc a b (hl.trans c)
  | cell c a b d l f => exact .cell c a b (hc c d) (hl.trans l) (by rw [hf]; exact f)
  | free a b c => exact .free a b (hl.trans c)
theorem cslots_spec (ρ : List Sl) (names : List (Str × NameKind)) : ∀ (n : Nat) (acc : List (Str × Addr)), (names.map (·.1)).Nodup → ∀ e ∈ cslots ρ n names, e.name ∈ names.map (·.1) ∧ CsE ρ n names acc e := by
  induction names with
  | nil => intro n acc _ e he; exact (List.not_mem_nil he).elim
  | cons x r ih =>
    obtain ⟨y, k⟩ := x
    intro n acc hn e he
    have hd := List.nodup_cons.mp (show (y :: r.map (·.1)).Nodup from hn)
    cases k with
    | «local» =>
      rcases List.mem_cons.mp (show e ∈ (⟨y, none, none⟩ : Sl) :: cslots ρ n r from he) with rfl | he
      · exact ⟨.head _, .loc rfl rfl List.lookup_cons_self⟩
      · exact CsE.step hd.1 (fun _ h => h) rfl (ih n acc hd.2 e he)
    | cell =>
      rcases List.mem_cons.mp (show e ∈ (⟨y, some n, none⟩ : Sl) :: cslots ρ (n + 1) r from he) with rfl | he
      · exact ⟨.head _, .cell n rfl rfl (.head _) List.lookup_cons_self ((cellsFrom_acc r (n + 1) ((y, n) :: acc) hd.1).trans List.lookup_cons_self)⟩
      · exact CsE.step hd.1 (fun _ h => .tail _ h) rfl (ih (n + 1) ((y, n) :: acc) hd.2 e he)
    | free =>
      have he : e ∈ (match ρ.find? (fun e => e.name == y) with | some ⟨y', some c, v⟩ => (⟨y', some c, v⟩ : Sl) :: cslots ρ n r | _ => cslots ρ n r) := he
      cases hf : ρ.find? (fun e => e.name == y) with
      | none => rw [hf] at he; exact CsE.step hd.1 (fun _ h => h) rfl (ih n acc hd.2 e he)
      | some z =>
        obtain ⟨y', oc, v⟩ := z
        rw [hf] at he
        cases oc with
        | none => exact CsE.step hd.1 (fun _ h => h) rfl (ih n acc hd.2 e he)
        | some c =>
          obtain ⟨m1, m2⟩ := find_name hf
          rcases List.mem_cons.mp he with rfl | he
          · cases (show y' = y from m2)
            exact ⟨.head _, .free m1 ⟨c, rfl⟩ List.lookup_cons_self⟩
          · exact CsE.step hd.1 (fun _ h => h) rfl (ih n acc hd.2 e he)
    | globalExplicit => exact CsE.step hd.1 (fun _ h => h) rfl (ih n acc hd.2 e he)
    | globalImplicit => exact CsE.step hd.1 (fun _ h => h) rfl (ih n acc hd.2 e he)
theorem cslots_names (ρ : List Sl) (names : List (Str × NameKind)) : ∀ n : Nat, ((cslots ρ n names).map (·.name)).Sublist (names.map (·.1)) := by
  induction names with
  | nil => exact fun _ => .slnil
  | cons x r ih =>
    obtain ⟨y, k⟩ := x
    intro n
    cases k <;> try first | exact (ih _).cons_cons _ | exact (ih _).cons _
    show (List.map (·.name) (match ρ.find? (fun e => e.name == y) with | some ⟨y', some c, v⟩ => (⟨y', some c, v⟩ : Sl) :: cslots ρ n r | _ => cslots ρ n r)).Sublist _
    cases hf : ρ.find? (fun e => e.name == y) with
    | none => exact (ih _).cons _
    | some z =>
      obtain ⟨y', oc, v⟩ := z
      cases oc with
      | none => exact (ih _).cons _
      | some c => cases (show y' = y from (find_name hf).2); exact (ih _).cons_cons _
inductive CcE (ρ : List Sl) (n : Nat) (ns : List Str) (c : Addr) : Prop where
  | new : n ≤ c → CcE ρ n ns c
  | old (e : Sl) : e ∈ ρ → e.cell = some c → e.name ∈ ns → CcE ρ n ns c
theorem CcE.up {ρ : List Sl} {n m : Nat} {ns : List Str} {y : Str} {c : Addr} (hm : n ≤ m) : CcE ρ m ns c → CcE ρ n (y :: ns) c
  | .new h => .new (Nat.le_trans hm h)
  | .old e a b d => .old e a b (.tail _ d)
theorem cslots_cells {ρ : List Sl} (hρ : (ρ.filterMap (·.cell)).Nodup) (names : List (Str × NameKind)) : ∀ n : Nat, (names.map (·.1)).Nodup → (∀ e ∈ ρ, ∀ c, e.cell = some c → c < n) →
    ((cslots ρ n names).filterMap (·.cell)).Nodup ∧ ∀ c ∈ (cslots ρ n names).filterMap (·.cell), CcE ρ n (names.map (·.1)) c := by
  induction names with
  | nil => exact fun n _ _ => ⟨.nil, fun _ h => (List.not_mem_nil h).elim⟩
  | cons x r ih =>
    obtain ⟨y, k⟩ := x
    intro n hn hlt
    have hd := List.nodup_cons.mp (show (y :: r.map (·.1)).Nodup from hn)
    have sk := ih n hd.2 hlt
    have skip : ((cslots ρ n r).filterMap (·.cell)).Nodup ∧ ∀ c ∈ (cslots ρ n r).filterMap (·.cell), CcE ρ n (y :: r.map (·.1)) c := ⟨sk.1, fun c hc => .up (Nat.le_refl _) (sk.2 c hc)⟩
    cases k <;> try exact skip
    · obtain ⟨a, b⟩ := ih (n + 1) hd.2 fun e he c hc => Nat.lt_succ_of_lt (hlt e he c hc)
      refine ⟨List.nodup_cons.mpr ⟨fun h => ?_, a⟩, fun c hc => ?_⟩
      · cases b _ h with
        | new b => exact Nat.not_succ_le_self n b
        | old e he hc => exact Nat.lt_irrefl _ (hlt e he n hc)
      · rcases List.mem_cons.mp hc with rfl | hc
        · exact .new (Nat.le_refl _)
        · exact .up (Nat.le_succ _) (b c hc)
    · show (List.filterMap (·.cell) (match ρ.find? (fun e => e.name == y) with | some ⟨y', some c, v⟩ => (⟨y', some c, v⟩ : Sl) :: cslots ρ n r | _ => cslots ρ n r)).Nodup ∧ ∀ c ∈ List.filterMap (·.cell) (match ρ.find? (fun e => e.name == y) with | some ⟨y', some c, v⟩ => (⟨y', some c, v⟩ : Sl) :: cslots ρ n r | _ => cslots ρ n r), CcE ρ n (y :: r.map (·.1)) c
      cases hf : ρ.find? (fun e => e.name == y) with
      | none => exact skip
      | some z =>
        obtain ⟨y', oc, v⟩ := z
        cases oc with
        | none => exact skip
        | some c =>
          obtain ⟨m1, m2⟩ := find_name hf
          cases (show y' = y from m2)
          refine ⟨List.nodup_cons.mpr ⟨fun h => ?_, sk.1⟩, fun c' hc => ?_⟩
          · cases sk.2 _ h with
            | new b => exact Nat.not_lt.mpr b (hlt _ m1 c rfl)
            | old e he hc hm =>
              obtain ⟨i, hi⟩ := List.getElem?_of_mem m1
              obtain ⟨j, hj⟩ := List.getElem?_of_mem he
              cases cell_index hρ hi hj rfl hc
              rw [hi] at hj; cases hj
              exact hd.1 hm
          · rcases List.mem_cons.mp hc with rfl | hc
            · exact .old _ m1 rfl (.head _)
            · exact skip.2 c' hc
end
section
noncomputable abbrev compE (scope : Scope) (L : Addr) (env : Env) : Env :=
  { scope := relabel scope env, locals := L, globals := env.globals, cells := cellsFrom (L + 1) scope.names (clOf env scope.names []), qual := env.qual, func := none, code := env.code, frame := env.frame, builtins := env.builtins }
noncomputable abbrev cxK (C : Cx) (scope : Scope) (L : Addr) (Kp : Addr → Obj → Prop) : Cx := ⟨C.G, C.lv, C.A, compE scope L C.env, cellsP (L + 1) scope.names, Kp⟩
set_option tactic.hygienic true in
theorem relabel_at {env : Env} {x : Str} : ∀ {names : List (Str × NameKind)} {k : NameKind}, names.lookup x = some k →
    (names.map fun (n, k) => if (k == NameKind.free && env.scope.kind == .function && env.kindOf n == some .cell) then (n, NameKind.cell) else (n, k)).lookup x =
      some (if (k == NameKind.free && env.scope.kind == .function && env.kindOf x == some .cell) = true then .cell else k)
  | [], _, h => by simp at h
  | (n, k') :: r, k, h => by
    have ih := @relabel_at env x r k
    show List.lookup x ((if (k' == NameKind.free && env.scope.kind == .function && env.kindOf n == some .cell) = true then (n, NameKind.cell) else (n, k')) :: _) = _
    rw [List.lookup_cons] at h
    by_cases q : x = n
    · subst q
      simp only [beq_self_eq_true, Option.some.injEq] at h
      subst h
      split
      · simp [List.lookup_cons, *]
      · rename_i hq; simp [List.lookup_cons, hq]
    · rw [beq_false_of_ne q] at h
      split <;> (simp only [List.lookup_cons, beq_false_of_ne q]; exact ih h)
theorem wp_newCompEnv {M : Model} {A : Around} {E : Value → Shared → Prop} {s : Shared} {scope : Scope} {env : Env} {cl : List (Str × Addr)} {Q : Env → Shared → Prop} (hk : scope.kind = .function)
    (h : Q (newEnv scope s.heap.objs.size env.globals (cellsFrom (s.heap.objs.size + 1) scope.names cl) env.qual none .none (some env) builtinsNs) { s with heap := pushCells (s.heap.push { cls := .type "dict", data := .dict #[] }) scope.names }) :
    wpAny M A (newFunctionEnv scope env.globals cl [] env.qual none .none (some env)) Q E s := by
  simp only [newFunctionEnv, Option.isSome_some, if_true]
  refine wpAny_bind (wpAny_alloc ?_)
  refine wpAny_bind (wpAny_layCells _ (fun name kind cells => by cases hkc : kind == NameKind.cell <;> simp [hkc]) _ _ _ _ ?_)
  rw [show ({ s with heap := s.heap.push { cls := .type "dict", data := .dict #[] } } : Shared).heap.objs.size = s.heap.objs.size + 1 from Heap.size_push ..]
  refine wpAny_bind ?_
  rw [List.forIn_nil]
  exact wpAny_pure (wpAny_pure h)
section
variable {C : Cx} {X : AS}
theorem enterK {s : Shared} {scope : Scope} (S : St C X s) (hk : scope.kind = .function) (hnames : (scope.names.map (·.1)).Nodup) :
    St (cxK C scope s.heap.objs.size (fun b o => s.heap.get? b = some o ∧ b ∉ X.N)) ⟨cslots X.ρ (s.heap.objs.size + 1) scope.names, X.mem⟩ { s with heap := pushCells (s.heap.push { cls := .type "dict", data := .dict #[] }) scope.names } := by
  have keep : ∀ (b : Addr) (o : Obj), s.heap.get? b = some o → (pushCells (s.heap.push { cls := .type "dict", data := .dict #[] }) scope.names).get? b = some o := fun b o e => pushCells_keeps _ _ _ _ (Heap.get?_push_of_some _ e)
  have std := S.H.std
  have hlt : ∀ e ∈ X.ρ, ∀ c, e.cell = some c → @LT.lt Nat _ c s.heap.objs.size := fun e he c hc => by
    obtain ⟨m, _, hs⟩ := S.H.ns
    have := hs e he
    (try unfold SlotRep at this); unfold SlotRepE at this
    rw [hc] at this
    obtain ⟨_, _, _, _, o, u, ho, _⟩ := this
    exact Heap.lt_size ho
  have hXN : ∀ b ∈ X.N, @LT.lt Nat _ b s.heap.objs.size := fun b hb => S.H.lt (List.mem_cons_of_mem _ (List.mem_append_right _ hb))
  have cg := cellsP_ge scope.names (s.heap.objs.size + 1)
  have spec := cslots_spec X.ρ scope.names (s.heap.objs.size + 1) (clOf C.env scope.names []) hnames
  have kseq : ∀ (b : Addr) (o : Obj), s.heap.get? b = some o → SeqObj o → b ∉ X.N → (pushCells (s.heap.push { cls := .type "dict", data := .dict #[] }) scope.names).get? b = some o ∧ b ∉ X.N := fun b o e _ q => ⟨keep b o e, q⟩
  have kat : ∀ c ∈ cellsP (s.heap.objs.size + 1) scope.names, ∃ o, (pushCells (s.heap.push { cls := .type "dict", data := .dict #[] }) scope.names).get? c = some o ∧ o.data = .cell none := fun c hc =>
    pushCells_at scope.names (s.heap.push { cls := .type "dict", data := .dict #[] }) c (by rw [Heap.size_push]; exact hc)
  refine ⟨⟨⟨hk, std.gl, std.bl, std.frame, fun b o e => ⟨S.base b o e, fun hm => S.H.apart b (List.mem_cons_of_mem _ (List.mem_append_right _ hm)) o (std.base b o e)⟩, std.top, std.K, std.hand, std.depth, std.units⟩, fun b o e => keep b o e.1, ?_, ?_, ?_, ⟨fun _ => none, (Heap.Ns.new s.heap (.type "dict")).keeps (pushCells_keeps _ _), ?_⟩, ?_, ?_, ?_, ?_⟩, S.gens, S.os⟩
  · intro b hb o ⟨e, hn⟩
    rcases List.mem_cons.mp hb with rfl | hb
    · exact absurd (Heap.lt_size e) (Nat.lt_irrefl _)
    · rcases List.mem_append.mp hb with hb | hb
      · exact absurd (Heap.lt_size e) (Nat.not_lt.mpr (Nat.le_of_succ_le (cg.2 b hb)))
      · exact hn hb
  · intro b hb
    have h3 := S.H.big3
    rcases List.mem_cons.mp hb with rfl | hb
    · exact h3
    · rcases List.mem_append.mp hb with hb | hb
      · exact Nat.lt_trans h3 (cg.2 b hb)
      · exact S.H.big b (List.mem_cons_of_mem _ (List.mem_append_right _ hb))
  · refine List.nodup_cons.mpr ⟨fun hb => ?_, List.nodup_append.mpr ⟨cg.1, (List.nodup_append.mp (List.nodup_cons.mp S.H.nodup).2).2.1, fun b hb c hc e => ?_⟩⟩
    · rcases List.mem_append.mp hb with hb | hb
      · exact absurd (cg.2 _ hb) (Nat.not_succ_le_self _)
      · exact absurd (hXN _ hb) (Nat.lt_irrefl _)
    · subst e; exact absurd (hXN _ hc) (Nat.not_lt.mpr (Nat.le_of_succ_le (cg.2 b hb)))
  · intro e he
    obtain ⟨e2, e3⟩ := spec e he
    (try unfold SlotRep); unfold SlotRepE
    rcases e3 with ⟨c1, c2, c3⟩ | ⟨c, c1, c2, c3, c4, c5⟩ | ⟨c1, ⟨c, c2⟩, c3⟩
    · rw [c1]
      refine ⟨?_, fun v hv => by rw [c2] at hv; cases hv⟩
      show (relabel scope C.env).names.lookup e.name = _
      exact (relabel_at c3).trans (by simp)
    · rw [c1]
      obtain ⟨o, ho, hd⟩ := kat c c3
      refine ⟨.inl ((relabel_at c4).trans (by simp)), c5, fun hm => ?_, fun q => ?_, o, _, ho, hd, fun v hv => by rw [c2] at hv; cases hv⟩
      · exact absurd (hXN _ hm) (Nat.not_lt.mpr (Nat.le_of_succ_le (cg.2 _ c3)))
      · have : c = s.heap.objs.size := q
        subst this; exact absurd (cg.2 _ c3) (Nat.not_succ_le_self _)
    · obtain ⟨m, _, hs⟩ := S.H.ns
      have hold := hs e c1
      (try unfold SlotRep at hold); unfold SlotRepE at hold
      rw [c2] at hold ⊢
      obtain ⟨k1, k2, k3, k4, o, u, ho, hd, hv⟩ := hold
      have hr := relabel_at (env := C.env) c3
      refine ⟨?_, ?_, k3, fun q => ?_, o, u, keep _ _ ho, hd, fun v hv' => (hv v hv').imp fun _ ab => ⟨ab.1, ab.2.map kseq⟩⟩
      · rcases k1 with k1 | ⟨k1, k1'⟩
        · refine .inl (hr.trans ?_)
          rw [k1, std.fn]; rfl
        · refine .inr ⟨hr.trans ?_, k1'⟩
          rw [k1, std.fn]; rfl
      · show (cellsFrom (s.heap.objs.size + 1) scope.names (clOf C.env scope.names [])).lookup e.name = some c
        rw [cellsFrom_other _ _ _ (by rw [c3]; simp) hnames]
        exact clOf_at k2 _ _ hnames c3
      · have : c = s.heap.objs.size := q
        subst this; exact absurd (Heap.lt_size ho) (Nat.lt_irrefl _)
  · intro c hc
    obtain ⟨o, ho, hd⟩ := kat c hc
    exact ⟨o, _, ho, hd⟩
  · exact hnames.sublist (cslots_names _ _ _)
  · exact (cslots_cells S.H.cnodup scope.names (s.heap.objs.size + 1) hnames fun e he c hc => Nat.lt_succ_of_lt (hlt e he c hc)).1
  · intro p hp
    exact (S.H.mem p hp).map kseq fun o e => keep _ _ e
theorem StH.touchNs {h h' : Heap} {L : Addr} {m : Str → Option Value} (S : StH C X h) (hL : L ∉ muts C X) (hk : ∀ o, ¬ C.Kp L o) (hn : h.Ns L m) (hb : Heap.SameBut L h h') : StH C X h' := by
  obtain ⟨oL, esL, epL, hoL, hdL, _⟩ := hn
  have he := hb.extBut
  have kk : ∀ (b : Addr) (o : Obj), h.get? b = some o → SeqObj o → b ∉ X.N → h'.get? b = some o ∧ b ∉ X.N := fun b o' e q n => by
    refine ⟨he b o' (fun q' => ?_) e, n⟩
    subst q'
    obtain ⟨xs, k, hd'⟩ := q
    rw [e] at hoL; cases hoL; rw [hd'] at hdL; cases hdL
  obtain ⟨m, hns, hm⟩ := S.ns
  refine ⟨S.std, fun b o e => he b o (fun q => hk o (q ▸ e)) (S.kept b o e), S.apart, S.big, S.nodup, ⟨m, ?_, fun e hm' => ?_⟩, fun c hc => ?_, S.names, S.cnodup, fun p hp => ?_⟩
  · obtain ⟨o', es, ep, e, r⟩ := hns
    exact ⟨o', es, ep, he _ _ (fun q => hL (q ▸ List.mem_cons_self ..)) e, r⟩
  · refine (hm e hm').map kk fun c o' n nl e' hc => ⟨he c o' (fun q => ?_) e', n⟩
    subst q
    obtain ⟨u, hu⟩ := hc
    rw [e'] at hoL; cases hoL; rw [hu] at hdL; cases hdL
  · obtain ⟨o', u, e, r⟩ := S.cells c hc
    exact ⟨o', u, he _ _ (fun q => hL (q ▸ List.mem_cons_of_mem _ (List.mem_append_left _ hc))) e, r⟩
  · exact (S.mem p hp).map kk fun o' e => he _ _ (fun q => hL (q ▸ List.mem_cons_of_mem _ (List.mem_append_right _ (List.mem_map.mpr ⟨p, hp, rfl⟩)))) e
inductive EndL (D : Addr) (ρ : List Sl) (Q : V → AS → Prop) (Z : AS) : Prop where
  | mk (r : List V) (M' : List (Addr × MO)) : Z.mem = (D, .lst r) :: M' → Q (.lst r) ⟨ρ, M'⟩ → EndL D ρ Q Z
inductive CompI (C : Cx) (ρ ρ0 : List Sl) (elt tgt : Expr) (ifs : List Expr) (rest : List Comprehension) (l : List V) (M : List (Addr × MO)) (ok : List (Addr × MO) → Prop) (Q : V → AS → Prop) (D : Addr) : Prop where
  | mk (I : Nat → AS → Prop) : I 0 ⟨ρ0, (D, .lst []) :: M⟩ → (∀ j Z, I j Z → ok Z.mem) →
    (∀ j x Z F, l[j]? = some x → I j Z → As C ⟨Z.ρ, F ++ Z.mem⟩ tgt x (fun W => Ifs C W ifs (fun c W' => if c = true then Rest C elt D rest W' (Back F (I (j + 1))) else Back F (I (j + 1)) W'))) →
    (∀ Z, I l.length Z → EndL D ρ Q Z) → CompI C ρ ρ0 elt tgt ifs rest l M ok Q D
noncomputable def CompOK (C : Cx) (Y : AS) (scope : Scope) (elt tgt : Expr) (ifs : List Expr) (rest : List Comprehension) (l : List V) (M : List (Addr × MO)) (ok : List (Addr × MO) → Prop) (Q : V → AS → Prop) : Prop :=
  ∀ (L D : Addr) (Kp : Addr → Obj → Prop), (∀ b o, C.Kp b o → Kp b o) → CompI (cxK C scope L Kp) Y.ρ (cslots Y.ρ (L + 1) scope.names) elt tgt ifs rest l M ok Q D
theorem perm_mid {α : Type} (a : α) : ∀ (F M : List α), (a :: (F ++ M)).Perm (F ++ a :: M)
  | [], M => .refl _
  | f :: F, M => (List.Perm.swap f a (F ++ M)).trans (.cons f (perm_mid a F M))
theorem comp_core {elt tgt iter : Expr} {ifs : List Expr} {rest : List Comprehension} {scope : Scope} {pos : Pos} {use : Option (Value → Sem Unit)} {Q : V → AS → Prop} {P : Value → Shared → Prop} {s : Shared} (S : St C X s)
    (h : Ev C X iter (fun x Y => ∃ l M ok, MkIter C tgt Y x l M ok ∧ CompOK C Y scope elt tgt ifs rest l M ok Q))
    (hk : scope.kind = .function) (hnames : (scope.names.map (·.1)).Nodup) (hclos : closureFor scope C.env = pure (clOf C.env scope.names []))
    (hgs : ∀ (env : Env), ∀ g ∈ (⟨tgt, iter, ifs, 0⟩ : Comprehension) :: rest, g.is_async = 0 ∧ ∀ x, foldedSetIterable g.iter env x = pure x)
    (hfin : ∀ (L D : Addr) (Y : AS) (v : V) (s' : Shared) (m : Str → Option Value), Q v Y → St C Y s' → Rep s'.heap Y.N (.ref D) v → Mono C X s.heap Y s'.heap → s'.heap.Ns L m → L ∉ muts C Y → (∀ o, ¬ C.Kp L o) → (∀ o, s.heap.get? L = some o → L ∈ muts C X) →
      match (use : Option (Value → Sem Unit)) with
      | none => ∀ h', Heap.SameBut L s'.heap h' → P (.ref D) { s' with heap := h' }
      | some u => wpAny (model C.G.prog C.G.w) C.A (u (.ref D)) (fun _ s'' => ∃ m, s''.heap.Ns L m ∧ ∀ h', Heap.SameBut L s''.heap h' → P .none { s'' with heap := h' }) (fun _ _ => False) s') :
    wpAny (model C.G.prog C.G.w) C.A (comprehension (.ListComp elt (⟨tgt, iter, ifs, 0⟩ :: rest) scope pos) scope C.env (firstIterPos (⟨tgt, iter, ifs, 0⟩ :: rest) pos) (newList []) false (eval iter C.env) use) P (fun _ _ => False) s := by
  refine wpAny_comprehension_free rfl (fun x => (hgs C.env _ (List.mem_cons_self ..)).2 x) hclos hk (fun x hx hl => by rw [lookup_of_mem hnames hx, hl]) (h.run S fun a x Y s1 q1 S1 r1 m1 => ?_)
  obtain ⟨l, M, ok, mk, hc⟩ := q1
  refine wpAny_mono (mk s1 S1 a r1) (fun it' s2 g => ?_) fun _ _ e => e.elim
  obtain ⟨b, front, K, rfl, IT', S2, hK2, m2⟩ := g
  unfold newList
  refine wpAny_newObj_type ?_
  generalize hD : s2.heap.objs.size = D
  have kp2 : ∀ (a : Addr) (o' : Obj), s2.heap.get? a = some o' → (s2.heap.push { cls := .type "list", data := .seq ([] : List Value).toArray }).get? a = some o' := fun _ _ e => Heap.get?_push_of_some _ e
  have S3a : St C ⟨Y.ρ, (D, .lst []) :: (front 0 ++ M)⟩ { s2 with heap := s2.heap.push { cls := .type "list", data := .seq ([] : List Value).toArray } } := by
    subst hD
    exact S2.heap (S2.H.alloc (mo := .lst []) ⟨[], 0, Heap.get?_push_size _ rfl, .nil⟩)
  have m3a : Mono C ⟨Y.ρ, front 0 ++ M⟩ s2.heap ⟨Y.ρ, (D, .lst []) :: (front 0 ++ M)⟩ (s2.heap.push { cls := .type "list", data := .seq ([] : List Value).toArray }) := by
    subst hD; exact Mono.alloc _ _
  have pm := perm_mid (D, MO.lst []) (front 0) M
  have S3 : St C ⟨Y.ρ, front 0 ++ (D, .lst []) :: M⟩ { s2 with heap := s2.heap.push { cls := .type "list", data := .seq ([] : List Value).toArray } } := ⟨S3a.H.perm pm, S3a.gens, S3a.os⟩
  have m3 := m3a.trans (Mono.perm (ρ := Y.ρ) (ρ' := Y.ρ) pm)
  have hK3 := (IT' C rfl rfl).kmono _ _ _ _ S2.H m3 hK2
  have mo3 : Mono C X s.heap ⟨Y.ρ, front 0 ++ (D, .lst []) :: M⟩ (s2.heap.push { cls := .type "list", data := .seq ([] : List Value).toArray }) := (m1.trans m2).trans m3
  generalize hs3 : ({ s2 with heap := s2.heap.push { cls := .type "list", data := .seq ([] : List Value).toArray } } : Shared) = s3 at S3 hK3
  have hh3 : s3.heap = s2.heap.push { cls := .type "list", data := .seq ([] : List Value).toArray } := by rw [← hs3]
  rw [← hh3] at mo3 m3
  have hK3' : K s3.heap (⟨Y.ρ, front 0 ++ (D, .lst []) :: M⟩ : AS).N := by rw [← hs3]; exact hK3
  refine wp_newCompEnv hk ?_
  have S4 := enterK (scope := scope) S3 hk hnames
  have keep4 : ∀ (b : Addr) (o : Obj), s3.heap.get? b = some o → (pushCells (s3.heap.push { cls := .type "dict", data := .dict #[] }) scope.names).get? b = some o := fun b o e => pushCells_keeps _ _ _ _ (Heap.get?_push_of_some _ e)
  have hK4 := (IT' C rfl rfl).kmono _ _ _ _ S3.H (Mono.keeps keep4) hK3'
  have nKp : ∀ o, ¬ C.Kp s3.heap.objs.size o := fun o e => absurd (Heap.lt_size (S3.H.kept _ _ e)) (Nat.lt_irrefl _)
  obtain ⟨I, hI0, hok, turn, done⟩ := hc s3.heap.objs.size D (fun b o => s3.heap.get? b = some o ∧ b ∉ (⟨Y.ρ, front 0 ++ (D, .lst []) :: M⟩ : AS).N)
    (fun b o e => ⟨S3.H.kept _ _ e, fun hm => S3.H.apart b (List.mem_cons_of_mem _ (List.mem_append_right _ hm)) o e⟩)
  have IT2 := IT' (cxK C scope s3.heap.objs.size (fun b o => s3.heap.get? b = some o ∧ b ∉ (⟨Y.ρ, front 0 ++ (D, .lst []) :: M⟩ : AS).N)) rfl rfl
  have hrun := cod_step (C := cxK C scope s3.heap.objs.size (fun b o => s3.heap.get? b = some o ∧ b ∉ (⟨Y.ρ, front 0 ++ (D, .lst []) :: M⟩ : AS).N)) (gens := ⟨tgt, iter, ifs, 0⟩ :: rest) (elt := elt) (scope := scope) (pos := pos) (d := 0) (D := D) (gs := rest)
    (Q := EndL D Y.ρ Q) rfl (rest_ok (hgs _) rest 0 rfl) IT2 I hok turn done 0 ⟨cslots Y.ρ (s3.heap.objs.size + 1) scope.names, (D, .lst []) :: M⟩ (Nat.zero_le _) hI0 _ S4 hK4
  have hst := cod_start (C := cxK C scope s3.heap.objs.size (fun b o => s3.heap.get? b = some o ∧ b ∉ (⟨Y.ρ, front 0 ++ (D, .lst []) :: M⟩ : AS).N)) (gens := ⟨tgt, iter, ifs, 0⟩ :: rest) (elt := elt) (scope := scope) (pos := pos) (d := 0) (g := ⟨tgt, iter, ifs, 0⟩) rfl rfl hrun (IT2.self 0 _ _ _ S4)
  refine codeAny_mono hst fun r s' g => ?_
  obtain ⟨rfl, Z, ⟨r, M', hZm, hQ⟩, S5, m5⟩ := g
  obtain ⟨H6, m6, rv6⟩ := leave (Z := ⟨Y.ρ, M'⟩) S3.H S5.H rfl rfl rfl (by show M'.Sublist Z.mem; rw [hZm]; exact List.sublist_cons_self _ _)
  have S6 : St C ⟨Y.ρ, M'⟩ s' := ⟨H6, S5.gens, S5.os⟩
  have hDZ : (D, MO.lst r) ∈ Z.mem := by rw [hZm]; exact List.mem_cons_self ..
  have hDn : D ∉ (⟨Y.ρ, M'⟩ : AS).N := by
    have := (List.nodup_append.mp (List.nodup_cons.mp S5.H.nodup).2).2.1
    rw [show Z.N = D :: M'.map (·.1) by simp [AS.N, hZm]] at this
    exact (List.nodup_cons.mp this).1
  obtain ⟨vs, n, e, rl⟩ := S5.H.mem _ hDZ
  have rD : Rep s'.heap (⟨Y.ρ, M'⟩ : AS).N (.ref D) (.lst r) := .lst e hDn (rl.map fun b o e _ hn => ⟨e, fun hm => hn (by rw [show Z.N = D :: M'.map (·.1) by simp [AS.N, hZm]]; exact List.mem_cons_of_mem _ hm)⟩)
  obtain ⟨m, hns, _⟩ := S5.H.ns
  have hLn : s3.heap.objs.size ∉ muts C ⟨Y.ρ, M'⟩ := fun hm => by
    rcases List.mem_cons.mp hm with q | hm
    · exact absurd (S3.H.lt (q ▸ List.mem_cons_self ..)) (Nat.lt_irrefl _)
    · rcases List.mem_append.mp hm with hm | hm
      · exact absurd (S3.H.lt (List.mem_cons_of_mem _ (List.mem_append_left _ hm))) (Nat.lt_irrefl _)
      · refine (List.nodup_cons.mp S5.H.nodup).1 (List.mem_append_right _ ?_)
        rw [show Z.N = D :: M'.map (·.1) by simp [AS.N, hZm]]
        exact List.mem_cons_of_mem _ hm
  have hsL : ∀ o, s.heap.get? s3.heap.objs.size = some o → s3.heap.objs.size ∈ muts C X := fun o e => Classical.byContradiction fun hq => absurd (Heap.lt_size (mo3 _ _ e hq).1) (Nat.lt_irrefl _)
  have := hfin s3.heap.objs.size D ⟨Y.ρ, M'⟩ (.lst r) s' m hQ S6 rD (mo3.trans m6) hns hLn nKp hsL
  cases use with
  | none => exact ⟨m, hns, this⟩
  | some u => exact this
theorem Mono.touchNs {X Y : AS} {h h' h'' : Heap} {L : Addr} (m : Mono C X h Y h') (hL : ∀ o, h.get? L = some o → L ∈ muts C X) (hb : Heap.SameBut L h' h'') : Mono C X h Y h'' :=
  fun b o e n => ⟨hb.extBut b o (fun q => by subst q; exact n (hL _ e)) (m b o e n).1, (m b o e n).2⟩
noncomputable abbrev gensOK (g : Comprehension) (rest : List Comprehension) : Prop := ∀ (env : Env), ∀ g' ∈ g :: rest, g'.is_async = 0 ∧ ∀ x, foldedSetIterable g'.iter env x = pure x
theorem Ev.comp {elt tgt iter : Expr} {ifs : List Expr} {rest : List Comprehension} {scope : Scope} {pos : Pos} {Q : V → AS → Prop}
    (hgs : gensOK ⟨tgt, iter, ifs, 0⟩ rest)
    (h : Ev C X iter (fun x Y => ∃ l M ok, MkIter C tgt Y x l M ok ∧ CompOK C Y scope elt tgt ifs rest l M ok Q))
    (hk : scope.kind = .function := by rfl) (hnames : (scope.names.map (·.1)).Nodup := by decide) (hclos : closureFor scope C.env = pure (clOf C.env scope.names []) := by rfl) :
    Ev C X (.ListComp elt (⟨tgt, iter, ifs, 0⟩ :: rest) scope pos) Q := fun s S => by
  rw [eval_ListComp]
  refine comp_core (use := Option.none) S h hk hnames hclos hgs fun L D Y v s' m q S' r mo hn hL hKp hs h' hb => ?_
  exact ⟨v, Y, q, S'.heap (S'.H.touchNs hL hKp hn hb), r.map fun b o e hq n => ⟨hb.extBut b o (fun x => by
    subst x
    obtain ⟨o', es, ep, e', hd, _⟩ := hn
    obtain ⟨xs, k, hq⟩ := hq
    rw [e'] at e; cases e; rw [hd] at hq; cases hq) e, n⟩, mo.touchNs hs hb⟩
theorem Ex.asgComp {elt tgt iter : Expr} {ifs : List Expr} {rest : List Comprehension} {scope : Scope} {pos spos py : Pos} {y : Str} {Q : Fl → AS → Prop}
    (hgs : gensOK ⟨tgt, iter, ifs, 0⟩ rest) (i : Nat)
    (h : Ev C X iter (fun x Y => ∃ l M ok, MkIter C tgt Y x l M ok ∧ CompOK C Y scope elt tgt ifs rest l M ok (fun v Z => (∃ ov, Z.ρ[i]? = some ⟨y, none, ov⟩) ∧ Q .next { Z with ρ := Z.ρ.set i ⟨y, none, some v⟩ })))
    (hsw : swapsWith (.ListComp elt (⟨tgt, iter, ifs, 0⟩ :: rest) scope pos) (some (.Name y py)) spos.line C.env = pure true := by rfl)
    (hk : scope.kind = .function := by rfl) (hnames : (scope.names.map (·.1)).Nodup := by decide) (hclos : closureFor scope C.env = pure (clOf C.env scope.names []) := by rfl) :
    Ex C X (.Assign [.Name y py] (.ListComp elt (⟨tgt, iter, ifs, 0⟩ :: rest) scope pos) spos) Q := fun s S => by
  rw [exec_Assign_Name_used _ _ _ _ hsw]
  refine wpAny_bind (wpAny_standAt (wpAny_bind ?_))
  show wpAny _ C.A (do let _ ← comprehension (.ListComp elt (⟨tgt, iter, ifs, 0⟩ :: rest) scope pos) scope C.env _ (newList []) false (eval iter C.env) (some (assign (.Name y py) C.env))) _ _ s
  refine wpAny_bind (wpAny_mono (comp_core (use := some (assign (.Name y py) C.env)) (P := fun _ s' => Good C X s.heap RF Q .next s') S h hk hnames hclos hgs ?_) (fun _ s' hq => wpAny_pure (wpAny_pure hq)) fun _ _ e => e.elim)
  intro L D Y v s' m q S' r mo hn hL hKp hs
  obtain ⟨⟨ov, hi⟩, q⟩ := q
  refine Op1.run (As.name (Q := fun Z => Q .next Z ∧ muts C Z = muts C Y) i hi ⟨q, rfl⟩) S' r fun _ s2 g => ?_
  obtain ⟨_, Z, ⟨q2, hmu⟩, S2, _, m2⟩ := g
  obtain ⟨oL, esL, epL, hoL, hrL⟩ := hn
  have h2 := m2 _ _ hoL hL
  refine ⟨m, ⟨oL, esL, epL, h2.1, hrL⟩, fun h' hb => ⟨_, Z, q2, S2.heap (S2.H.touchNs h2.2 hKp ⟨oL, esL, epL, h2.1, hrL⟩ hb), .next, (mo.trans m2).touchNs hs hb⟩⟩
theorem CompOK.pure {Y : AS} {scope : Scope} {elt tgt : Expr} {ifs : List Expr} {l : List V} {M : List (Addr × MO)} {ok : List (Addr × MO) → Prop} {Q : V → AS → Prop} (R : Addr → List Sl → Prop) (g : V → Option V)
    (hR : ∀ L, R L (cslots Y.ρ (L + 1) scope.names)) (hl : l.length ≤ sizeLine) (hok : ∀ D r, ok ((D, .lst r) :: M))
    (turn : ∀ L Kp, (∀ b o, C.Kp b o → Kp b o) → ∀ x, x ∈ l → ∀ ρ M', M.Sublist M' → R L ρ → As (cxK C scope L Kp) ⟨ρ, M'⟩ tgt x (fun W => Ifs (cxK C scope L Kp) W ifs (fun c W' =>
      if c = true then Ev (cxK C scope L Kp) W' elt (fun v W'' => g x = some v ∧ W''.mem = M' ∧ R L W''.ρ) else g x = none ∧ W'.mem = M' ∧ R L W'.ρ)))
    (q : Q (.lst (l.filterMap g)) ⟨Y.ρ, M⟩) : CompOK C Y scope elt tgt ifs [] l M ok Q := fun L D Kp hKp =>
  ⟨fun j Z => Z.mem = (D, .lst ((l.take j).filterMap g)) :: M ∧ R L Z.ρ, ⟨by simp, hR L⟩, fun j Z h => by rw [h.1]; exact hok _ _, fun j x Z F hx hI => by
    have hxm : x ∈ l := List.mem_of_getElem? hx
    have ht : l.take (j + 1) = l.take j ++ [x] := by
      have hj := (List.getElem?_eq_some_iff.mp hx)
      obtain ⟨hj, e⟩ := hj
      rw [List.take_succ_eq_append_getElem hj, e]
    have h1 := turn L Kp hKp x hxm Z.ρ (F ++ Z.mem) (by rw [hI.1]; exact (List.sublist_cons_self _ _).trans (List.sublist_append_right _ _)) hI.2
    have hlen : ((l.take j).filterMap g).length ≤ sizeLine := Nat.le_trans (Nat.le_trans (List.length_filterMap_le _ _) (by rw [List.length_take]; exact Nat.min_le_right _ _)) hl
    refine fun s S a r => wpAny_mono (h1 s S a r) (fun u s1 gd => ?_) fun _ _ e => e
    obtain ⟨_, W, hW, S1, r1, m1⟩ := gd
    refine ⟨(), W, TW.mono hW fun c W' hc => ?_, S1, r1, m1⟩
    cases c with
    | false =>
      simp only [Bool.false_eq_true, if_false] at hc ⊢
      obtain ⟨h0, h2, h3⟩ := hc
      obtain ⟨ρ', mem'⟩ := W'
      simp only at h2 h3; subst h2
      exact ⟨⟨ρ', Z.mem⟩, rfl, by rw [ht, List.filterMap_append]; simp [h0, hI.1], h3⟩
    | true =>
      simp only [if_true] at hc ⊢
      refine Emit.mk (TW.mono hc fun v W'' h => ?_)
      obtain ⟨h0, h2, h3⟩ := h
      refine ⟨F, (l.take j).filterMap g, M, by rw [h2, hI.1], hlen, ⟨W''.ρ, (D, .lst ((l.take j).filterMap g ++ [v])) :: M⟩, rfl, ?_, h3⟩
      rw [ht, List.filterMap_append]; simp [h0],
   fun Z hI => ⟨_, M, by rw [hI.1, List.take_length], q⟩⟩
end
end
section
section
variable {C : Cx} {X : AS}
noncomputable def all0 (h : Heap) (L : Addr) : List (Addr × Obj) := (List.range h.objs.size).filterMap fun a => if a = L then none else (h.get? a).map fun o => (a, o)
noncomputable abbrev h0 : Heap := {}
theorem h0_none (a : Addr) : h0.get? a = none := by
  cases e : h0.get? a with
  | none => rfl
  | some o => exact absurd (Heap.lt_size e) (Nat.not_lt_zero _)
theorem mem_all0 {h : Heap} {L a : Addr} {o : Obj} : (a, o) ∈ all0 h L ↔ h.get? a = some o ∧ a ≠ L := by
  unfold all0
  simp only [List.mem_filterMap, List.mem_range]
  constructor
  · rintro ⟨b, _, hb⟩
    split at hb
    · cases hb
    · rename_i hn
      cases e : h.get? b with
      | none => rw [e] at hb; cases hb
      | some o' => rw [e] at hb; cases hb; exact ⟨e, hn⟩
  · rintro ⟨e, hn⟩
    exact ⟨a, Heap.lt_size e, by rw [if_neg hn, e]; rfl⟩
theorem StH.keepsL {h h' : Heap} {m : Str → Option Value} (S : StH C X h) (hm : ∀ e ∈ X.ρ, SlotRep C h X.N m e) (hn : h'.Ns C.env.locals m) (k : ∀ a o, a ≠ C.env.locals → h.get? a = some o → h'.get? a = some o) : StH C X h' := by
  obtain ⟨m0, ⟨oL, esL, epL, hoL, hdL, _⟩, _⟩ := S.ns
  have nd := List.nodup_cons.mp S.nodup
  have kk : ∀ (a : Addr) (o : Obj), h.get? a = some o → SeqObj o → a ∉ X.N → h'.get? a = some o ∧ a ∉ X.N := fun a o e q n => ⟨k a o (fun x => by
    subst x; obtain ⟨xs, j, hd⟩ := q
    rw [e] at hoL; cases hoL; rw [hd] at hdL; cases hdL) e, n⟩
  exact ⟨S.std, fun a o e => k a o (fun x => S.apart _ (List.mem_cons_self ..) o (x ▸ e)) (S.kept a o e), S.apart, S.big, S.nodup, ⟨m, hn, fun e he => (hm e he).map kk fun c o n nl e' _ => ⟨k c o nl e', n⟩⟩,
    fun c hc => (S.cells c hc).casesOn fun o u a b => ⟨o, u, k _ _ (fun x => nd.1 (List.mem_append_left _ (x ▸ hc))) a, b⟩, S.names, S.cnodup,
    fun p hp => (S.mem p hp).map kk fun o e => k _ _ (fun x => nd.1 (List.mem_append_right _ (x ▸ List.mem_map.mpr ⟨p, hp, rfl⟩))) e⟩
theorem St.fr {s : Shared} (S : St C X s) : ∃ m, (∀ e ∈ X.ρ, SlotRep C s.heap X.N m e) ∧ Fr h0 C.env.locals s.heap m ∧ News h0 C.env.locals s.heap (all0 s.heap C.env.locals) := by
  obtain ⟨m, hns, hs⟩ := S.H.ns
  exact ⟨m, hs, ⟨hns, fun b o e => (by rw [h0_none] at e; cases e), Nat.zero_le _⟩, fun p hp => ⟨(mem_all0.mp hp).1, (mem_all0.mp hp).2, h0_none _⟩⟩
theorem St.back {s : Shared} {h' : Heap} {m : Str → Option Value} {n2 : List (Addr × Obj)} (S : St C X s) (hs : ∀ e ∈ X.ρ, SlotRep C s.heap X.N m e) (F : Fr h0 C.env.locals h' m) (N : News h0 C.env.locals h' n2) (hsub : ∀ p ∈ all0 s.heap C.env.locals, p ∈ n2) : StH C X h' ∧ Mono C X s.heap X h' := by
  have k : ∀ a o, a ≠ C.env.locals → s.heap.get? a = some o → h'.get? a = some o := fun a o n e => (N _ (hsub _ (mem_all0.mpr ⟨e, n⟩))).1
  exact ⟨S.H.keepsL hs F.ns k, fun a o e n => ⟨k a o (fun x => n (x ▸ List.mem_cons_self ..)) e, n⟩⟩
theorem RepL.ints {h : Heap} {N : List Addr} {ns : List Int} {vs : List Value} (r : RepL h N vs (ns.map .int)) : IntsAre vs ns := by
  induction ns generalizing vs with
  | nil => rw [RepL.nil_inv r]; exact .nil
  | cons n ns ih => obtain ⟨_, _, ⟨⟩, a, r⟩ := r; obtain ⟨t, e⟩ := Rep.int_inv a; rw [e]; exact .cons n t (ih r)
theorem RepL.ofInts {h : Heap} {N : List Addr} {ns : List Int} {vs : List Value} (r : IntsAre vs ns) : RepL h N vs (ns.map .int) := by
  induction r with
  | nil => exact .nil
  | cons n t _ ih => exact .cons (.int _ _) ih
variable {Q : V → AS → Prop} {i j : Int}
theorem Op2.floordiv (hb : j ≠ 0) (hp : Builtin.divisionGoesByPylong i j = false) (q : Q (.int (i.fdiv j)) X) : Op2 C X (binaryOp .FloorDiv) (.int i) (.int j) RV Q := fun s S a b ra rb => by cases ra; cases rb; exact floordiv_int hb (fin_tk S (.int ..) q) (.inl hp)
theorem Op2.mod (hb : j ≠ 0) (q : Q (.int (i.fmod j)) X) : Op2 C X (binaryOp .Mod) (.int i) (.int j) RV Q := fun s S a b ra rb => by cases ra; cases rb; exact mod_int' hb (fin_tk S (.int ..) q)
theorem Op2.pow (hn : 0 ≤ j) (hn2 : j ≤ 1000000) (ha : i.natAbs < 2 ^ 64) (q : Q (.int (i ^ j.toNat)) X) : Op2 C X (binaryOp .Pow) (.int i) (.int j) RV Q := fun s S a b ra rb => by cases ra; cases rb; exact pow_int_small hn hn2 ha (fin_tk S (.int ..) q)
theorem OpL.abs (q : Q (.int (if i < 0 then -i else i)) X) : OpL C X (fun vs => call (.builtin "abs") vs) [.int i] RV Q := fun s S vs r => by
  obtain ⟨_, _, ⟨⟩, r1, r2⟩ := r; cases r1; cases r2; exact call_abs_int fun u tk => fin_tk S (.int ..) q
theorem OpL.int (q : Q (.int i) X) : OpL C X (fun vs => call (.type "int") vs) [.int i] RV Q := fun s S vs r => by
  obtain ⟨_, _, ⟨⟩, r1, r2⟩ := r; cases r1; cases r2; exact call_int_int (fin0 S (.int ..) q)
theorem OpL.lenT {l : List V} (hz : l.length < 2 ^ 63) (q : Q (.int l.length) X) : OpL C X (fun vs => call (.builtin "len") vs) [.tup l] RV Q := fun s S vs r => by
  obtain ⟨_, _, ⟨⟩, r1, r2⟩ := r; cases r2; obtain ⟨_, _, ⟨⟩, e, hN, rl⟩ := r1; exact PyProof.Rows.len_tuple ⟨_, e, rfl, _, rfl⟩ (by simp [rl.length]; omega) (by rw [List.size_toArray, rl.length]; exact fin_tk S (.int ..) q)
theorem OpL.lenL {l : List V} (hz : l.length < 2 ^ 63) (q : Q (.int l.length) X) : OpL C X (fun vs => call (.builtin "len") vs) [.lst l] RV Q := fun s S vs r => by
  obtain ⟨_, _, ⟨⟩, r1, r2⟩ := r; cases r2; obtain ⟨_, _, _, ⟨⟩, e, hN, rl⟩ := r1; exact PyProof.Rows.len_list ⟨_, e, rfl, _, rfl⟩ (by simp [rl.length]; omega) (by rw [List.size_toArray, rl.length]; exact fin_tk S (.int ..) q)
theorem OpL.lenM {l : List V} {a : Addr} (k : Nat) (hi : X.mem[k]? = some (a, .lst l)) (hz : l.length < 2 ^ 63) (q : Q (.int l.length) X) : OpL C X (fun vs => call (.builtin "len") vs) [.raw (.ref a)] RV Q := fun s S vs r => by
  obtain ⟨_, _, ⟨⟩, r1, r2⟩ := r; cases r2; cases r1
  obtain ⟨vs, n, e, rl⟩ := S.at hi
  exact PyProof.Rows.len_list ⟨_, e, rfl, _, rfl⟩ (by simp [rl.length]; omega) (by rw [List.size_toArray, rl.length]; exact fin_tk S (.int ..) q)
noncomputable def V.isTup : V → Bool | .tup _ => true | _ => false
noncomputable def V.isBool : V → Bool | .bool _ => true | _ => false
inductive Plain : V → Prop where
  | bool (b : Bool) : Plain (.bool b)
  | int (i : Int) : Plain (.int i)
  | tup (l : List V) : Plain (.tup l)
theorem OpL.isTuple {x : V} (hx : Plain x) (q : Q (.bool x.isTup) X) : OpL C X (fun vs => call (.builtin "isinstance") vs) [x, .raw (.type "tuple")] RV Q := fun s S vs r => by
  obtain ⟨_, _, ⟨⟩, r1, r2⟩ := r; obtain ⟨_, _, ⟨⟩, r2, r3⟩ := r2
  ·
    cases r2; cases r3
    cases hx with
    | bool b => cases r1; exact IsiPair.bool_tuple (fin_tk S (.bool _) q)
    | int i => cases r1; exact IsiPair.int_tuple (fin_tk S (.bool _) q)
    | tup l => obtain ⟨_, _, ⟨⟩, e, hN, rl⟩ := r1; exact IsiPair.tuple_tuple e rfl (fin0 S (.bool _) q)
theorem OpL.isBool {x : V} (hx : Plain x) (q : Q (.bool x.isBool) X) : OpL C X (fun vs => call (.builtin "isinstance") vs) [x, .raw (.type "bool")] RV Q := fun s S vs r => by
  obtain ⟨_, _, ⟨⟩, r1, r2⟩ := r; obtain ⟨_, _, ⟨⟩, r2, r3⟩ := r2
  ·
    cases r2; cases r3
    cases hx with
    | bool b => cases r1; exact IsiPair.bool_bool (fin0 S (.bool _) q)
    | int i => cases r1; exact IsiPair.int_bool (fin_tk S (.bool _) q)
    | tup l => obtain ⟨_, _, ⟨⟩, e, hN, rl⟩ := r1; exact IsiPair.tuple_bool e rfl (fin_tk S (.bool _) q)
theorem OpL.max2 (q : Q (.int (if j > i then j else i)) X) : OpL C X (fun vs => call (.builtin "max") vs) [.int i, .int j] RV Q := fun s S vs r => by
  obtain ⟨_, _, ⟨⟩, r1, r2⟩ := r; obtain ⟨_, _, ⟨⟩, r2, r3⟩ := r2
  ·
    cases r1; cases r2; cases r3
    obtain ⟨m, hs, F, N⟩ := S.fr
    refine max_two_N S.hand F N fun h' tk F' N' => ?_
    obtain ⟨H, mo⟩ := S.back hs F' N' fun p hp => hp
    exact ⟨_, X, q, ⟨H, S.gens, S.os⟩, .int .., mo⟩
theorem OpL.maxT {ns : List Int} (hne : 0 < ns.length) (q : ∀ M, M ∈ ns → (∀ a ∈ ns, a ≤ M) → Q (.int M) X) : OpL C X (fun vs => call (.builtin "max") vs) [.tup (ns.map .int)] RV Q := fun s S vs r => by
  obtain ⟨_, _, hv9, r1, r2⟩ := RepL.cons_inv r; clear r; cases (hv9); cases r2; obtain ⟨a, vs, hv9, e, hN, rl⟩ := Rep.tup_inv r1; clear r1; cases (hv9)
  · have hi := rl.ints
    obtain ⟨xs, exs⟩ := hi.allInts.items
    have hns : ns = xs.toList.map (·.1) := by rw [← hi.numsOf, ← nums_intItems, ← exs]
    have hsz : 0 < xs.size := by
      have h3 := hne; rw [hns, List.length_map, Array.length_toList] at h3; exact h3
    have ht : s.heap.IsTuple a (intItems xs) := ⟨_, e, rfl, 0, by rw [exs]⟩
    have halt : @LT.lt Nat _ a s.heap.objs.size := Heap.lt_size e
    refine call_max_walk (wpAny_pyIter_tuple ht ⟨_, [_, a], [_], _, _, _, _, rfl, Walks.tuple (A := C.A.in1) S.hand s.heap.objs.size a (Nat.ne_of_lt halt) (intItems xs),
      ⟨⟨_, Heap.get?_push_size _ rfl, rfl, rfl⟩, ht.push _⟩, fun b hb => ?_, by simpa [intItems] using hsz, CmpOf.ints_gt (numAt xs) (fun _ _ => intItems_at), fun v h' tk hP hk => ?_⟩)
    · show b < (s.heap.push _).objs.size
      rw [Heap.size_push]
      rcases List.mem_cons.mp hb with rfl | hb
      · exact Nat.lt_succ_self _
      · rcases List.mem_cons.mp hb with rfl | hb
        · exact Nat.lt_succ_of_lt halt
        · cases hb
    · obtain ⟨t, rfl⟩ := intItems_at hP
      have e2 : (intItems xs).size = xs.size := by simp [intItems]
      rw [e2] at hP
      obtain ⟨h1, h2⟩ := argBest_gt (numAt xs) (xs.size - 1)
      have k : ∀ b o, s.heap.get? b = some o → h'.get? b = some o := fun b o e => hk b o (by
        intro hm; rcases List.mem_cons.mp hm with rfl | hm
        · exact absurd (Heap.lt_size e) (Nat.lt_irrefl _)
        · cases hm) (Heap.get?_push_of_some _ e)
      refine ⟨_, X, q (numAt xs (argBest (fun i j => decide (numAt xs i > numAt xs j)) ((intItems xs).size - 1))) ?_ ?_, ⟨S.H.keeps k, S.gens, S.os⟩, .int .., Mono.keeps k⟩
      · rw [e2, hns, numAt_eq]; exact getD_mem (by rw [List.length_map, Array.length_toList]; omega)
      · intro a ha
        rw [hns] at ha
        obtain ⟨j, hj, rfl⟩ := mem_getD ha
        rw [List.length_map, Array.length_toList] at hj
        rw [e2, ← numAt_eq]; exact h2 j (by omega)
theorem OpL.tuple {l : List V} (hz : l.length ≤ sizeLine) (q : Q (.tup l) X) : OpL C X (fun vs => call (.type "tuple") vs) [.lst l] RV Q := fun s S vs r => by
  obtain ⟨_, _, hv9, r1, r2⟩ := RepL.cons_inv r; clear r; cases (hv9); cases r2; obtain ⟨a, vs, n, hv9, e, hN, rl⟩ := Rep.lst_inv r1; clear r1; cases (hv9)
  · refine call_tuple_list ⟨_, e, rfl, _, rfl⟩ (fun h' hk => ?_) (by rw [List.size_toArray, rl.length]; exact hz)
    have k : ∀ b o, s.heap.get? b = some o → (h'.push { cls := .type "tuple", data := .seq vs.toArray }).get? b = some o := fun b o e => Heap.get?_push_of_some _ (hk b o e)
    have hn : h'.objs.size ∉ X.N := fun hm => by
      have hm' : h'.objs.size ∈ muts C X := List.mem_cons_of_mem _ (List.mem_append_right _ hm)
      obtain ⟨o, eo⟩ := S.H.live _ hm'
      exact absurd (Heap.lt_size (hk _ _ eo)) (Nat.lt_irrefl _)
    exact ⟨_, X, q, ⟨S.H.keeps k, S.gens, S.os⟩, .tup (Heap.get?_push_size _ rfl) hn (rl.mono S.H (Mono.keeps k)), Mono.keeps k⟩
theorem OpL.tupleM {l : List V} {a : Addr} (k : Nat) (hi : X.mem[k]? = some (a, .lst l)) (hz : l.length ≤ sizeLine) (q : Q (.tup l) X) : OpL C X (fun vs => call (.type "tuple") vs) [.raw (.ref a)] RV Q := fun s S vs r => by
  obtain ⟨_, _, ⟨⟩, r1, r2⟩ := r
  ·
    cases r2; cases r1
    obtain ⟨vs, n, e, rl⟩ := S.at hi
    refine call_tuple_list ⟨_, e, rfl, _, rfl⟩ (fun h' hk => ?_) (by rw [List.size_toArray, rl.length]; exact hz)
    have k : ∀ b o, s.heap.get? b = some o → (h'.push { cls := .type "tuple", data := .seq vs.toArray }).get? b = some o := fun b o e => Heap.get?_push_of_some _ (hk b o e)
    have hn : h'.objs.size ∉ X.N := fun hm => by
      have hm' : h'.objs.size ∈ muts C X := List.mem_cons_of_mem _ (List.mem_append_right _ hm)
      obtain ⟨o, eo⟩ := S.H.live _ hm'
      exact absurd (Heap.lt_size (hk _ _ eo)) (Nat.lt_irrefl _)
    exact ⟨_, X, q, ⟨S.H.keeps k, S.gens, S.os⟩, .tup (Heap.get?_push_size _ rfl) hn (rl.mono S.H (Mono.keeps k)), Mono.keeps k⟩
theorem OpL.list {l : List V} {x : V} (hx : x = .lst l ∨ x = .tup l) (hz : l.length ≤ sizeLine) (q : ∀ a, Q (.raw (.ref a)) { X with mem := (a, .lst l) :: X.mem }) : OpL C X (fun vs => call (.type "list") vs) [x] RV Q := fun s S vs r => by
  have core : ∀ (a : Addr) (T : String) (o : Obj) (ws : List Value) (n : Nat), (T = "list" ∨ T = "tuple") → s.heap.get? a = some o → o.cls = .type T → o.data = .seq ws.toArray n → RepL s.heap X.N ws l →
      wpAny (model C.G.prog C.G.w) C.A (call (.type "list") [.ref a]) (Good C X s.heap RV Q) (fun _ _ => False) s := fun a T o ws n hT ho hc hd rl => by
    refine call_list_seq a hT ho hc hd (fun h' c' hk hD => ?_) (by rw [List.size_toArray, rl.length]; exact hz)
    have sz : s.heap.objs.size ≤ h'.objs.size := Nat.le_of_lt (Heap.lt_size hD)
    have hf := S.H.fresh
    have ne : ∀ (b : Addr) (o' : Obj), s.heap.get? b = some o' → b ≠ s.heap.objs.size := fun b o' e => Nat.ne_of_lt (Heap.lt_size e)
    have kk : ∀ (b : Addr) (o' : Obj), s.heap.get? b = some o' → SeqObj o' → b ∉ X.N → h'.get? b = some o' ∧ b ∉ s.heap.objs.size :: X.N := fun b o' e _ n => ⟨hk _ _ e, fun hm => (List.mem_cons.mp hm).elim (ne _ _ e) n⟩
    have H0 := S.H.keeps hk
    have H : StH C { X with mem := (s.heap.objs.size, .lst l) :: X.mem } h' := by
      have hmu : ∀ b, b ∈ muts C { X with mem := (s.heap.objs.size, MO.lst l) :: X.mem } → b = s.heap.objs.size ∨ b ∈ muts C X := fun b hb => by
        simp only [muts, AS.N, List.map_cons, List.mem_cons, List.mem_append] at hb ⊢
        rcases hb with hb | hb | hb | hb <;> simp_all
      refine ⟨S.H.std, H0.kept, fun b hb o hkp => ?_, fun b hb => ?_, ?_, ?_, H0.cells, H0.names, H0.cnodup, fun p hp => ?_⟩
      · rcases hmu b hb with rfl | hb
        · exact absurd (Heap.lt_size (S.H.kept _ _ hkp)) (Nat.lt_irrefl _)
        · exact S.H.apart b hb o hkp
      · rcases hmu b hb with rfl | hb
        · exact S.H.big3
        · exact S.H.big b hb
      · have hn := S.H.nodup
        simp only [muts, AS.N, List.map_cons, List.nodup_cons, List.nodup_append, List.mem_append, List.mem_cons, not_or] at hn hf ⊢
        obtain ⟨⟨n1, n2⟩, n3, n4, n5⟩ := hn
        refine ⟨⟨n1, fun e => hf.1 e.symm, n2⟩, n3, ⟨hf.2.2, n4⟩, fun a ha b hb => ?_⟩
        rcases hb with rfl | hb
        · intro e; subst e; exact hf.2.1 ha
        · exact n5 a ha b hb
      · obtain ⟨m, a, b⟩ := S.H.ns
        exact ⟨m, a.keeps hk, fun e he => (b e he).map kk fun c o' n _ e' _ => ⟨hk _ _ e', fun hm => (List.mem_cons.mp hm).elim (ne _ _ e') n⟩⟩
      · rcases List.mem_cons.mp hp with rfl | hp
        · exact ⟨ws, c', hD, rl.map kk⟩
        · exact (S.H.mem p hp).map kk fun o e => hk _ _ e
    refine ⟨_, _, q s.heap.objs.size, ⟨H, S.gens, S.os⟩, .raw _, fun b o' e n => ⟨hk _ _ e, fun hm => n ?_⟩⟩
    have := ne _ _ e
    simp only [muts, AS.N, List.map_cons, List.mem_cons, List.mem_append] at hm ⊢
    rcases hm with hm | hm | hm | hm <;> simp_all
  obtain ⟨_, _, ⟨⟩, r1, r2⟩ := r
  ·
    cases r2
    rcases hx with rfl | rfl
    · obtain ⟨_, _, _, ⟨⟩, e, hN, rl⟩ := r1; exact core _ "list" _ _ _ (.inl rfl) e rfl rfl rl
    · obtain ⟨_, _, ⟨⟩, e, hN, rl⟩ := r1; exact core _ "tuple" _ _ _ (.inr rfl) e rfl rfl rl
theorem Op2.addT {l k : List V} (hz : l.length + k.length ≤ sizeLine) (q : Q (.tup (l ++ k)) X) : Op2 C X (binaryOp .Add) (.tup l) (.tup k) RV Q := fun s S a b ra rb => by
  have ra0 := ra; have rb0 := rb
  obtain ⟨a, vs, hv9, e, hN, rl⟩ := Rep.tup_inv ra; clear ra; cases (hv9); obtain ⟨b, ws, hv9, e', hN', rl'⟩ := Rep.tup_inv rb; clear rb; cases (hv9)
  obtain ⟨m, hs, F, N⟩ := S.fr
  refine PyProof.Rows.add_tuples F N ⟨_, e, rfl, _, rfl⟩ ⟨_, e', rfl, _, rfl⟩ (fun hv => ?_) (fun _ hw => ?_) (fun _ _ h' F' N' => ?_) (by rw [rl.length, rl'.length]; exact hz)
  · subst hv; have := rl.nilR; subst this; exact fin0 S rb0 q
  · subst hw; have := rl'.nilR; subst this; exact fin0 S ra0 (by simpa using q)
  · obtain ⟨H, mo⟩ := S.back hs F' N' fun p hp => List.mem_cons_of_mem _ hp
    exact ⟨_, X, q, ⟨H, S.gens, S.os⟩, .tup (N' _ (List.mem_cons_self ..)).1 (N_of_muts S.H.fresh) ((rl.append rl').mono S.H mo), mo⟩
theorem St.isLst {s : Shared} {a : Addr} {vs : List Value} {n : Nat} (e : s.heap.get? a = some { cls := .type "list", data := .seq vs.toArray n }) : s.heap.IsList a vs.toArray := ⟨_, e, rfl, _, rfl⟩
theorem add_lsts {s : Shared} (S : St C X s) {a b : Addr} {vs ws : List Value} {n n' : Nat} {l k : List V} (e : s.heap.get? a = some { cls := .type "list", data := .seq vs.toArray n }) (rl : RepL s.heap X.N vs l)
    (e' : s.heap.get? b = some { cls := .type "list", data := .seq ws.toArray n' }) (rl' : RepL s.heap X.N ws k) (hz : l.length + k.length ≤ sizeLine) (q : Q (.lst (l ++ k)) X) : wpAny (model C.G.prog C.G.w) C.A (binaryOp .Add (.ref a) (.ref b)) (Good C X s.heap RV Q) (fun _ _ => False) s := by
  obtain ⟨m, hs, F, N⟩ := S.fr
  refine PyProof.Rows.add_lists F N (St.isLst e) (St.isLst e') (fun h' F' N' => ?_) (by rw [rl.length, rl'.length]; exact hz)
  obtain ⟨H, mo⟩ := S.back hs F' N' fun p hp => List.mem_cons_of_mem _ hp
  exact ⟨_, X, q, ⟨H, S.gens, S.os⟩, .lst (N' _ (List.mem_cons_self ..)).1 (N_of_muts S.H.fresh) ((rl.append rl').mono S.H mo), mo⟩
theorem Op2.addL {l k : List V} (hz : l.length + k.length ≤ sizeLine) (q : Q (.lst (l ++ k)) X) : Op2 C X (binaryOp .Add) (.lst l) (.lst k) RV Q := fun s S a b ra rb => by
  obtain ⟨_, _, _, ⟨⟩, e, hN, rl⟩ := ra; obtain ⟨_, _, _, ⟨⟩, e', hN', rl'⟩ := rb; exact add_lsts S e rl e' rl' hz q
theorem Op2.addML {l k : List V} {a : Addr} (i : Nat) (hi : X.mem[i]? = some (a, .lst l)) (hz : l.length + k.length ≤ sizeLine) (q : Q (.lst (l ++ k)) X) : Op2 C X (binaryOp .Add) (.raw (.ref a)) (.lst k) RV Q := fun s S _ b ra rb => by
  cases ra
  obtain ⟨vs, n, e, rl⟩ := S.at hi
  obtain ⟨_, _, _, ⟨⟩, e', hN', rl'⟩ := rb; exact add_lsts S e rl e' rl' hz q
end
end
section
inductive At : List Sl → Str → Option Addr → V → Prop where
  | head {x : Str} {c : Option Addr} {v : V} {r : List Sl} : At (⟨x, c, some v⟩ :: r) x c v
  | tail {e : Sl} {r : List Sl} {x : Str} {c : Option Addr} {v : V} : At r x c v → At (e :: r) x c v
inductive Put : List Sl → Str → V → List Sl → Prop where
  | head {x : Str} {ov : Option V} {v : V} {r : List Sl} : Put (⟨x, none, ov⟩ :: r) x v (⟨x, none, some v⟩ :: r)
  | tail {e : Sl} {r r' : List Sl} {x : Str} {v : V} : Put r x v r' → Put (e :: r) x v (e :: r')
inductive PutC : List Sl → Str → Addr → V → List Sl → Prop where
  | head {x : Str} {c : Addr} {ov : Option V} {v : V} {r : List Sl} : PutC (⟨x, some c, ov⟩ :: r) x c v (⟨x, some c, some v⟩ :: r)
  | tail {e : Sl} {r r' : List Sl} {x : Str} {c : Addr} {v : V} : PutC r x c v r' → PutC (e :: r) x c v (e :: r')
theorem memA {a : Addr} {l : List Addr} : a ∈ a :: l := .head _
theorem memB {a b : Addr} {l : List Addr} : a ∈ b :: a :: l := .tail _ (.head _)
theorem memC {a b c : Addr} {l : List Addr} : a ∈ b :: c :: a :: l := .tail _ (.tail _ (.head _))
theorem memD {a b c d : Addr} {l : List Addr} : a ∈ b :: c :: d :: a :: l := .tail _ (.tail _ (.tail _ (.head _)))
theorem At.idx {ρ : List Sl} {x : Str} {c : Option Addr} {v : V} (h : At ρ x c v) : ∃ i : Nat, ρ[i]? = some ⟨x, c, some v⟩ := by
  induction h with
  | head => exact ⟨0, rfl⟩
  | tail _ ih => obtain ⟨i, e⟩ := ih; exact ⟨i + 1, e⟩
theorem Put.idx {ρ ρ' : List Sl} {x : Str} {v : V} (h : Put ρ x v ρ') : ∃ (i : Nat) (ov : Option V), ρ[i]? = some ⟨x, none, ov⟩ ∧ ρ' = ρ.set i ⟨x, none, some v⟩ := by
  induction h with
  | head => exact ⟨0, _, rfl, rfl⟩
  | tail _ ih => obtain ⟨i, ov, e, e'⟩ := ih; exact ⟨i + 1, ov, e, by rw [e']; rfl⟩
theorem PutC.idx {ρ ρ' : List Sl} {x : Str} {c : Addr} {v : V} (h : PutC ρ x c v ρ') : ∃ (i : Nat) (ov : Option V), ρ[i]? = some ⟨x, some c, ov⟩ ∧ ρ' = ρ.set i ⟨x, some c, some v⟩ := by
  induction h with
  | head => exact ⟨0, _, rfl, rfl⟩
  | tail _ ih => obtain ⟨i, ov, e, e'⟩ := ih; exact ⟨i + 1, ov, e, by rw [e']; rfl⟩
section
variable {C : Cx} {X : AS}
theorem Ev.nm {x : Str} {c : Option Addr} {v : V} {pos : Pos} {Q : V → AS → Prop} (h : At X.ρ x c v) (q : Q v X) (hd : (x == ("__debug__" : Str)) = false := by decide) : Ev C X (.Name x pos) Q :=
  h.idx.elim fun i e => Ev.name i e q hd
theorem As.nm {x : Str} {v : V} {pos : Pos} {ρ' : List Sl} {Q : AS → Prop} (h : Put X.ρ x v ρ') (q : Q { X with ρ := ρ' }) : As C X (.Name x pos) v Q :=
  let ⟨i, ov, e, e'⟩ := h.idx; As.name i e (by rw [← e']; exact q)
theorem As.nmC {x : Str} {c : Addr} {v : V} {pos : Pos} {ρ' : List Sl} {Q : AS → Prop} (h : PutC X.ρ x c v ρ') (hc : c ∈ C.cells) (q : Q { X with ρ := ρ' }) (hkind : C.env.kindOf x = some .cell := by rfl) : As C X (.Name x pos) v Q :=
  let ⟨i, ov, e, e'⟩ := h.idx; As.cell i e hc hkind (by rw [← e']; exact q)
theorem BindL.nm {n : Str} {ns : List Str} {x : V} {l : List V} {ρ' : List Sl} {Q : AS → Prop} (h : Put X.ρ n x ρ') (q : BindL C { X with ρ := ρ' } ns l Q) : BindL C X (n :: ns) (x :: l) Q :=
  let ⟨i, ov, e, e'⟩ := h.idx; BindL.cons i e (by rw [← e']; exact q)
theorem BindL.nmC {n : Str} {ns : List Str} {x : V} {l : List V} {c : Addr} {ρ' : List Sl} {Q : AS → Prop} (h : PutC X.ρ n c x ρ') (hc : c ∈ C.cells) (q : BindL C { X with ρ := ρ' } ns l Q) (hkind : C.env.kindOf n = some .cell := by rfl) : BindL C X (n :: ns) (x :: l) Q := fun s S vs r => by
  obtain ⟨i, ov, e, e'⟩ := h.idx
  obtain ⟨_, _, ⟨⟩, r1, r2⟩ := r
  ·
    show wpAny _ _ (do holding _ (bindName C.env n _); assignInOrder (ns.map fun n => bindName C.env n) _) _ _ s
    refine wpAny_bind (wpAny_holding (wpAny_mono (bind_cell (Q := fun Y => BindL C Y ns l Q) S i e hc hkind r1 (by rw [← e']; exact q) (E := fun _ _ => False)) (fun u s1 g => ?_) fun _ _ e => e))
    obtain ⟨_, Y, o, S1, _, m⟩ := g
    exact OpL.run o S1 (r2.mono S.H m) fun _ _ g => good_trans m g
end
section
variable {C : Cx} {X : AS} {Q : V → AS → Prop}
theorem Ev.callG {x : Str} {args : List Expr} {ppos pos : Pos} {v : Value} (hk : C.env.kindOf x = some .globalImplicit) (e : nsIn C.G.K mainGlobals x = some (some v)) (keep : keepIn C.G.K v = true)
    (h : EvL C X pos args (fun l Z => OpL C Z (fun vs => PySem.call v vs) l RV Q)) (hd : (x == ("__debug__" : Str)) = false := by decide)
    (he : eval (.Call (.Name x ppos) args [] pos) C.env = (do callWith pos (← eval (.Name x ppos) C.env) [] (backTo pos (starEach args C.env)) []) := by rfl) (hp : (backTo pos (starEach args C.env)).any (·.1) = false := by rfl) : Ev C X (.Call (.Name x ppos) args [] pos) Q :=
  Ev.call (.inr (.inr keep)) (Ev.glob hk e ⟨rfl, h⟩ hd) he hp
theorem Ev.callB {x : Str} {args : List Expr} {ppos pos : Pos} {v : Value} (hk : C.env.kindOf x = some .globalImplicit) (e : nsIn C.G.K mainGlobals x = some Option.none) (hv : bootBuiltins x = some v) (keep : (∃ id, v = .builtin id) ∨ (∃ n, v = .type n))
    (h : EvL C X pos args (fun l Z => OpL C Z (fun vs => PySem.call v vs) l RV Q)) (hn : x ≠ "__name__" := by decide) (hd : (x == ("__debug__" : Str)) = false := by decide)
    (he : eval (.Call (.Name x ppos) args [] pos) C.env = (do callWith pos (← eval (.Name x ppos) C.env) [] (backTo pos (starEach args C.env)) []) := by rfl) (hp : (backTo pos (starEach args C.env)).any (·.1) = false := by rfl) : Ev C X (.Call (.Name x ppos) args [] pos) Q :=
  Ev.call (keep.elim .inl fun h => .inr (.inl h)) (Ev.blt hk e hv ⟨rfl, h⟩ hn hd) he hp
theorem ifT {p : Prop} {a b : Prop} [Decidable p] (h : p) (q : a) : if p then a else b := by rw [if_pos h]; exact q
theorem ifF {p : Prop} {a b : Prop} [Decidable p] (h : ¬ p) (q : b) : if p then a else b := by rw [if_neg h]; exact q
theorem ifB {c : Bool} {a b : Prop} (h1 : c = true → a) (h2 : c = false → b) : if c = true then a else b := by cases c with | true => exact h1 rfl | false => exact h2 rfl
end
noncomputable abbrev HG (C : Cx) : Prop := C.G.K = KF C.G.w.params
end
section
theorem retOK {Q : V → AS → Prop} {ρ ρ' : List Sl} {M M' : List (Addr × MO)} {v : V} (hs : M'.Sublist M) (q : Q v ⟨ρ, M'⟩) : Out ρ Q (.ret v) ⟨ρ', M⟩ := ⟨v, ⟨ρ, M'⟩, .ret _, rfl, hs, q⟩
theorem retR {Q : V → AS → Prop} {ρ ρ' : List Sl} {M : List (Addr × MO)} {v : V} (q : Q v ⟨ρ, M⟩) : Out ρ Q (.ret v) ⟨ρ', M⟩ := retOK (List.Sublist.refl _) q
theorem retNone {Q : V → AS → Prop} {ρ ρ' : List Sl} {M M' : List (Addr × MO)} (hs : M'.Sublist M) (q : Q .none ⟨ρ, M'⟩) : Out ρ Q .next ⟨ρ', M⟩ := ⟨_, ⟨ρ, M'⟩, .next, rfl, hs, q⟩
theorem turnOK {ρ : List Sl} {F M : List (Addr × MO)} {I : AS → Prop} (h : I ⟨ρ, M⟩) : Back F I ⟨ρ, F ++ M⟩ := ⟨⟨ρ, M⟩, rfl, h⟩
theorem small_ok {n : Nat} (h : n ≤ 60) : n ≤ sizeLine := by rw [sizeLine_eq]; omega
section
variable {C : Cx} {X : AS} {Q : V → AS → Prop}
theorem Ev.globI {x : Str} {pos : Pos} {i : Int} {t : Tok} {Q : V → AS → Prop} (hk : C.env.kindOf x = some .globalImplicit) (e : nsIn C.G.K mainGlobals x = some (some (.int i t))) (q : Q (.int i) X) (hd : (x == ("__debug__" : Str)) = false := by decide) :
    Ev C X (.Name x pos) Q := by
  intro s S
  refine Name_function_global S.H.std.fn hk (loadGlobal_global (mg := C.G.mg) ?_ (mg_of S.H.std.K S.H.std.top.g e) (fin0 S (.int i t) q)) hd
  rw [S.H.std.gl]; exact S.top.g
end
end
section
theorem keys_none : typeLookup (.type "tuple") (Str.ofString "keys") = pure none := am_miss_of_fast (by kernel_rfl)
theorem keys_miss {prog : Program} {w : World} {A : Around} {E : Value → Shared → Prop} {s : Shared} {a : Addr} {xs : Array Value} {k : Nat} {Q : Option Value → Shared → Prop}
    (hx : s.heap.get? a = some { cls := .type "tuple", data := .seq xs k }) (hA : A.handled = none)
    (h : ∀ h' tk, (∀ b o, s.heap.get? b = some o → h'.get? b = some o) → Q none { s with heap := h', toks := tk }) : wpAny (model prog w) A (getAttr? (.ref a) (Str.ofString "keys")) Q E s := by
  obtain ⟨hp, g, d, tk, os⟩ := s
  have hT : ∀ tk', (⟨hp, g, d, tk', os⟩ : Shared).TypeIs (.ref a) "tuple" := fun _ => ⟨_, hx, rfl⟩
  have f1 := sub_AttributeError
  have f3 := PySem.F.slot_tuple_getattribute.lookup
  have f4 := PySem.F.slot_tuple_getattribute.bind (.ref a)
  have f5 := am_tuple_getattr_none
  unfold getAttr? getAttrBy? getAttrBy
  repeat (any_goals (first | assumption | exact hT _ | ((with_reducible show wpAny _ _ (call (Value.builtin "tuple.__getattribute__") _ _) _ _ _); refine call_meets PySem.F.slot_tuple_getattribute (hT _) am_entry_tuple_getattribute (PySem.F.args_tuple_getattribute_2 _ _) (meets_getattribute_miss_tuple a xs k #[] _ _ keys_none (by decide +kernel) (by size_fits)) ⟨hx, hA, fun h' tk' e hx' => ?_⟩) | wp_step))
  obtain ⟨t', u', he⟩ := hx'.there
  show wpAny _ _ (getattributeRaised _ _ _ _ _ _ _) _ _ _
  unfold getattributeRaised
  repeat (any_goals (first | assumption | wp_step))
  exact h h' tk' hx'.keeps
noncomputable def stI {K : Type} [DecidableEq K] (kvs : List (K × V)) (k : K) (v : V) : List (K × V) :=
  if kvs.any (fun kv => kv.1 = k) then kvs.map (fun kv => if kv.1 = k then (kv.1, v) else kv) else kvs ++ [(k, v)]
theorem KV.any {K : Type} [DecidableEq K] {h : Heap} {N : List Addr} {k : K} {vs : List (K × Value)} {l : List (K × V)} (r : KV h N vs l) : vs.any (fun kv => kv.1 = k) = l.any (fun kv => kv.1 = k) := by
  induction l generalizing vs with
  | nil => rw [r.nil_inv]; rfl
  | cons e l ih => obtain ⟨v, ws, hv, _, r⟩ := r.inv; rw [hv, List.any_cons, List.any_cons, ih r]
theorem KV.put {K : Type} [DecidableEq K] {h : Heap} {N : List Addr} {k : K} {v : Value} {x : V} (rv : Rep h N v x) {vs : List (K × Value)} {l : List (K × V)} (r : KV h N vs l) : KV h N (vs.map fun kv => if kv.1 = k then (kv.1, v) else kv) (l.map fun kv => if kv.1 = k then (kv.1, x) else kv) := by
  induction l generalizing vs with
  | nil => rw [r.nil_inv]; rfl
  | cons e l ih =>
    obtain ⟨w, ws, hv, a, r⟩ := r.inv
    rw [hv, List.map_cons, List.map_cons]
    by_cases q : e.1 = k
    · rw [if_pos q, if_pos q]; exact .cons rv (ih r)
    · rw [if_neg q, if_neg q]; exact .cons a (ih r)
theorem KV.snoc {K : Type} {h : Heap} {N : List Addr} {k : K} {v : Value} {x : V} (rv : Rep h N v x) {vs : List (K × Value)} {l : List (K × V)} (r : KV h N vs l) : KV h N (vs ++ [(k, v)]) (l ++ [(k, x)]) := by
  induction l generalizing vs with
  | nil => rw [r.nil_inv]; exact .cons rv .nil
  | cons e l ih => obtain ⟨w, ws, hv, a, r⟩ := r.inv; rw [hv]; exact .cons a (ih r)
theorem KV.stored {K : Type} [DecidableEq K] {h : Heap} {N : List Addr} {vs : List (K × Value)} {l : List (K × V)} (r : KV h N vs l) {k : K} {v : Value} {x : V} (rv : Rep h N v x) : KV h N (PySem.stored vs k v) (stI l k x) := by
  unfold PySem.stored stI
  rw [r.any]
  split
  · exact r.put rv
  · exact r.snoc rv
theorem KV.length {K : Type} {h : Heap} {N : List Addr} {vs : List (K × Value)} {l : List (K × V)} (r : KV h N vs l) : vs.length = l.length := by
  induction l generalizing vs with
  | nil => rw [r.nil_inv]; rfl
  | cons e l ih => obtain ⟨v, ws, hv, _, r⟩ := r.inv; rw [hv]; exact congrArg Nat.succ (ih r)
noncomputable def ipV (p : Int × V) : V := .tup [.int p.1, p.2]
noncomputable def dictOfPairs : List (Int × V) → List (Int × V) → List (Int × V)
  | acc, [] => acc
  | acc, p :: r => dictOfPairs (stI acc p.1 p.2) r
section
variable {C : Cx} {X : AS} {Q : V → AS → Prop}
theorem StH.new {h h' : Heap} {a : Addr} {mo : MO} (S : StH C X h) (hk : ∀ b o, h.get? b = some o → h'.get? b = some o) (ha : h.get? a = none) (hb : @LT.lt Nat _ 3 a) (r : MRep C.G.prog C.G.w h' (a :: X.N) a mo) :
    StH C { X with mem := (a, mo) :: X.mem } h' ∧ Mono C X h { X with mem := (a, mo) :: X.mem } h' := by
  have hf : a ∉ muts C X := fun hm => by obtain ⟨o, e⟩ := S.live a hm; rw [ha] at e; cases e
  have ne : ∀ (b : Addr) (o' : Obj), h.get? b = some o' → b ≠ a := fun b o' e x => by subst x; rw [ha] at e; cases e
  have kk : ∀ (b : Addr) (o' : Obj), h.get? b = some o' → SeqObj o' → b ∉ X.N → h'.get? b = some o' ∧ b ∉ a :: X.N := fun b o' e _ n => ⟨hk _ _ e, fun hm => (List.mem_cons.mp hm).elim (ne _ _ e) n⟩
  have H0 := S.keeps hk
  have hmu : ∀ b, b ∈ muts C { X with mem := (a, mo) :: X.mem } → b = a ∨ b ∈ muts C X := fun b hb => by
    simp only [muts, AS.N, List.map_cons, List.mem_cons, List.mem_append] at hb ⊢
    rcases hb with hb | hb | hb | hb <;> simp_all
  refine ⟨⟨S.std, H0.kept, fun b hb o hkp => ?_, fun b hb' => ?_, ?_, ?_, H0.cells, H0.names, H0.cnodup, fun p hp => ?_⟩, fun b o' e n => ⟨hk _ _ e, fun hm => (hmu b hm).elim (ne _ _ e) n⟩⟩
  · rcases hmu b hb with rfl | hb
    · exact ne _ _ (S.kept _ _ hkp) rfl
    · exact S.apart b hb o hkp
  · rcases hmu b hb' with rfl | hb'
    · exact hb
    · exact S.big b hb'
  · have hn := S.nodup
    simp only [muts, AS.N, List.map_cons, List.nodup_cons, List.nodup_append, List.mem_append, List.mem_cons, not_or] at hn hf ⊢
    obtain ⟨⟨n1, n2⟩, n3, n4, n5⟩ := hn
    refine ⟨⟨n1, fun e => hf.1 e.symm, n2⟩, n3, ⟨hf.2.2, n4⟩, fun c hc b hb => ?_⟩
    rcases hb with rfl | hb
    · intro e; subst e; exact hf.2.1 hc
    · exact n5 c hc b hb
  · obtain ⟨m, x, b⟩ := S.ns
    exact ⟨m, x.keeps hk, fun e he => (b e he).map kk fun c o' n _ e' _ => ⟨hk _ _ e', fun hm => (List.mem_cons.mp hm).elim (ne _ _ e') n⟩⟩
  · rcases List.mem_cons.mp hp with rfl | hp
    · exact r
    · exact (S.mem p hp).map kk fun o e => hk _ _ e
theorem plain_upd : plainId "dict.update.loop" = true := by decide +kernel
theorem quiet_upd : "dict.update.loop".startsWith "lifetime." = false := by decide +kernel
theorem entry_upd : entryFor table "dict.update.loop" = some Builtin.«dict.update.loop» := entryFor_of_tree (by kernel_rfl)
theorem upd_loop {s0 : Shared} {d it a : Addr} {vs : List Value} {ps : List (Int × V)} {N : List Addr} (hh : C.A.handled = none) (hne : d ≠ it) (hae : a ≠ it) (had : a ≠ d) (hz : ps.length ≤ 1000)
    (R : Result → Shared → Prop) (hlive : ∀ b o, s0.heap.get? b = some o → b ≠ d ∧ b ≠ it) (ht0 : s0.heap.get? a = some { cls := .type "tuple", data := .seq vs.toArray }) (hN : ∀ b, b ∈ N → b ≠ d) (rl : RepL s0.heap N vs (ps.map ipV)) :
    ∀ (j : Nat) (acc : List (Int × V)) (kv : List (Int × Value)) (s : Shared), j ≤ ps.length → acc.length ≤ j → s.gens = s0.gens → s.os = s0.os → (∀ b o, s0.heap.get? b = some o → s.heap.get? b = some o) → s.heap.DictOf (intKind C.G.prog C.G.w) d kv → KV s.heap N kv acc → s.heap.IsTupleIter it a j →
      (∀ h' tk kv', (∀ b o, s0.heap.get? b = some o → h'.get? b = some o) → h'.DictOf (intKind C.G.prog C.G.w) d kv' → KV h' N kv' (dictOfPairs acc (ps.drop j)) → R (.ok (.ret .none)) { s0 with heap := h', toks := tk, drawn := s.drawn }) →
      s.drawn = s0.drawn →
      codeAny (model C.G.prog C.G.w) C.A.in1 (.builtin "dict.update.loop" ⟨[.ref d, .ref it, rawInt j, .none], []⟩) R s := by
  intro j
  generalize hm : ps.length - j = m
  induction m generalizing j with
  | zero =>
    intro acc kv s hj hacc hg hos hk hd hkv hit hR hdr
    have hjl : j = ps.length := by omega
    subst hjl
    refine codeAny_builtin entry_upd ?_
    rw [Around.under_plainId plain_upd _]
    show wpAny _ _ (pyNext (.ref it) >>= _) _ _ s
    refine wpAny_bind (wpAny_pyNext_tuple_end (by exact hh) hit ⟨_, hk _ _ ht0, rfl, 0, rfl⟩ (by simp [rl.length]) fun h' he => ?_)
    refine wpAny_bind (m := Builtin.Dict.addKeywords d []) (wpAny_pure (wpAny_pure ?_))
    obtain ⟨o, es, ep, e1, r1⟩ := hd
    have e2 := he _ _ hne e1
    have := hR h' s.toks kv (fun b o e => he b o (hlive b o e).2 (hk b o e)) ⟨o, es, ep, e2, r1⟩ (by
      rw [List.drop_length]
      exact hkv.map fun b o e q n => ⟨he b o (fun x => by
        subst x
        obtain ⟨oi, hoi, _, hdi⟩ := hit
        obtain ⟨xs, nn, hq⟩ := q
        rw [e] at hoi; cases hoi; rw [hdi] at hq; cases hq) e, n⟩)
    obtain ⟨hp, gg, dr, tk, os⟩ := s
    simp only at hg hos
    subst hg hos
    exact this
  | succ m ih =>
    intro acc kv s hj hacc hg hos hk hd hkv hit hR hdr
    have hjl : j < ps.length := by omega
    have hx : (ps.map ipV)[j]? = some (ipV ps[j]) := by simp [hjl]
    obtain ⟨v, hv, rv⟩ := rl.get hx
    refine codeAny_builtin entry_upd ?_
    rw [Around.under_plainId plain_upd _]
    show wpAny _ _ (pyNext (.ref it) >>= _) _ _ s
    refine wpAny_bind (wpAny_pyNext_tuple_item hit ⟨_, hk _ _ ht0, rfl, 0, rfl⟩ (x := v) (by simpa using hv) fun h' hit' hb => ?_)
    have hk' : ∀ b o, s0.heap.get? b = some o → h'.get? b = some o := fun b o e => hb.extBut b o (hlive b o e).2 (hk b o e)
    unfold ipV at rv
    obtain ⟨p, ws, hv9, ep, hnp, rp⟩ := Rep.tup_inv rv; clear rv; cases (hv9)
    · obtain ⟨v1, _, hv9, r1, hr1⟩ := RepL.cons_inv rp; clear rp; cases (hv9); obtain ⟨v2, _, hv9, r2, rp⟩ := RepL.cons_inv hr1; clear hr1; cases (hv9)
      cases rp
      obtain ⟨t, hv9⟩ := Rep.int_inv r1; clear r1; cases (hv9)
      dsimp only
      refine wpAny_bind (wpAny_holding (wpAny_bind (wpAny_tryCatch ?_)))
      show wpAny _ _ (typeOf (.ref p) >>= _) _ _ _
      refine wpAny_bind (wpAny_typeOf (T := "tuple") ⟨_, hk' _ _ ep, rfl⟩ ?_)
      rw [if_pos (by decide +kernel)]
      refine wpAny_bind (wpAny_seqItems (hk' _ _ ep) rfl (wpAny_pure ?_))
      show wpAny _ _ (holding [.int ps[j].1 t, v2] (dictSet d (.int ps[j].1 t) v2)) _ _ _
      obtain ⟨o1, es1, ep1, e1, rr1⟩ := hd
      have hd' : h'.DictOf (intKind C.G.prog C.G.w) d kv := ⟨o1, es1, ep1, hb.extBut _ _ hne e1, rr1⟩
      have hlen := hkv.length
      refine wpAny_holding (wpAny_dictSet_pairs (knd := intKind C.G.prog C.G.w) (k := ps[j].1) (intKind_is _ _ _ _) hd' (fun h'' hd'' hb'' => ?_) (by rw [sizeLine_eq]; omega))
      have hk'' : ∀ b o, s0.heap.get? b = some o → h''.get? b = some o := fun b o e => hb''.extBut b o (hlive b o e).1 (hk' b o e)
      have kvk : KV h'' N kv acc := hkv.map fun b o e q n => by
        refine ⟨hb''.extBut b o (fun x => ?_) (hb.extBut b o (fun x => ?_) e), n⟩
        · subst x
          obtain ⟨xs, nn, hq⟩ := q
          rw [e1] at e; cases e
          obtain ⟨_, hdd, _⟩ := rr1
          rw [hdd] at hq; cases hq
        · subst x
          obtain ⟨oi, hoi, _, hdi⟩ := hit
          obtain ⟨xs, nn, hq⟩ := q
          rw [e] at hoi; cases hoi; rw [hdi] at hq; cases hq
      have rv2 : Rep h'' N v2 ps[j].2 := r2.map fun b o e q n => ⟨hk'' b o e, n⟩
      have hdrop : ps.drop j = ps[j] :: ps.drop (j + 1) := by rw [List.drop_eq_getElem_cons hjl]
      have hst : (stI acc ps[j].1 ps[j].2).length ≤ j + 1 := by
        unfold stI; split
        · simp; omega
        · simp; omega
      refine wpAny_pure ⟨Code.quiet_builtin _ quiet_upd, ih (j + 1) (by omega) _ _ _ (by omega) hst hg hos hk'' hd'' (kvk.stored rv2) ?_ ?_ hdr⟩
      · obtain ⟨oi, hoi, hri⟩ := hit'
        exact ⟨oi, hb''.extBut _ _ hne.symm hoi, hri⟩
      · intro h3 tk3 kv3 a1 a2 a3
        exact hR h3 tk3 kv3 a1 a2 (by rw [hdrop]; exact a3)
theorem OpL.dict {ps : List (Int × V)} (hz : ps.length ≤ 1000) (q : ∀ d, Q (.raw (.ref d)) { X with mem := (d, .dI (dictOfPairs [] ps)) :: X.mem }) : OpL C X (fun vs => call (.type "dict") vs) [.tup (ps.map ipV)] RV Q := fun s S vs r => by
  obtain ⟨_, _, hv9, r1, r2⟩ := RepL.cons_inv r; clear r; cases (hv9); cases r2; obtain ⟨a, vs, hv9, e, hN, rl⟩ := Rep.tup_inv r1; clear r1; cases (hv9)
  · have hh := S.hand
    refine callType_codes (Q₁ := fun obj s₁ => obj = .ref s.heap.objs.size ∧ s₁ = { s with heap := s.heap.push { cls := .type "dict", data := .dict #[] } }) PySem.F.kt_called_dict (PySem.F.kt_typeCall_dict_1 _) PySem.F.entry_dict_init (kt_code_dict_new _ ⟨rfl, rfl⟩) ?_
    rintro obj s₁ ⟨rfl, rfl⟩
    have hnew : (s.heap.push { cls := .type "dict", data := .dict #[] }).DictOf (intKind C.G.prog C.G.w) s.heap.objs.size [] := Heap.DictOf.new s.heap
    refine ⟨hnew.typeIs, PySem.F.args_dict_init_2 _ _, ?_⟩
    unfold Builtin.«dict.__init__»
    refine wpAny_bind ?_
    unfold Builtin.Dict.selfAndRest
    refine wpAny_bind (wpAny_notOrdered_dict hnew.typeIs ?_)
    show wpAny _ _ (pure (s.heap.objs.size, [Value.ref a])) _ _ _
    refine wpAny_pure ?_
    show wpAny _ _ (Builtin.Dict.updateFrom "dict.__init__" s.heap.objs.size (.ref a) [] .none) _ _ _
    have e0 : (s.heap.push { cls := .type "dict", data := .dict #[] }).get? a = some { cls := .type "tuple", data := .seq vs.toArray } := Heap.get?_push_of_some _ e
    unfold Builtin.Dict.updateFrom
    refine wpAny_bind (wpAny_typeOf (T := "tuple") ⟨_, e0, rfl⟩ ?_)
    rw [if_pos (by decide)]
    refine wpAny_bind (keys_miss e0 hh fun h1 tk1 hk1 => ?_)
    simp only [Option.isNone_none, if_true]
    refine wpAny_bind (wpAny_rule ?_)
    have e1 := hk1 _ _ e0
    refine wpAny_bind (wpAny_pyIter_tuple ⟨_, e1, rfl, 0, rfl⟩ ?_)
    have live : ∀ b o, s.heap.get? b = some o → (h1.push { cls := .type "tuple_iterator", data := .fields #[.ref a, .int 0 0] }).get? b = some o := fun b o e => Heap.get?_push_of_some _ (hk1 _ _ (Heap.get?_push_of_some _ e))
    have lt : @LT.lt Nat _ s.heap.objs.size h1.objs.size := Heap.lt_size (hk1 _ _ (Heap.get?_push_size _ rfl))
    have nN : ∀ b, b ∈ X.N → b ≠ s.heap.objs.size := fun b hb e => S.H.fresh (e ▸ List.mem_cons_of_mem _ (List.mem_append_right _ hb))
    obtain ⟨o1, es1, ep1, f1, r1⟩ := hnew
    refine wpAny_pure ⟨Code.quiet_builtin _ quiet_upd, upd_loop (C := C) (s0 := s) (a := a) (vs := vs) (ps := ps) (N := X.N) hh (Nat.ne_of_lt lt) (Nat.ne_of_lt (Heap.lt_size e1)) (Nat.ne_of_lt (Heap.lt_size e)) hz _
      (fun b o e => ⟨Nat.ne_of_lt (Heap.lt_size e), Nat.ne_of_lt (Nat.lt_trans (Heap.lt_size e) lt)⟩) e nN rl 0 [] [] _ (Nat.zero_le _) (Nat.le_refl _) rfl rfl live ⟨o1, es1, ep1, Heap.get?_push_of_some _ (hk1 _ _ f1), r1⟩ .nil ⟨_, Heap.get?_push_size _ rfl, rfl, rfl⟩ (fun h' tk kv' hk hd hkv => ?_) rfl⟩
    obtain ⟨H, mo⟩ := S.H.new (mo := .dI (dictOfPairs [] ps)) hk (fresh_none _) S.H.big3 ⟨kv', hd, hkv.map fun b o e sq n => ⟨e, fun hm => (List.mem_cons.mp hm).elim (fun x => by
      obtain ⟨o2, es2, ep2, g2, _, hd2, _⟩ := hd
      obtain ⟨xs, k, hq⟩ := sq
      subst x; rw [e] at g2; cases g2; rw [hd2] at hq; cases hq) n⟩⟩
    exact ⟨rfl, _, _, q _, ⟨H, S.gens, S.os⟩, .raw _, mo⟩
end
end
section
section
variable {C : Cx} {X : AS} {Q : V → AS → Prop}
theorem IsMeth.getI {kvs : List (Int × V)} {d : Addr} (k : Nat) (hi : X.mem[k]? = some (d, .dI kvs)) : IsMeth C X (.raw (.ref d)) (Str.ofString "get") (.builtin "dict.get") :=
  IsMeth.blt PySem.F.plainAttrs_dict PySem.F.slot_dict_get PySem.F.type_dict_get fun s S a r => by
    cases r
    obtain ⟨vs, hd, _⟩ := S.at hi
    exact ⟨hd.typeIs, hd.mapOf.noDict⟩
theorem OpL.getI {kvs : List (Int × V)} {d : Addr} {key : Int} {y : V} (k : Nat) (hi : X.mem[k]? = some (d, .dI kvs)) (q : Q ((lookK kvs key).getD y) X) : OpL C X (fun vs => PySem.call (.builtin "dict.get") vs) [.raw (.ref d), .int key, y] RV Q := fun s S vs r => by
  obtain ⟨_, _, ⟨⟩, r1, r2⟩ := r; obtain ⟨_, _, ⟨⟩, r2, r3⟩ := r2; obtain ⟨_, _, ⟨⟩, r3, r4⟩ := r3
  ·
    cases r4; cases r1; cases r2
    obtain ⟨vs, hd, hkv⟩ := S.at hi
    refine call_meetsIn PySem.F.slot_dict_get hd.typeIs PySem.F.entry_dict_get (PySem.F.args_dict_get_3 _ _ _) (meets_dict_get_default (intKind C.G.prog C.G.w) d (intKind_is _ _ _ _) (not_sys S hi) _) ⟨_, hd.mapOf, ?_⟩
    have hl := hkv.look (k := key)
    cases hlk : lookK kvs key with
    | none => rw [hlk] at hl q; dsimp only at hl; rw [hl]; exact fin_tk S r3 q
    | some z => rw [hlk] at hl q; obtain ⟨v, e1, rv⟩ := hl; rw [e1]; exact fin_tk S rv q
theorem As.subs {e i : Expr} {pos : Pos} {v : V} {Q : AS → Prop} (h : Ev C X e (fun x Y => Ev C Y i (fun y Z => Op3 C Z setItem x y v RE (fun (_ : Unit) W => Q W)))) : As C X (.Subscript e i pos) v Q := fun s S val r => by
  show wpAny _ _ (PySem.assign (.Subscript e i pos) C.env val) _ _ s
  rw [assign_Subscript]
  refine wpAny_bind (wpAny_holding (h.run S fun a x Y s1 q1 S1 r1 m1 => ?_))
  refine wpAny_bind (wpAny_holding (TW.run (show Ev C Y i _ from q1) S1 fun b y Z s2 q2 S2 r2 m2 => ?_))
  refine wpAny_bind (wpAny_standAt (wpAny_bind (wpAny_holding (wpAny_mono (q2 s2 S2 a b val (r1.mono S1.H m2) r2 ((r.mono S.H m1).mono S1.H m2)) (fun _ s3 g => wpAny_release ?_) fun _ _ e => e.elim))))
  exact good_trans (m1.trans m2) g
theorem setI {kvs : List (Int × V)} {d : Addr} {key : Int} {y : V} {Q : AS → Prop} (k : Nat) (hi : X.mem[k]? = some (d, .dI kvs)) (hz : kvs.length ≤ sizeLine) (q : Q { X with mem := X.mem.set k (d, .dI (stI kvs key y)) }) : Op3 C X setItem (.raw (.ref d)) (.int key) y RE (fun (_ : Unit) W => Q W) := fun s S a b c ra rb rc => by
  cases ra; cases rb
  obtain ⟨vs, hd, hkv⟩ := S.at hi
  refine wpAny_setItem_pairs (knd := intKind C.G.prog C.G.w) (k := key) (intKind_is _ _ _ _) hd (fun h' hd' hb => ?_) (by rw [hkv.length]; exact hz)
  have hdN : d ∈ X.N := List.mem_map.mpr ⟨_, List.mem_of_getElem? hi, rfl⟩
  have kk : ∀ (b : Addr) (o : Obj), s.heap.get? b = some o → SeqObj o → b ∉ X.N → h'.get? b = some o ∧ b ∉ X.N := fun b o e _ n => ⟨hb.extBut b o (fun q => n (q ▸ hdN)) e, n⟩
  exact ⟨(), _, q, ⟨S.H.write (mo' := .dI (stI kvs key y)) hi hb ⟨_, hd', (hkv.map kk).stored (rc.map kk)⟩, S.gens, S.os⟩, rfl, Mono.write hi hb⟩
theorem setS {kvs : List (Str × V)} {d : Addr} {key : Str} {y : V} {Q : AS → Prop} (k : Nat) (hi : X.mem[k]? = some (d, .dS kvs)) (hz : kvs.length ≤ sizeLine) (q : Q { X with mem := X.mem.set k (d, .dS (stI kvs key y)) }) : Op3 C X setItem (.raw (.ref d)) (.str key) y RE (fun (_ : Unit) W => Q W) := fun s S a b c ra rb rc => by
  cases ra; cases rb
  obtain ⟨vs, hd, hkv⟩ := S.at hi
  refine wpAny_setItem_pairs (knd := strKind C.G.prog C.G.w) (k := key) (strKind_is _ _ _ _) hd (fun h' hd' hb => ?_) (by rw [hkv.length]; exact hz)
  have hdN : d ∈ X.N := List.mem_map.mpr ⟨_, List.mem_of_getElem? hi, rfl⟩
  have kk : ∀ (b : Addr) (o : Obj), s.heap.get? b = some o → SeqObj o → b ∉ X.N → h'.get? b = some o ∧ b ∉ X.N := fun b o e _ n => ⟨hb.extBut b o (fun q => n (q ▸ hdN)) e, n⟩
  exact ⟨(), _, q, ⟨S.H.write (mo' := .dS (stI kvs key y)) hi hb ⟨_, hd', (hkv.map kk).stored (rc.map kk)⟩, S.gens, S.os⟩, rfl, Mono.write hi hb⟩
theorem sortedHeap_ext {h : Heap} {a : Addr} {vs : List Value} {out : Array Value} {n : Nat} (ho : h.get? a = some (seqObj "list" vs.toArray n)) :
    (∀ b o, b ≠ a → h.get? b = some o → (sortedHeap h a vs out).get? b = some o) ∧ ∃ c, (sortedHeap h a vs out).get? a = some (seqObj "list" out c) := by
  have e0 := get?_update_seq ho fun _ => (#[] : Array Value)
  refine ⟨fun b o hb e => ?_, ?_⟩
  · unfold sortedHeap
    rw [Heap.get?_update_ne _ _ _ _ hb]
    exact Heap.get?_push_of_some _ (Heap.get?_push_of_some _ ((Heap.get?_update_ne _ _ _ _ hb).trans e))
  · unfold sortedHeap
    exact ⟨_, get?_update_seq (Heap.get?_push_of_some _ (Heap.get?_push_of_some _ e0)) fun _ => out⟩
theorem intKind_inv {prog : Program} {w : World} {k : Int} {v : Value} (h : (intKind prog w).is k v = true) : ∃ t, v = .int k t := by
  have h' : Value.isInt k v = true := h
  cases v <;> simp [Value.isInt] at h'
  subst h'
  exact ⟨_, rfl⟩
theorem KV.keys {K : Type} {h : Heap} {N : List Addr} {vs : List (K × Value)} {l : List (K × V)} (r : KV h N vs l) : vs.map (·.1) = l.map (·.1) := by
  induction l generalizing vs with
  | nil => rw [r.nil_inv]; rfl
  | cons e l ih => obtain ⟨v, ws, hv, _, r⟩ := r.inv; rw [hv]; exact congrArg (e.1 :: ·) (ih r)
theorem ints_of : ∀ {vs : List Value} {ks : List Int}, vs.length = ks.length → (∀ (j : Nat) (v : Value), vs[j]? = some v → ∃ k, ks[j]? = some k ∧ ∃ t, v = .int k t) → IntsAre vs ks
  | vs, ks, hl, h => by
    induction vs generalizing ks with
    | nil => cases ks with | nil => exact .nil | cons _ _ => cases hl
    | cons v vs ih =>
      cases ks with
      | nil => cases hl
      | cons k ks =>
        obtain ⟨k', e, t, rfl⟩ := h 0 v rfl
        cases e
        exact .cons k t (ih _ (Nat.succ.inj hl) fun j v e => h (j + 1) v e)
theorem OpL.sortedD {kvs : List (Int × V)} {d : Addr} (k : Nat) (hi : X.mem[k]? = some (d, .dI kvs)) (h64 : kvs.length < 64) (q : ∀ ns' : List Int, ns'.Perm (kvs.map (·.1)) → ns'.Pairwise (· ≤ ·) → Q (.lst (ns'.map .int)) X) : OpL C X (fun vs => PySem.call (.builtin "sorted") vs) [.raw (.ref d)] RV Q := fun s S vs r => by
  obtain ⟨_, _, ⟨⟩, r1, r2⟩ := r
  ·
    cases r1; cases r2
    obtain ⟨xs, hd, hkv⟩ := S.at hi
    obtain ⟨m, hs, F, N⟩ := S.fr
    obtain ⟨ep, hat⟩ := hd.dictAt
    have hlen := hkv.length
    refine kdu_sorted (kdl_dict (knd := intKind C.G.prog C.G.w) (kvs := xs) (ep := ep) (not_sys S hi)) S.hand F N hat (by rw [sizeLine_eq]; omega) fun D h' tk vs F' N' hlt hl hv => ?_
    have hI : IntsAre vs (kvs.map (·.1)) := by
      refine ints_of (by rw [hl, List.length_map, hlen]) fun j v e => ?_
      obtain ⟨k', x, e', hk'⟩ := hv j v e
      obtain ⟨t, rfl⟩ := intKind_inv hk'
      refine ⟨k', ?_, t, rfl⟩
      have := hkv.keys
      rw [← this, List.getElem?_map, e']; rfl
    have hD := N' (D, listOf vs.toArray 0) (List.mem_cons_self ..)
    refine wpAny_call_entry PyProof.Rows.slot_list_sort ⟨_, hD.1, rfl⟩ PyProof.Rows.entry_list_sort (list_sort_tree (n := 0) (vs := vs) (ns := kvs.map (·.1)) hD.1 hI (by rw [hl, hlen]; exact h64) fun out ns' hO hp ho => ⟨.none, rfl, ?_⟩) (PyProof.Rows.args_list_sort _)
    obtain ⟨ext, c, hDo⟩ := sortedHeap_ext (out := out) hD.1
    have hDn : ∀ b o, s.heap.get? b = some o → b ≠ C.env.locals → b ≠ D := fun b o e hL x => by
      subst x; exact absurd (hlt (b, o) (mem_all0.mpr ⟨e, hL⟩)) (Nat.lt_irrefl _)
    have kL : ∀ b o, b ≠ C.env.locals → s.heap.get? b = some o → (sortedHeap h' D vs out).get? b = some o := fun b o hL e => ext b o (hDn b o e hL) (N' (b, o) (List.mem_cons_of_mem _ (mem_all0.mpr ⟨e, hL⟩))).1
    have nsL : (sortedHeap h' D vs out).Ns C.env.locals m := by
      obtain ⟨o, es, ep, e, r⟩ := F'.ns
      exact ⟨o, es, ep, ext _ _ (fun x => hD.2.1 x.symm) e, r⟩
    have H := S.H.keepsL hs nsL kL
    have hDX : D ∉ X.N := fun hm => by
      have hm' : D ∈ muts C X := List.mem_cons_of_mem _ (List.mem_append_right _ hm)
      obtain ⟨o, eo⟩ := S.H.live D hm'
      exact hDn D o eo hD.2.1 rfl
    exact ⟨_, X, q ns' hp ho, ⟨H, S.gens, S.os⟩, .lst (vs := out.toList) (by simpa [seqObj] using hDo) hDX (RepL.ofInts hO), fun b o e n => ⟨kL b o (fun x => n (x ▸ List.mem_cons_self ..)) e, n⟩⟩
end
end
section
set_option backward.match.sparseCases false
inductive IsAttr (C : Cx) (y : V) (name : Str) (v : V) : Prop where
  | mk (x K : Addr) (f : Str → Option Value) (w : Value) (at_ : Option Value) : y = .raw (.ref x) → v = .raw w → Inst C x K f → f name = some w → plainGet C.G.K K name = true → hasDictIn C.G.K K = true → findIn C.G.K (.ref K) name = some at_ → noGet C.G.K at_ = true → handedIn w = true → IsAttr C y name v
theorem Ev.att {C : Cx} {X : AS} {Q : V → AS → Prop} {o : Expr} {name : Str} {pos : Pos} (h : Ev C X o (fun y Y => ∃ v, IsAttr C y name v ∧ Q v Y)) (hbase : attributeBase o name C.env (eval o C.env) = eval o C.env) : Ev C X (.Attribute o name pos) Q := fun s S => by
  rw [arm_eval_Attribute, hbase]
  refine wpAny_bind (h.run S fun a y Y s1 q S1 r m => wpAny_bind (wpAny_standAt ?_))
  obtain ⟨v, ⟨x, K, f, w, at_, rfl, rfl, hI, hf, hg, hh, ha, hn, hv⟩, q⟩ := q
  cases r
  obtain ⟨dx, es, n, I, hL⟩ := hI.at S1
  refine wpAny_bind (wpAny_holding (get_value S1.K I (plainGet_of hg).1 (findObj_own hh ha hn ((hL name).trans (by rw [hf]))) hv ?_))
  exact wpAny_bind (wpAny_letTemporaryGo (wpAny_pure (good_trans m (fin_tk S1 (.raw w) q))))
inductive It where
  | ev (e : Expr) | tr (e : Expr) | tb | nt
  | bin (op : Operator) | cmp (op : CmpOp) | un (op : UnaryOp) | sub (e i : Expr) | set
  | ifx (b o : Expr) | anv (r : List Expr) (p : Pos) | orv (r : List Expr) (p : Pos) | ant (r : List Expr) (p : Pos) | ort (r : List Expr) (p : Pos)
  | tup (n : Nat) | lst (n : Nat) | mls (n : Nat) | call (f : Value) (n : Nat) | meth (name : Str) (p : Pos) (args : List Expr) | att (name : Str)
  | st (s : Stmt) | bl (s : List Stmt) | ret | drop | asg (t : Expr) | bnd (ns : List Str) | ife (b o : List Stmt)
noncomputable def takeK : Nat → List V → List V → (List V → List V → Prop) → Prop
  | 0, vs, acc, k => k acc vs
  | n + 1, v :: vs, acc, k => takeK n vs (v :: acc) k
  | _ + 1, [], _, _ => False
noncomputable abbrev asI (v : V) (f : Int → Prop) (d : Prop) : Prop := match v with | .int i => f i | _ => d
noncomputable abbrev asB (v : V) (f : Bool → Prop) (d : Prop) : Prop := match v with | .bool i => f i | _ => d
noncomputable abbrev asT (v : V) (f : List V → Prop) (d : Prop) : Prop := match v with | .tup i => f i | _ => d
noncomputable abbrev pop (vs : List V) (f : V → List V → Prop) : Prop := match vs with | v :: vs => f v vs | [] => False
noncomputable abbrev Kv (f : List V → AS → Prop) (vs : List V) : V → AS → Prop := fun v Y => f (v :: vs) Y
noncomputable abbrev Kb (f : List V → AS → Prop) (vs : List V) : Bool → AS → Prop := fun b Y => f (.bool b :: vs) Y
noncomputable abbrev itK (C : Cx) (Q : Fl → AS → Prop) (i : It) (ih : List V → AS → Prop) (vs : List V) (X : AS) : Prop := match i with
  | .ev e => Ev C X e (Kv ih vs)
  | .tr e => Tr C X e (Kb ih vs)
  | .tb => pop vs fun v vs => ∃ b, v = .bool b ∧ ih (.bool b :: vs) X
  | .nt => pop vs fun v vs => asB v (fun b => ih (.bool (!b) :: vs) X) False
  | .bin op => pop vs fun y vs => pop vs fun x vs => Op2 C X (binaryOp op) x y RV (Kv ih vs)
  | .cmp op => pop vs fun y vs => pop vs fun x vs => Op2 C X (compareOp op) x y RV (Kv ih vs)
  | .un op => pop vs fun x vs => Op1 C X (unaryOp op) x RV (Kv ih vs)
  | .sub e i => pop vs fun y vs => pop vs fun x vs => Op2 C X (subscriptTail e i) x y RV (Kv ih vs)
  | .set => pop vs fun y vs => pop vs fun x vs => pop vs fun v vs => Op3 C X setItem x y v RE (fun (_ : Unit) Y => ih vs Y)
  | .ifx b o => pop vs fun v vs => asB v (fun c => if c = true then Ev C X b (Kv ih vs) else Ev C X o (Kv ih vs)) False
  | .anv r p => pop vs fun v vs => asB v (fun c => if c = true then Ev C X (.BoolOp .And r p) (Kv ih vs) else ih (.bool false :: vs) X) False
  | .orv r p => pop vs fun v vs => asB v (fun c => if c = true then ih (.bool true :: vs) X else Ev C X (.BoolOp .Or r p) (Kv ih vs)) False
  | .ant r p => pop vs fun v vs => asB v (fun c => if c = true then Tr C X (.BoolOp .And r p) (Kb ih vs) else ih (.bool false :: vs) X) False
  | .ort r p => pop vs fun v vs => asB v (fun c => if c = true then ih (.bool true :: vs) X else Tr C X (.BoolOp .Or r p) (Kb ih vs)) False
  | .tup n => takeK n vs [] fun l vs => l.length ≤ sizeLine ∧ ih (.tup l :: vs) X
  | .lst n => takeK n vs [] fun l vs => l.length ≤ sizeLine ∧ ih (.lst l :: vs) X
  | .mls n => takeK n vs [] fun l vs => l.length ≤ sizeLine ∧ ∀ a, ih (.raw (.ref a) :: vs) { X with mem := (a, .lst l) :: X.mem }
  | .call f n => takeK n vs [] fun l vs => OpL C X (fun us => PySem.call f us) l RV (Kv ih vs)
  | .meth name p args => pop vs fun y vs => ∃ f, IsMeth C X y name f ∧ EvL C X p args (fun l Z => OpL C Z (fun us => PySem.call f us) (y :: l) RV (Kv ih vs))
  | .att name => pop vs fun y vs => ∃ v, IsAttr C y name v ∧ ih (v :: vs) X
  | .st s => Ex C X s (NextK (ih vs) Q)
  | .bl s => Exs C X s (NextK (ih vs) Q)
  | .ret => pop vs fun v _ => Q (.ret v) X
  | .drop => pop vs fun v vs => NonRef v ∧ ih vs X
  | .asg t => pop vs fun v vs => As C X t v (ih vs)
  | .bnd ns => pop vs fun v vs => ∃ l, v = .tup l ∧ l.length = ns.length ∧ BindL C X ns.reverse l.reverse (ih vs)
  | .ife b o => pop vs fun v vs => asB v (fun c => if c = true then Exs C X b (NextK (ih vs) Q) else Exs C X o (NextK (ih vs) Q)) False
noncomputable abbrev K (C : Cx) (Q : Fl → AS → Prop) : List It → List V → AS → Prop
  | [], vs, X => match vs with | [] => Q .next X | v :: _ => Q (.ret v) X
  | i :: k, vs, X => itK C Q i (K C Q k) vs X
noncomputable def kd (e : Expr) : Nat := match e with
  | .Starred .. => 1
  | .BoolOp .. => 2
  | .IfExp .. => 3
  | .Compare .. => 4
  | .UnaryOp .. => 5
  | .ListComp .. => 6
  | .SetComp .. => 6
  | .DictComp .. => 6
  | .Tuple .. => 7
  | .List .. => 7
  | .Name .. => 8
  | .Subscript .. => 9
  | .Attribute .. => 10
  | .Slice .. => 11
  | _ => 0
noncomputable def noStar : List Expr → Bool
  | [] => true
  | e :: r => !(kd e).beq 1 && noStar r
noncomputable def plainTr (e : Expr) : Bool := !(Nat.ble 2 (kd e) && Nat.ble (kd e) 5)
noncomputable def notComp (e : Expr) : Bool := !(kd e).beq 6
noncomputable def baseOk (e : Expr) : Bool := (kd e).beq 8 || (kd e).beq 10 || (match e with | .Call _ args _ _ => !args.isEmpty | _ => false)
noncomputable def notSl (e : Expr) : Bool := !(kd e).beq 11
noncomputable abbrev evs : List Expr → List It → List It
  | [], k => k
  | e :: r, k => .ev e :: evs r k
noncomputable abbrev asgs : List Expr → List It → List It
  | [], k => k
  | e :: r, k => .asg e :: asgs r k
noncomputable def cB (c : Bool) (a b : Prop) : Prop := match c with | true => a | false => b
noncomputable def lookS : List Sl → Str → (V → Prop) → Prop → Prop → Prop
  | [], _, _, d, _ => d
  | ⟨y, _, ov⟩ :: r, x, k, d, u => cB (y == x) (match ov with | some v => k v | none => u) (lookS r x k d u)
noncomputable def kC (C : Cx) (x : Str) (f d : Prop) : Prop := match C.env.kindOf x with | some k => (match k with | .cell => f | _ => d) | none => d
noncomputable def putF : List Sl → Str → V → List Sl
  | [], _, _ => []
  | ⟨y, c, ov⟩ :: r, x, v => match y == x with | true => ⟨y, c, some v⟩ :: r | false => ⟨y, c, ov⟩ :: putF r x v
noncomputable def putS (C : Cx) : List Sl → Str → Prop → Prop → Prop
  | [], _, _, d => d
  | ⟨y, c, _⟩ :: r, x, k, d => cB (y == x) (match c with | none => k | some c => kC C x (c ∈ C.cells ∧ k) d) (putS C r x k d)
noncomputable def putsS (C : Cx) : List Str → List V → List Sl → (List Sl → Prop) → Prop → Prop
  | [], _, ρ, k, _ => k ρ
  | x :: ns, v :: l, ρ, k, d => putS C ρ x (putsS C ns l (putF ρ x v) k d) d
  | _ :: _, [], _, _, d => d
noncomputable def lookF {α : Type} : List (Str × α) → Str → (α → Prop) → Prop → Prop
  | [], _, _, d => d
  | (y, v) :: r, x, k, d => cB (y == x) (k v) (lookF r x k d)
noncomputable def appK : List V → List V → (List V → Prop) → Prop
  | [], vs, k => k vs
  | v :: l, vs, k => appK l vs (fun r => k (v :: r))
noncomputable def getK : List V → Nat → (V → Prop) → Prop → Prop
  | [], _, _, d => d
  | v :: _, 0, k, _ => k v
  | _ :: l, n + 1, k, d => getK l n k d
noncomputable def fnG : List (Str × Addr) := [("range_of", 28), ("least", 35), ("greatest", 42), ("within_figures", 139), ("is_made", 149), ("is_truth", 156), ("sum_of", 163), ("plus", 168), ("contrary", 175), ("common_of", 182), ("Flat", 128), ("Functions", 416), ("_law_draw", 425), ("_law_rows", 430), ("_law_domain", 437), ("_law_number", 444), ("_law_worth", 451), ("_law_is_ahead", 458), ("_law_holds", 463), ("_law_speaks_of", 470), ("_law_known", 475), ("_law_is_pair_right", 480)]
noncomputable def fnB : List (Str × Value) := [("isinstance", .builtin "isinstance"), ("len", .builtin "len"), ("abs", .builtin "abs"), ("max", .builtin "max"), ("min", .builtin "min"), ("sorted", .builtin "sorted"), ("sum", .builtin "sum"), ("all", .builtin "all"), ("tuple", .type "tuple"), ("bool", .type "bool"), ("int", .type "int"), ("dict", .type "dict"), ("list", .type "list"), ("set", .type "set"), ("range", .type "range"), ("zip", .type "zip")]
noncomputable def kG (C : Cx) (x : Str) (f d : Prop) : Prop := match C.env.kindOf x with | some k => (match k with | .globalImplicit => f | _ => d) | none => d
noncomputable def glb (C : Cx) (x : Str) (k : Value → Prop) (d : Prop) : Prop :=
  lookF fnB x (fun v => kG C x (k v) d) (lookF fnG x (fun a => kG C x (k (.ref a)) d) d)
set_option backward.match.sparseCases true in
noncomputable def swF (ts vs : List Expr) (env : Env) : Option (Option (List Str)) :=
  if !(ts.length == 2 || ts.length == 3) || vs.length != ts.length || env.blockKind != .function then some none else
  if vs.any fun | .Starred .. => true | _ => false then some none else
  let line := (ts.head?.map (·.pos.line)).getD 0
  let names := ts.filterMap fun
    | .Name id pos => if env.kindOf id == some .local && pos.line == line then some id else none
    | _ => none
  if names.length != ts.length || names.eraseDups.length != names.length then some none else
  if vs.all (foldedForSure 8) then some none else
  if vs.all (constantsAlone 8) then none else some (some names)
noncomputable def swG (o : Option (Option (List Str))) (q0 : Prop) (q1 : List Str → Prop) (d : Prop) : Prop := match o with | none => d | some o => (match o with | none => q0 | some ns => q1 ns)
noncomputable def rnG (t e : Expr) (env : Env) (q0 : Prop) (q1 : List Str → Prop) (d : Prop) : Prop := match t with
  | .Name .. => cB (notComp e) q0 d
  | .Subscript .. => cB (notComp e) q0 d
  | .Attribute .. => cB (notComp e) q0 d
  | .Tuple ts _ _ => (match e with
    | .Tuple es _ _ => swG (swF ts es env) q0 q1 d
    | .Call .. => q0
    | .Name .. => q0
    | .Subscript .. => q0
    | _ => d)
  | _ => d
noncomputable def one {α : Type} (l : List α) (f : α → Prop) (d : Prop) : Prop := match l with | [] => d | x :: r => (match r with | [] => f x | _ :: _ => d)
noncomputable def rnK (c : Const) (f : V → Prop) (d : Prop) : Prop := match c with
  | .int i => f (.int i)
  | .str i => f (.str i)
  | .bool i => f (.bool i)
  | .none => f .none
  | _ => d
noncomputable def rnF (f : Expr) (C : Cx) (args : List Expr) (pos : Pos) (k : List It) (vs : List V) (X : AS) (R : List It → List V → AS → Prop) (d : Prop) : Prop := match f with
  | .Name f _ => cB (noStar args) (glb C f (fun v => R (evs args (.call v args.length :: k)) vs X) d) d
  | .Attribute o name p => cB (noStar args && decide (args.length < 29) && (p.endLine == pos.line) && baseOk o) (R (.ev o :: .meth name pos args :: k) vs X) d
  | _ => d
noncomputable def rnB (es : List Expr) (f : Expr → Prop) (g : Expr → Expr → List Expr → Prop) (d : Prop) : Prop := match es with
  | [] => d
  | e :: r => (match r with | [] => f e | e' :: r => g e e' r)
noncomputable def rnE (e : Expr) (C : Cx) (k : List It) (vs : List V) (X : AS) (R : List It → List V → AS → Prop) (d : Prop) : Prop := match e with
  | .Name x _ => lookS X.ρ x (fun v => cB (x == ("__debug__" : Str)) d (R k (v :: vs) X)) (glb C x (fun v => match v with | .type _ => R k (.raw v :: vs) X | _ => d) d) d
  | .Constant c _ _ => rnK c (fun v => R k (v :: vs) X) d
  | .BinOp l op r _ => R (.ev l :: .ev r :: .bin op :: k) vs X
  | .Compare l ops rs _ => one ops (fun op => one rs (fun r => cB (behindInMarks op r) d (R (.ev l :: .ev r :: .cmp op :: k) vs X)) d) d
  | .Subscript e i _ => R (.ev e :: .ev i :: .sub e i :: k) vs X
  | .Tuple es _ _ => cB (noStar es) (R (evs es (.tup es.length :: k)) vs X) d
  | .IfExp t b o _ => R (.tr t :: .ifx b o :: k) vs X
  | .BoolOp op es p => rnB es (fun e => R (.ev e :: k) vs X) (fun e e' r => match op with
    | .And => R (.ev e :: .tb :: .anv (e' :: r) p :: k) vs X
    | .Or => R (.ev e :: .tb :: .orv (e' :: r) p :: k) vs X) d
  | .UnaryOp op e _ => R (.ev e :: .un op :: k) vs X
  | .Attribute o name _ => cB (baseOk o) (R (.ev o :: .att name :: k) vs X) d
  | .Call f args ks pos => (match ks with | [] => rnF f C args pos k vs X R d | _ :: _ => d)
  | _ => d
noncomputable def rnT (e : Expr) (k : List It) (vs : List V) (X : AS) (R : List It → List V → AS → Prop) (d : Prop) : Prop := match e with
  | .BoolOp op es p => (match op with
    | .And => (match es with | [] => R k (.bool true :: vs) X | e :: r => R (.tr e :: .ant r p :: k) vs X)
    | .Or => (match es with | [] => R k (.bool false :: vs) X | e :: r => R (.tr e :: .ort r p :: k) vs X))
  | .UnaryOp op x p => (match op with | .Not => R (.tr x :: .nt :: k) vs X | _ => d)
  | .Compare l ops rs _ => one ops (fun op => one rs (fun r => cB (behindInMarks op r) d (R (.ev l :: .ev r :: .cmp op :: .tb :: k) vs X)) d) d
  | e => cB (plainTr e) (R (.ev e :: .tb :: k) vs X) d
noncomputable def rnS (s : Stmt) (C : Cx) (k : List It) (vs : List V) (X : AS) (R : List It → List V → AS → Prop) (q0 d : Prop) : Prop := match s with
  | .If t b o _ => R (.tr t :: .ife b o :: k) vs X
  | .Return e _ => (match e with | some e => R [.ev e, .ret] vs X | none => q0)
  | .Expr e _ => cB (notComp e && !interactive C.env) (R (.ev e :: .drop :: k) vs X) d
  | .Assign ts e _ => one ts (fun t => rnG t e C.env (R (.ev e :: .asg t :: k) vs X) (fun ns => R (.ev e :: .bnd ns :: k) vs X) d) d
  | _ => d
noncomputable def rnM (X : AS) (x : Str) (v : V) (f : AS → Prop) : Prop := match X with | ⟨ρ, m⟩ => f ⟨putF ρ x v, m⟩
noncomputable def rnN (X : AS) (ρ : List Sl) (f : AS → Prop) : Prop := match X with | ⟨_, m⟩ => f ⟨ρ, m⟩
noncomputable def rnL (X : AS) (l : List V) (f : List V → AS → Prop) (us : List V) : Prop := match X with | ⟨ρ, m⟩ => ∀ a, f (.raw (.ref a) :: us) ⟨ρ, (a, .lst l) :: m⟩
noncomputable def rnA (C : Cx) (t : Expr) (k : List It) (v : V) (vs : List V) (X : AS) (R : List It → List V → AS → Prop) (d : Prop) : Prop := match t with
  | .Name x _ => putS C X.ρ x (rnM X x v (R k vs)) d
  | .Tuple ts _ _ => asT v (fun l => cB (noStar ts && ts.length == l.length) (appK l vs fun us => R (asgs ts k) us X) d) d
  | .Subscript e i _ => R (.ev e :: .ev i :: .set :: k) (v :: vs) X
  | _ => d
noncomputable def rnO (op : Operator) (x y : V) (k : V → Prop) (d : Prop) : Prop := asI x (fun i => asI y (fun j => match op with
  | .Add => k (.int (i + j))
  | .Sub => k (.int (i - j))
  | _ => d) d) d
noncomputable def rnC (op : CmpOp) (x y : V) (k : V → Prop) (d : Prop) : Prop := asI x (fun i => asI y (fun j => match op with
  | .Lt => k (.bool (decide (i < j)))
  | .LtE => k (.bool (decide (i ≤ j)))
  | .Gt => k (.bool (decide (i > j)))
  | .GtE => k (.bool (decide (i ≥ j)))
  | .Eq => k (.bool (i == j))
  | .NotEq => k (.bool (i != j))
  | _ => d) d) d
noncomputable def rnX (i : Int) (f : Nat → Prop) (d : Prop) : Prop := match i with | .ofNat n => f n | .negSucc _ => d
noncomputable def rnD (v : V) (f d : Prop) : Prop := match v with | .none => f | .bool _ => f | .int _ => f | .str _ => f | _ => d
noncomputable def rnI (C : Cx) (Q : Fl → AS → Prop) (i : It) (k : List It) (vs : List V) (X : AS) (R : List It → List V → AS → Prop) : Prop := match i with
  | .ev e => rnE e C k vs X R (Ev C X e (Kv (K C Q k) vs))
  | .tr e => rnT e k vs X R (Tr C X e (Kb (K C Q k) vs))
  | .tb => pop vs fun v us => asB v (fun b => R k (.bool b :: us) X) (K C Q (.tb :: k) vs X)
  | .nt => pop vs fun v us => asB v (fun b => R k (.bool (!b) :: us) X) False
  | .bin op => pop vs fun y us => pop us fun x us => rnO op x y (fun v => R k (v :: us) X) (Op2 C X (binaryOp op) x y RV (Kv (K C Q k) us))
  | .cmp op => pop vs fun y us => pop us fun x us => rnC op x y (fun v => R k (v :: us) X) (Op2 C X (compareOp op) x y RV (Kv (K C Q k) us))
  | .sub e ix => pop vs fun y us => pop us fun x us => asT x (fun l => asI y (fun i => rnX i (fun n => cB (notSl ix && Nat.ble n 100) (getK l n (fun v => R k (v :: us) X) (Op2 C X (subscriptTail e ix) x y RV (Kv (K C Q k) us))) (Op2 C X (subscriptTail e ix) x y RV (Kv (K C Q k) us)))
      (Op2 C X (subscriptTail e ix) x y RV (Kv (K C Q k) us))) (Op2 C X (subscriptTail e ix) x y RV (Kv (K C Q k) us))) (Op2 C X (subscriptTail e ix) x y RV (Kv (K C Q k) us))
  | .ifx b o => pop vs fun v us => asB v (fun c => cB c (R (.ev b :: k) us X) (R (.ev o :: k) us X)) False
  | .anv r p => pop vs fun v us => asB v (fun c => cB c (R (.ev (.BoolOp .And r p) :: k) us X) (R k (.bool false :: us) X)) False
  | .orv r p => pop vs fun v us => asB v (fun c => cB c (R k (.bool true :: us) X) (R (.ev (.BoolOp .Or r p) :: k) us X)) False
  | .ant r p => pop vs fun v us => asB v (fun c => cB c (R (.tr (.BoolOp .And r p) :: k) us X) (R k (.bool false :: us) X)) False
  | .ort r p => pop vs fun v us => asB v (fun c => cB c (R k (.bool true :: us) X) (R (.tr (.BoolOp .Or r p) :: k) us X)) False
  | .tup n => cB (Nat.ble n 60) (takeK n vs [] fun l us => R k (.tup l :: us) X) (K C Q (.tup n :: k) vs X)
  | .lst n => cB (Nat.ble n 60) (takeK n vs [] fun l us => R k (.lst l :: us) X) (K C Q (.lst n :: k) vs X)
  | .mls n => cB (Nat.ble n 60) (takeK n vs [] fun l us => rnL X l (R k) us) (K C Q (.mls n :: k) vs X)
  | .st s => rnS s C k vs X R (Q (.ret .none) X) (Ex C X s (NextK (K C Q k vs) Q))
  | .bl s => (match s with | [] => R k vs X | s :: r => R (.st s :: .bl r :: k) vs X)
  | .drop => pop vs fun v us => rnD v (R k us X) (K C Q (.drop :: k) vs X)
  | .asg t => pop vs fun v us => rnA C t k v us X R (As C X t v (K C Q k us))
  | .bnd ns => pop vs fun v us => asT v (fun l => cB (l.length == ns.length) (putsS C ns.reverse l.reverse X.ρ (fun ρ => rnN X ρ (R k us)) (K C Q (.bnd ns :: k) vs X)) (K C Q (.bnd ns :: k) vs X)) (K C Q (.bnd ns :: k) vs X)
  | .ife b o => pop vs fun v us => asB v (fun c => cB c (R (.bl b :: k) us X) (R (.bl o :: k) us X)) False
  | i => K C Q (i :: k) vs X
noncomputable def W : Nat → (C : Cx) → (Q : Fl → AS → Prop) → List It → List V → AS → Prop
  | 0, C, Q, k, vs, X => K C Q k vs X
  | _ + 1, C, Q, [], vs, X => K C Q [] vs X
  | n + 1, C, Q, i :: k, vs, X => rnI C Q i k vs X (W n C Q)
end
section
theorem takeK_mono {k k' : List V → List V → Prop} : ∀ (n : Nat) (vs acc : List V), (∀ l vs, l.length = acc.length + n → k l vs → k' l vs) → takeK n vs acc k → takeK n vs acc k'
  | 0, _, _, h, q => h _ _ rfl q
  | n + 1, v :: vs, acc, h, q => takeK_mono n vs (v :: acc) (fun l vs e => h l vs (by rw [e, List.length_cons]; omega)) q
theorem takeK_app {k : List V → List V → Prop} : ∀ (l vs acc : List V), takeK l.length (l ++ vs) acc k = k (l.reverse ++ acc) vs
  | [], _, _ => rfl
  | v :: l, vs, acc => by rw [List.reverse_cons, List.append_assoc]; exact takeK_app l vs (v :: acc)
theorem star_cons {e : Expr} {r : List Expr} {env : Env} (h : noStar (e :: r) = true) : starEach (e :: r) env = (false, eval e env) :: starEach r env ∧ noStar r = true := by
  have h : (_ && noStar r) = true := h
  rw [Bool.and_eq_true] at h
  refine ⟨?_, h.2⟩
  cases e <;> first | rfl | exact absurd h.1 Bool.false_ne_true
theorem asn_cons {e : Expr} {r : List Expr} {env : Env} (h : noStar (e :: r) = true) : assignEach (e :: r) env = (false, assign e env) :: assignEach r env ∧ noStar r = true := by
  have h : (_ && noStar r) = true := h
  rw [Bool.and_eq_true] at h
  refine ⟨?_, h.2⟩
  cases e <;> first | rfl | exact absurd h.1 Bool.false_ne_true
theorem star_any {pos : Pos} {env : Env} : ∀ {es : List Expr}, noStar es = true → (backTo pos (starEach es env)).any (·.1) = false
  | [], _ => rfl
  | e :: r, h => by have a := star_cons (env := env) h; rw [a.1]; exact star_any a.2
theorem asn_find {env : Env} : ∀ {es : List Expr}, noStar es = true → (assignEach es env).findIdx? (·.1) = none
  | [], _ => rfl
  | e :: r, h => by have a := asn_cons (env := env) h; rw [a.1, List.findIdx?_cons, asn_find a.2]; rfl
theorem asn_len {env : Env} : ∀ {es : List Expr}, noStar es = true → (assignEach es env).length = es.length
  | [], _ => rfl
  | e :: r, h => by have a := asn_cons (env := env) h; rw [a.1, List.length_cons, asn_len a.2]; rfl
section
variable {C : Cx} {X : AS} {Q : Fl → AS → Prop} {k : List It} {vs : List V}
theorem evs_ok {pos : Pos} {F : List V → AS → Prop} {i : It} : ∀ {es : List Expr} {X : AS} (acc : List V), noStar es = true → K C Q (evs es (i :: k)) (acc ++ vs) X →
    (∀ l Z, l.length = es.length + acc.length → K C Q (i :: k) (l ++ vs) Z → F l.reverse Z) → EvL C X pos es (fun l Z => F (acc.reverse ++ l) Z)
  | [], X, acc, _, q, hF => EvL.nil (by rw [List.append_nil]; exact hF acc X (Nat.zero_add _).symm q)
  | e :: r, X, acc, h, q, hF => EvL.cons (TW.mono (show Ev C X e _ from q) fun v Y q => by
      refine TW.mono (evs_ok (pos := pos) (F := F) (v :: acc) (star_cons (env := C.env) h).2 q fun l Z hl => hF l Z (hl.trans (Nat.succ_add_eq_add_succ _ _).symm)) fun l Z q => ?_
      rw [List.reverse_cons, List.append_assoc] at q; exact q) (star_cons h).1
theorem evs0 {pos : Pos} {F : List V → AS → Prop} {i : It} {es : List Expr} (h : noStar es = true) (q : K C Q (evs es (i :: k)) vs X) (hF : ∀ l Z, l.length = es.length → K C Q (i :: k) (l ++ vs) Z → F l.reverse Z) : EvL C X pos es F :=
  evs_ok (F := F) [] h q hF
theorem k_tup {pos : Pos} {m : Nat} {es : List Expr} (h : noStar es = true) (q : K C Q (evs es (.tup es.length :: k)) vs X) : Ev C X (.Tuple es m pos) (Kv (K C Q k) vs) :=
  Ev.tup (evs0 h q fun l Z hl q => by
    have q : takeK es.length (l ++ vs) [] _ := q
    rw [← hl, takeK_app, List.append_nil] at q; exact q)
theorem k_lst {pos : Pos} {es : List Expr} (h : noStar es = true) (q : K C Q (evs es (.lst es.length :: k)) vs X) : EvL C X pos es (fun l Y => l.length ≤ sizeLine ∧ K C Q k (.lst l :: vs) Y) :=
  evs0 h q fun l Z hl q => by
    have q : takeK es.length (l ++ vs) [] _ := q
    rw [← hl, takeK_app, List.append_nil] at q; exact q
theorem k_mls {pos : Pos} {es : List Expr} (h : noStar es = true) (q : K C Q (evs es (.mls es.length :: k)) vs X) : EvL C X pos es (fun l Y => l.length ≤ sizeLine ∧ ∀ a, K C Q k (.raw (.ref a) :: vs) { Y with mem := (a, .lst l) :: Y.mem }) :=
  evs0 h q fun l Z hl q => by
    have q : takeK es.length (l ++ vs) [] _ := q
    rw [← hl, takeK_app, List.append_nil] at q; exact q
theorem k_call {pos : Pos} {f : Value} {es : List Expr} (h : noStar es = true) (q : K C Q (evs es (.call f es.length :: k)) vs X) : EvL C X pos es (fun l Z => OpL C Z (fun us => PySem.call f us) l RV (Kv (K C Q k) vs)) :=
  evs0 h q fun l Z hl q => by
    have q : takeK es.length (l ++ vs) [] _ := q
    rw [← hl, takeK_app, List.append_nil] at q; exact q
theorem k_callm {pos : Pos} {f : Value} {y : V} {es : List Expr} (h : noStar es = true) (q : K C Q (evs es (.call f (es.length + 1) :: k)) (y :: vs) X) : EvL C X pos es (fun l Z => OpL C Z (fun us => PySem.call f us) (y :: l) RV (Kv (K C Q k) vs)) :=
  evs0 (F := fun l Z => OpL C Z (fun us => PySem.call f us) (y :: l) RV (Kv (K C Q k) vs)) h q fun l Z hl q => by
    have q : takeK (es.length + 1) (l ++ y :: vs) [] _ := q
    rw [← hl, show l.length + 1 = (l ++ [y]).length by rw [List.length_append]; rfl, show l ++ y :: vs = (l ++ [y]) ++ vs by simp, takeK_app, List.append_nil, List.reverse_append] at q; exact q
theorem asgs_ok : ∀ {ts : List Expr} {l : List V} {X : AS}, noStar ts = true → ts.length = l.length → K C Q (asgs ts k) (l ++ vs) X → AsL C X ts l (K C Q k vs)
  | [], [], X, _, _, q => AsL.nil q
  | t :: ts, v :: l, X, h, hl, q => AsL.cons (fun s S a r => (show As C X t v _ from q).run S r fun _ _ g => g.casesOn fun b Y q S' R' m => ⟨b, Y, asgs_ok (asn_cons (env := C.env) h).2 (Nat.succ.inj hl) q, S', R', m⟩) (asn_cons h).1
theorem appK_eq : ∀ {l vs : List V} {f : List V → Prop}, appK l vs f → f (l ++ vs)
  | [], _, _, q => q
  | v :: l, vs, f, q => appK_eq (l := l) (vs := vs) (f := fun r => f (v :: r)) q
theorem eqS {a b : Str} (h : (a == b) = true) : a = b := eq_of_beq h
theorem lookS_ok {k : V → Prop} {d u : Prop} : ∀ {ρ : List Sl} {x : Str}, lookS ρ x k d u → d ∨ u ∨ ∃ c v, At ρ x c v ∧ k v
  | [], _, q => .inl q
  | ⟨y, c, ov⟩ :: r, x, q => by
    have q : cB _ _ _ := q
    cases h : y == x with
    | true =>
      rw [h] at q
      cases eqS h
      cases ov with
      | none => exact .inr (.inl q)
      | some v => exact .inr (.inr ⟨_, _, .head, q⟩)
    | false => rw [h] at q; exact (lookS_ok q).imp id (·.imp id fun ⟨c, v, a, b⟩ => ⟨c, v, .tail a, b⟩)
theorem kC_ok {x : Str} {f d : Prop} (h : kC C x f d) : d ∨ C.env.kindOf x = some .cell ∧ f := by
  unfold kC at h
  cases e : C.env.kindOf x with
  | none => rw [e] at h; exact .inl h
  | some k => rw [e] at h; cases k <;> first | exact .inl h | exact .inr ⟨rfl, h⟩
theorem putS_ok {v : V} {k d : Prop} : ∀ {ρ : List Sl} {x : Str}, putS C ρ x k d → d ∨ (Put ρ x v (putF ρ x v) ∧ k) ∨ ∃ c, PutC ρ x c v (putF ρ x v) ∧ C.env.kindOf x = some .cell ∧ c ∈ C.cells ∧ k
  | [], _, q => .inl q
  | ⟨y, c, ov⟩ :: r, x, q => by
    have q : cB _ _ _ := q
    have e0 : putF (⟨y, c, ov⟩ :: r) x v = (match y == x with | true => ⟨y, c, some v⟩ :: r | false => ⟨y, c, ov⟩ :: putF r x v) := rfl
    rw [e0]
    cases h : y == x with
    | true =>
      rw [h] at q
      cases eqS h
      cases c with
      | none => exact .inr (.inl ⟨.head, q⟩)
      | some c => exact (kC_ok q).imp id fun h => .inr ⟨_, .head, h.1, h.2.1, h.2.2⟩
    | false => rw [h] at q; exact (putS_ok q).imp id (·.imp (fun h => ⟨.tail h.1, h.2⟩) fun ⟨c, a, b⟩ => ⟨_, .tail a, b⟩)
theorem putS_mono {k k' d : Prop} (h : k → k') {ρ : List Sl} {x : Str} (q : putS C ρ x k d) : putS C ρ x k' d := by
  induction ρ with
  | nil => exact q
  | cons e r ih =>
    obtain ⟨y, c, ov⟩ := e
    have q : cB _ _ _ := q
    show cB _ _ _
    cases e : y == x with
    | true =>
      rw [e] at q
      cases c with
      | none => exact h q
      | some c =>
        have q : kC C x _ _ := q
        show kC C x _ _
        unfold kC at q ⊢
        cases e : C.env.kindOf x with
        | none => rw [e] at q; exact q
        | some k => rw [e] at q; cases k <;> first | exact q | exact ⟨q.1, h q.2⟩
    | false => rw [e] at q; exact ih q
theorem putsS_mono {d : Prop} {f g : List Sl → Prop} (h : ∀ ρ, f ρ → g ρ) : ∀ {ns : List Str} {l : List V} {ρ : List Sl}, putsS C ns l ρ f d → putsS C ns l ρ g d
  | [], _, _, q => h _ q
  | n :: ns, v :: l, ρ, q => putS_mono (fun q => putsS_mono h (ns := ns) q) q
  | _ :: _, [], _, q => q
theorem putsS_ok {d : Prop} {Q : AS → Prop} {M : List (Addr × MO)} : ∀ {ns : List Str} {l : List V} {ρ : List Sl} , ns.length = l.length → putsS C ns l ρ (fun ρ' => Q ⟨ρ', M⟩) d → d ∨ BindL C ⟨ρ, M⟩ ns l Q
  | [], [], ρ, _, q => .inr (BindL.nil q)
  | n :: ns, v :: l, ρ, hl, q => by
    rcases putS_ok (v := v) q with q | ⟨a, q⟩ | ⟨c, a, e, m, q⟩
    · exact .inl q
    · exact (putsS_ok (Nat.succ.inj hl) q).imp id fun q => BindL.nm a q
    · exact (putsS_ok (Nat.succ.inj hl) q).imp id fun q => BindL.nmC a m q e
theorem lookF_ok {α : Type} {k : α → Prop} {d : Prop} : ∀ {l : List (Str × α)} {x : Str}, lookF l x k d → d ∨ ∃ v, (x, v) ∈ l ∧ k v
  | [], _, q => .inl q
  | (y, v) :: r, x, q => by
    have q : cB _ _ _ := q
    cases h : y == x with
    | true => rw [h] at q; cases eqS h; exact .inr ⟨v, .head _, q⟩
    | false => rw [h] at q; exact (lookF_ok q).imp id fun ⟨v, a, b⟩ => ⟨v, .tail _ a, b⟩
theorem getK_ok {k : V → Prop} {d : Prop} : ∀ {l : List V} {n : Nat}, getK l n k d → d ∨ ∃ v, l[n]? = some v ∧ k v
  | [], _, q => .inl q
  | v :: _, 0, q => .inr ⟨v, rfl, q⟩
  | _ :: l, n + 1, q => getK_ok (l := l) (n := n) q
theorem tr_plain {e : Expr} {env : Env} (h : plainTr e = true) : isTrue e env (eval e env) = (do let v ← eval e env; standAt e.pos; holding [v] (truthy v)) := by
  cases e with
  | UnaryOp op x p => cases op <;> first | rfl | exact absurd h Bool.false_ne_true
  | _ => first | rfl | exact absurd h Bool.false_ne_true
theorem swp {e : Expr} {t : Option Expr} {n : Nat} {env : Env} (h : notComp e = true) : swapsWith e t n env = pure false := by
  cases e <;> first | rfl | exact absurd h Bool.false_ne_true
noncomputable def isBT : Value → Bool | .builtin _ => true | .type _ => true | _ => false
theorem ifS {α β : Type} {c : Prop} [Decidable c] {a : α} {Y : Option α} {X : β} {r : α} {f : α → β} (hY : Y = some r → X = f r) (h : (if c then some a else Y) = some r) : (if c then f a else X) = f r := by
  by_cases c' : c
  · rw [if_pos c'] at h ⊢; cases h; rfl
  · rw [if_neg c'] at h ⊢; exact hY h
theorem ifN {α β : Type} {c : Prop} [Decidable c] {Y : Option α} {X Z : β} {r : α} {f : α → β} (hY : Y = some r → X = f r) (h : (if c then none else Y) = some r) : (if c then Z else X) = f r := by
  by_cases c' : c
  · rw [if_pos c'] at h; cases h
  · rw [if_neg c'] at h ⊢; exact hY h
theorem sw_swF {ts es : List Expr} {n n' : Nat} {p p' : Pos} {env : Env} {r : Option (List Str)} (h : swF ts es env = some r) : swappedStores [.Tuple ts n p] (.Tuple es n' p') env = pure r :=
  ifS (f := fun r => (pure r : Sem (Option (List Str)))) (ifS (f := fun r => (pure r : Sem (Option (List Str)))) (ifS (f := fun r => (pure r : Sem (Option (List Str)))) (ifS (f := fun r => (pure r : Sem (Option (List Str)))) (ifN (f := fun r => (pure r : Sem (Option (List Str)))) fun h => by cases h; rfl)))) h
theorem isBT_ok {v : Value} (h : isBT v = true) : (∃ id, v = .builtin id) ∨ ∃ n, v = .type n := by
  cases v <;> first | exact .inl ⟨_, rfl⟩ | exact .inr ⟨_, rfl⟩ | exact absurd h Bool.false_ne_true
noncomputable def chG (K : Frag) (p : Str × Addr) : Bool := decide (nsIn K mainGlobals p.1 = some (some (.ref p.2))) && (keepIn K (.ref p.2) && !(p.1 == ("__debug__" : Str)))
noncomputable def chB (K : Frag) (p : Str × Value) : Bool := decide (nsIn K mainGlobals p.1 = some none) && ((decide (bootBuiltins p.1 = some p.2) && isBT p.2) && (!(p.1 == ("__debug__" : Str)) && !(p.1 == ("__name__" : Str))))
theorem chG_all (P : Params) : fnG.all (chG (KF P)) = true := by rfl
theorem chB_all (P : Params) : fnB.all (chB (KF P)) = true := by rfl
theorem chG_ok {K : Frag} {x : Str} {a : Addr} (h : chG K (x, a) = true) : nsIn K mainGlobals x = some (some (.ref a)) ∧ keepIn K (.ref a) = true ∧ (x == ("__debug__" : Str)) = false := by
  have h : (_ && (_ && !_)) = true := h
  rw [Bool.and_eq_true, Bool.and_eq_true, Bool.not_eq_true', decide_eq_true_eq] at h
  exact h
theorem chB_ok {K : Frag} {x : Str} {v : Value} (h : chB K (x, v) = true) : nsIn K mainGlobals x = some none ∧ bootBuiltins x = some v ∧ ((∃ id, v = .builtin id) ∨ ∃ n, v = .type n) ∧ x ≠ "__name__" ∧ (x == ("__debug__" : Str)) = false := by
  have h : (_ && ((_ && _) && (!_ && !_))) = true := h
  rw [Bool.and_eq_true, Bool.and_eq_true, Bool.and_eq_true, Bool.and_eq_true, Bool.not_eq_true', Bool.not_eq_true', decide_eq_true_eq, decide_eq_true_eq] at h
  obtain ⟨h1, ⟨h2, h2'⟩, h3, h4⟩ := h
  exact ⟨h1, h2, isBT_ok h2', ne_of_beq_false h4, h3⟩
theorem fnG_ok (hG : HG C) {x : Str} {a : Addr} (hp : (x, a) ∈ fnG) : nsIn C.G.K mainGlobals x = some (some (.ref a)) ∧ keepIn C.G.K (.ref a) = true ∧ (x == ("__debug__" : Str)) = false :=
  hG ▸ chG_ok (List.all_eq_true.mp (chG_all _) _ hp)
theorem fnB_ok (hG : HG C) {x : Str} {v : Value} (hp : (x, v) ∈ fnB) : nsIn C.G.K mainGlobals x = some none ∧ bootBuiltins x = some v ∧ ((∃ id, v = .builtin id) ∨ ∃ n, v = .type n) ∧ x ≠ "__name__" ∧ (x == ("__debug__" : Str)) = false :=
  hG ▸ chB_ok (List.all_eq_true.mp (chB_all _) _ hp)
end
end
section
section
variable {C : Cx} {X : AS} {Q : Fl → AS → Prop} {k : List It} {vs : List V} {R : List It → List V → AS → Prop} {d : Prop}
theorem cB_ok {c : Bool} {a b : Prop} (h : cB c a b) : (c = true ∧ a) ∨ (c = false ∧ b) := by cases c with | true => exact .inl ⟨rfl, h⟩ | false => exact .inr ⟨rfl, h⟩
theorem asI_ok {v : V} {f : Int → Prop} (h : asI v f d) : d ∨ ∃ i, v = .int i ∧ f i := by cases v <;> first | exact .inl h | exact .inr ⟨_, rfl, h⟩
theorem asT_ok {v : V} {f : List V → Prop} (h : asT v f d) : d ∨ ∃ i, v = .tup i ∧ f i := by cases v <;> first | exact .inl h | exact .inr ⟨_, rfl, h⟩
theorem one_ok {α : Type} {l : List α} {f : α → Prop} (h : one l f d) : d ∨ ∃ x, l = [x] ∧ f x := by
  cases l with
  | nil => exact .inl h
  | cons x r => cases r with
    | nil => exact .inr ⟨_, rfl, h⟩
    | cons y r => exact .inl h
theorem kG_ok {x : Str} {f : Prop} (h : kG C x f d) : d ∨ C.env.kindOf x = some .globalImplicit ∧ f := by
  unfold kG at h
  cases e : C.env.kindOf x with
  | none => rw [e] at h; exact .inl h
  | some k => rw [e] at h; cases k <;> first | exact .inl h | exact .inr ⟨rfl, h⟩
theorem glb_ok {x : Str} {f : Value → Prop} (q : glb C x f d) : d ∨ ∃ v, C.env.kindOf x = some .globalImplicit ∧ ((∃ a, (x, a) ∈ fnG ∧ v = .ref a) ∨ (x, v) ∈ fnB) ∧ f v := by
  rcases lookF_ok q with q | ⟨v, hm, q⟩
  · rcases lookF_ok q with q | ⟨v, hm, q⟩
    · exact .inl q
    · rcases kG_ok q with q | ⟨e, q⟩
      · exact .inl q
      · exact .inr ⟨_, e, .inl ⟨v, hm, rfl⟩, q⟩
  · rcases kG_ok q with q | ⟨e, q⟩
    · exact .inl q
    · exact .inr ⟨_, e, .inr hm, q⟩
theorem call_eval {x : Str} {pp pos : Pos} {args : List Expr} {env : Env} : eval (.Call (.Name x pp) args [] pos) env = (do callWith pos (← eval (.Name x pp) env) [] (backTo pos (starEach args env)) []) := by rfl
theorem glb_call {x : Str} {pp pos : Pos} {args : List Expr} (hG : HG C) {q0 : V → AS → Prop} (hs : noStar args = true) (q : glb C x (fun v => EvL C X pos args (fun l Z => OpL C Z (fun us => PySem.call v us) l RV q0)) d) : d ∨ Ev C X (.Call (.Name x pp) args [] pos) q0 := by
  rcases glb_ok q with q | ⟨v, hk, hm, q⟩
  · exact .inl q
  · rcases hm with ⟨a, hm, rfl⟩ | hm
    · have h := fnG_ok hG hm
      exact .inr (Ev.callG hk h.1 h.2.1 q h.2.2 call_eval (star_any hs))
    · have h := fnB_ok hG hm
      exact .inr (Ev.callB hk h.1 h.2.1 h.2.2.1 q h.2.2.2.1 h.2.2.2.2 call_eval (star_any hs))
theorem glb_name {x : Str} {pos : Pos} (hG : HG C) {q0 : V → AS → Prop} {f : Value → Prop} (hf : ∀ v, f v → d ∨ q0 (.raw v) X) (q : glb C x f d) : d ∨ Ev C X (.Name x pos) q0 := by
  rcases glb_ok q with q | ⟨v, hk, hm, q⟩
  · exact .inl q
  · rcases hf _ q with q | q
    · exact .inl q
    · rcases hm with ⟨a, hm, rfl⟩ | hm
      · have h := fnG_ok hG hm
        exact .inr (Ev.glob hk h.1 q h.2.2)
      · have h := fnB_ok hG hm
        exact .inr (Ev.blt hk h.1 h.2.1 q h.2.2.2.1 h.2.2.2.2)
theorem lookF_mono2 {α : Type} {f g : α → Prop} {d' : Prop} (h : ∀ v, f v → g v) (hd : d → d') : ∀ {l : List (Str × α)} {x : Str}, lookF l x f d → lookF l x g d'
  | [], _, q => hd q
  | (y, v) :: r, x, q => by
    have q : cB _ _ _ := q
    show cB _ _ _
    cases e : y == x with
    | true => rw [e] at q; exact h v q
    | false => rw [e] at q; exact lookF_mono2 h hd (l := r) q
theorem kG_mono {x : Str} {f g : Prop} (h : f → g) (q : kG C x f d) : kG C x g d := by
  unfold kG at q ⊢
  cases e : C.env.kindOf x with
  | none => rw [e] at q; exact q
  | some k => rw [e] at q; cases k <;> first | exact q | exact h q
theorem glb_mono {x : Str} {f g : Value → Prop} (h : ∀ v, f v → g v) (q : glb C x f d) : glb C x g d := by
  exact lookF_mono2 (fun v q => kG_mono (h _) q) (fun q => lookF_mono2 (fun v q => kG_mono (h _) q) id q) q
theorem sub_ok {ix : Expr} {o v : Value} (h : notSl ix = true) : subscripted ix false o v = operate [o, v] (getItem o v) := by
  cases ix <;> first | rfl | exact absurd h Bool.false_ne_true
theorem base_ok {o : Expr} {name : Str} {env : Env} {t : Sem Value} (h : baseOk o = true) : attributeBase o name env t = t := by
  cases o with
  | Call f args ks p => cases args with
    | nil => exact absurd h Bool.false_ne_true
    | cons _ _ => cases f <;> rfl
  | _ => first | rfl | exact absurd h Bool.false_ne_true
theorem rnK_ok (hR : ∀ k vs X, R k vs X → K C Q k vs X) {c : Const} {n : Nat} {p : Pos} (hd : d → Ev C X (.Constant c n p) (Kv (K C Q k) vs)) (q : rnK c (fun v => R k (v :: vs) X) d) : Ev C X (.Constant c n p) (Kv (K C Q k) vs) := by
  cases c <;> first | exact hd q | exact Ev.int (hR _ _ _ q) | exact Ev.str (hR _ _ _ q) | exact Ev.bool (hR _ _ _ q) | exact Ev.none (hR _ _ _ q)
theorem rnF_ok (hG : HG C) (hR : ∀ k vs X, R k vs X → K C Q k vs X) {f : Expr} {args : List Expr} {pos : Pos} (hd : d → Ev C X (.Call f args [] pos) (Kv (K C Q k) vs)) (q : rnF f C args pos k vs X R d) : Ev C X (.Call f args [] pos) (Kv (K C Q k) vs) := by
  cases f with
  | Name x p =>
    rcases cB_ok q with ⟨hb, q⟩ | ⟨_, q⟩
    · exact (glb_call hG hb (glb_mono (fun v q => k_call hb (hR _ _ _ q)) q)).elim hd id
    · exact hd q
  | Attribute o name p =>
    rcases cB_ok q with ⟨hb, q⟩ | ⟨_, q⟩
    · rw [Bool.and_eq_true, Bool.and_eq_true, Bool.and_eq_true] at hb
      exact Ev.meth (hR _ _ _ q) (base_ok hb.2) hb.1.2 (of_decide_eq_true hb.1.1.2) (star_any hb.1.1.1)
    · exact hd q
  | _ => exact hd q
theorem rnE_ok (hG : HG C) (hR : ∀ k vs X, R k vs X → K C Q k vs X) {e : Expr} (hd : d → Ev C X e (Kv (K C Q k) vs)) (q : rnE e C k vs X R d) : Ev C X e (Kv (K C Q k) vs) := by
  cases e with
  | Name x p =>
    rcases lookS_ok q with q | q | ⟨c, v, a, q⟩
    · refine (glb_name hG (fun v q => ?_) q).elim hd id
      cases v <;> first | exact .inl q | exact .inr (hR _ _ _ q)
    · exact hd q
    · rcases cB_ok q with ⟨_, q⟩ | ⟨hb, q⟩
      · exact hd q
      · exact Ev.nm a (hR _ _ _ q) hb
  | Constant c n p => exact rnK_ok hR hd q
  | BinOp l op r p => exact Ev.bin (hR _ _ _ q)
  | Compare l ops rs p =>
    rcases one_ok q with q | ⟨op, rfl, q⟩
    · exact hd q
    · rcases one_ok q with q | ⟨r, rfl, q⟩
      · exact hd q
      · rcases cB_ok q with ⟨_, q⟩ | ⟨hb, q⟩
        · exact hd q
        · exact Ev.cmp (hR _ _ _ q) hb
  | Subscript e i p => exact Ev.sub (hR _ _ _ q)
  | Tuple es n p =>
    rcases cB_ok q with ⟨hb, q⟩ | ⟨_, q⟩
    · exact k_tup hb (hR _ _ _ q)
    · exact hd q
  | IfExp t b o p => exact Ev.ite (hR _ _ _ q)
  | BoolOp op es p =>
    cases es with
    | nil => exact hd q
    | cons e r => cases r with
      | nil => exact Ev.one (hR _ _ _ q)
      | cons e' r => cases op with
        | And => exact Ev.and (hR _ _ _ q)
        | Or => exact Ev.or (hR _ _ _ q)
  | UnaryOp op e p => exact Ev.un (hR _ _ _ q)
  | Attribute o name p =>
    rcases cB_ok q with ⟨hb, q⟩ | ⟨_, q⟩
    · exact Ev.att (hR _ _ _ q) (base_ok hb)
    · exact hd q
  | Call f args ks pos =>
    cases ks with
    | nil => exact rnF_ok hG hR hd q
    | cons _ _ => exact hd q
  | _ => exact hd q
theorem rnT_ok (hR : ∀ k vs X, R k vs X → K C Q k vs X) {e : Expr} (hd : d → Tr C X e (Kb (K C Q k) vs)) (q : rnT e k vs X R d) : Tr C X e (Kb (K C Q k) vs) := by
  have pl : ∀ e, (d → Tr C X e (Kb (K C Q k) vs)) → cB (plainTr e) (R (.ev e :: .tb :: k) vs X) d → Tr C X e (Kb (K C Q k) vs) := fun e hd q =>
    (cB_ok q).elim (fun ⟨hb, q⟩ => Tr.plain (hR _ _ _ q) (tr_plain hb)) fun ⟨_, q⟩ => hd q
  cases e with
  | BoolOp op es p => cases op with
    | And => cases es with
      | nil => exact Tr.and0 (hR _ _ _ q)
      | cons e r => exact Tr.and (hR _ _ _ q)
    | Or => cases es with
      | nil => exact Tr.or0 (hR _ _ _ q)
      | cons e r => exact Tr.or (hR _ _ _ q)
  | UnaryOp op x p => cases op <;> first | exact Tr.not (hR _ _ _ q) | exact hd q
  | Compare l ops rs p =>
    rcases one_ok q with q | ⟨op, rfl, q⟩
    · exact hd q
    · rcases one_ok q with q | ⟨r, rfl, q⟩
      · exact hd q
      · rcases cB_ok q with ⟨_, q⟩ | ⟨hb, q⟩
        · exact hd q
        · exact Tr.cmp (hR _ _ _ q) hb
  | _ => exact pl _ hd q
theorem swpS {t e : Expr} {n : Nat} {env : Env} (h : notComp e = true) : swapsWithSole [t] e n env = pure false := swp (t := some t) h
theorem rnG_ok {t e : Expr} {p : Pos} {q0 : Prop} {q1 : List Str → Prop} (q : rnG t e C.env q0 q1 d) (h0 : q0 → Ev C X e (fun v Y => As C Y t v (fun Z => Q .next Z))) (h1 : ∀ ns, q1 ns → Ev C X e (fun v Y => ∃ l, v = .tup l ∧ l.length = ns.length ∧ BindL C Y ns.reverse l.reverse (fun Z => Q .next Z))) :
    d ∨ Ex C X (.Assign [t] e p) Q := by
  cases t with
  | Name x tp => exact (cB_ok q).symm.imp (·.2) fun h => Ex.asg (h0 h.2) (swpS h.1)
  | Subscript a i tp => exact (cB_ok q).symm.imp (·.2) fun h => Ex.asg (h0 h.2) (swpS h.1)
  | Attribute a n tp => exact (cB_ok q).symm.imp (·.2) fun h => Ex.asg (h0 h.2) (swpS h.1)
  | Tuple ts n tp => cases e with
    | Call f a k ep => exact .inr (Ex.asg (h0 q))
    | Name x ep => exact .inr (Ex.asg (h0 q))
    | Subscript a i ep => exact .inr (Ex.asg (h0 q))
    | Tuple es m ep =>
      have q : swG (swF ts es C.env) q0 q1 d := q
      cases h : swF ts es C.env with
      | none => rw [h] at q; exact .inl q
      | some o =>
        rw [h] at q
        cases o with
        | none => exact .inr (Ex.asg (h0 q) rfl (sw_swF h))
        | some ns => exact .inr (Ex.asgSwap (h1 ns q) rfl (sw_swF h))
    | _ => exact .inl q
  | _ => exact .inl q
theorem rnS_ok (hR : ∀ k vs X, R k vs X → K C Q k vs X) {s : Stmt} {q0 : Prop} (h0 : q0 → Q (.ret .none) X) (hd : d → Ex C X s (NextK (K C Q k vs) Q)) (q : rnS s C k vs X R q0 d) : Ex C X s (NextK (K C Q k vs) Q) := by
  cases s with
  | If t b o p => exact Ex.ite (hR _ _ _ q)
  | Return e p => cases e with
    | none => exact Ex.ret0 (h0 q)
    | some e => exact Ex.ret (hR _ _ _ q)
  | Expr e p => exact (cB_ok q).elim (fun h => Ex.expr (hR _ _ _ h.2) (Bool.not_eq_true' _ ▸ (Bool.and_eq_true _ _ ▸ h.1).2) (swp (Bool.and_eq_true _ _ ▸ h.1).1)) fun h => hd h.2
  | Assign ts e p => cases ts with
    | nil => exact hd q
    | cons t ts => cases ts with
      | nil => exact (rnG_ok q (hR _ _ _) fun ns => hR _ _ _).elim hd id
      | cons _ _ => exact hd q
  | _ => exact hd q
theorem rnA_ok (hR : ∀ k vs X, R k vs X → K C Q k vs X) {t : Expr} {v : V} (hd : d → As C X t v (K C Q k vs)) (q : rnA C t k v vs X R d) : As C X t v (K C Q k vs) := by
  cases t with
  | Name x p =>
    rcases putS_ok (v := v) q with q | ⟨a, q⟩ | ⟨c, a, e, m, q⟩
    · exact hd q
    · exact As.nm a (hR _ _ ⟨_, X.mem⟩ q)
    · exact As.nmC a m (hR _ _ ⟨_, X.mem⟩ q) e
  | Tuple ts m p =>
    rcases asT_ok q with q | ⟨l, rfl, q⟩
    · exact hd q
    · rcases cB_ok q with ⟨hb, q⟩ | ⟨_, q⟩
      · rw [Bool.and_eq_true] at hb
        have hl : ts.length = l.length := eq_of_beq hb.2
        exact As.tup (asgs_ok hb.1 hl (hR _ _ _ (appK_eq q))) ((asn_len hb.1).trans hl) (asn_find hb.1)
      · exact hd q
  | Subscript e i p => exact As.subs (hR _ _ _ q)
  | _ => exact hd q
theorem rnO_ok {op : Operator} {x y : V} {f : V → Prop} {q0 : V → AS → Prop} (h : ∀ v, f v → q0 v X) (hd : d → Op2 C X (binaryOp op) x y RV q0) (q : rnO op x y f d) : Op2 C X (binaryOp op) x y RV q0 := by
  rcases asI_ok q with q1 | ⟨i, hi, q1⟩
  · exact hd q1
  · rcases asI_ok q1 with q2 | ⟨j, hj, q2⟩
    · exact hd q2
    · clear q q1; subst hi hj; cases op <;> first | exact hd q2 | exact Op2.add (h _ q2) | exact Op2.sub (h _ q2)
theorem rnC_ok {op : CmpOp} {x y : V} {f : V → Prop} {q0 : V → AS → Prop} (h : ∀ v, f v → q0 v X) (hd : d → Op2 C X (compareOp op) x y RV q0) (q : rnC op x y f d) : Op2 C X (compareOp op) x y RV q0 := by
  rcases asI_ok q with q1 | ⟨i, hi, q1⟩
  · exact hd q1
  · rcases asI_ok q1 with q2 | ⟨j, hj, q2⟩
    · exact hd q2
    · clear q q1; subst hi hj; cases op <;> first | exact hd q2 | exact Op2.lt (h _ q2) | exact Op2.le (h _ q2) | exact Op2.gt (h _ q2) | exact Op2.ge (h _ q2) | exact Op2.eqi (h _ q2) | exact Op2.nei (h _ q2)
theorem small60 {n : Nat} (h : Nat.ble n 60 = true) : n ≤ sizeLine := by rw [sizeLine_eq]; exact Nat.le_trans (Nat.le_of_ble_eq_true h) (by decide)
theorem bl_ok {s : Stmt} {r : List Stmt} (q : K C Q (.st s :: .bl r :: k) vs X) : Exs C X (s :: r) (NextK (K C Q k vs) Q) :=
  Exs.cons (TW.mono (show Ex C X s _ from q) fun fl Y q => by cases fl <;> exact q)
theorem pop_mono {f g : V → List V → Prop} (h : ∀ v us, f v us → g v us) (q : pop vs f) : pop vs g := by cases vs with | nil => exact q | cons v us => exact h _ _ q
theorem asB_mono {v : V} {f g : Bool → Prop} (h : ∀ b, f b → g b) (q : asB v f False) : asB v g False := by cases v <;> first | exact q | exact h _ q
theorem ifCm {c : Bool} {a b a' b' : Prop} (ha : a → a') (hb : b → b') (h : cB c a b) : if c = true then a' else b' := by cases c with | true => exact ifT rfl (ha h) | false => exact ifF Bool.false_ne_true (hb h)
section
variable (hR : ∀ k vs X, R k vs X → K C Q k vs X)
include hR
theorem rn_sub {e ix : Expr} {y x : V} (q : asT x (fun l => asI y (fun i => rnX i (fun n => cB (notSl ix && Nat.ble n 100) (getK l n (fun v => R k (v :: vs) X) d) d) d) d) d) : d ∨ Op2 C X (subscriptTail e ix) x y RV (Kv (K C Q k) vs) := by
  rcases asT_ok q with q | ⟨l, rfl, q⟩
  · exact .inl q
  rcases asI_ok q with q | ⟨i, rfl, q⟩
  · exact .inl q
  cases i with
  | negSucc n => exact .inl q
  | ofNat n =>
    rcases cB_ok q with ⟨hb, q⟩ | ⟨_, q⟩
    · rw [Bool.and_eq_true] at hb
      exact (getK_ok q).imp id fun ⟨v, hv, q⟩ => Op2.iT n hv (hR _ _ _ q) rfl (Nat.lt_of_le_of_lt (Nat.le_of_ble_eq_true hb.2) (by decide)) fun o v => sub_ok hb.1
    · exact .inl q
theorem rn_bnd {ns : List Str} {v : V} (q : asT v (fun l => cB (l.length == ns.length) (putsS C ns.reverse l.reverse X.ρ (fun ρ => rnN X ρ (R k vs)) d) d) d) : d ∨ ∃ l, v = .tup l ∧ l.length = ns.length ∧ BindL C X ns.reverse l.reverse (K C Q k vs) := by
  rcases asT_ok q with q | ⟨l, rfl, q⟩
  · exact .inl q
  rcases cB_ok q with ⟨hb, q⟩ | ⟨_, q⟩
  · have hl : l.length = ns.length := eq_of_beq hb
    exact (putsS_ok (C := C) (Q := fun Z => K C Q k vs Z) (by rw [List.length_reverse, List.length_reverse, hl]) (putsS_mono (g := fun ρ' => K C Q k vs ⟨ρ', X.mem⟩) (fun ρ q => hR _ _ ⟨ρ, X.mem⟩ q) q)).imp id fun q => ⟨l, rfl, hl, q⟩
  · exact .inl q
end
theorem rnI_ok (hG : HG C) (hR : ∀ k vs X, R k vs X → K C Q k vs X) {i : It} (q : rnI C Q i k vs X R) : K C Q (i :: k) vs X := by
  cases i with
  | ev e => exact rnE_ok hG hR id q
  | tr e => exact rnT_ok hR id q
  | tb =>
    cases vs with
    | nil => exact q
    | cons v us => cases v <;> first | exact q | exact ⟨_, rfl, hR _ _ _ q⟩
  | nt => exact pop_mono (fun v us => asB_mono fun b => hR _ _ _) q
  | bin op => exact pop_mono (fun y us => pop_mono fun x us => rnO_ok (fun v => hR _ _ _) id) q
  | cmp op => exact pop_mono (fun y us => pop_mono fun x us => rnC_ok (fun v => hR _ _ _) id) q
  | sub e ix => exact pop_mono (fun y us => pop_mono fun x us q => (rn_sub hR q).elim id id) q
  | ifx b o => exact pop_mono (fun v us => asB_mono fun c => ifCm (hR _ _ _) (hR _ _ _)) q
  | anv r p => exact pop_mono (fun v us => asB_mono fun c => ifCm (hR _ _ _) (hR _ _ _)) q
  | orv r p => exact pop_mono (fun v us => asB_mono fun c => ifCm (hR _ _ _) (hR _ _ _)) q
  | ant r p => exact pop_mono (fun v us => asB_mono fun c => ifCm (hR _ _ _) (hR _ _ _)) q
  | ort r p => exact pop_mono (fun v us => asB_mono fun c => ifCm (hR _ _ _) (hR _ _ _)) q
  | tup n =>
    rcases cB_ok q with ⟨hb, q⟩ | ⟨_, q⟩
    · exact takeK_mono n vs [] (fun l us e q => ⟨by rw [e, List.length_nil, Nat.zero_add]; exact small60 hb, hR _ _ _ q⟩) q
    · exact q
  | lst n =>
    rcases cB_ok q with ⟨hb, q⟩ | ⟨_, q⟩
    · exact takeK_mono n vs [] (fun l us e q => ⟨by rw [e, List.length_nil, Nat.zero_add]; exact small60 hb, hR _ _ _ q⟩) q
    · exact q
  | mls n =>
    rcases cB_ok q with ⟨hb, q⟩ | ⟨_, q⟩
    · exact takeK_mono n vs [] (fun l us e q => ⟨by rw [e, List.length_nil, Nat.zero_add]; exact small60 hb, fun a => hR _ _ ⟨X.ρ, (a, .lst l) :: X.mem⟩ (q a)⟩) q
    · exact q
  | st s => exact rnS_ok hR id id q
  | bl s => cases s with
    | nil => exact Exs.nil (hR _ _ _ q)
    | cons s r => exact bl_ok (hR _ _ _ q)
  | drop =>
    cases vs with
    | nil => exact q
    | cons v us => cases v <;> first | exact ⟨.none, hR _ _ _ q⟩ | exact ⟨.bool _, hR _ _ _ q⟩ | exact ⟨.int _, hR _ _ _ q⟩ | exact ⟨.str _, hR _ _ _ q⟩ | exact q
  | asg t => exact pop_mono (fun v us => rnA_ok hR id) q
  | bnd ns =>
    cases vs with
    | nil => exact q
    | cons v us => exact (rn_bnd hR q).elim id id
  | ife b o => exact pop_mono (fun v us => asB_mono fun c => ifCm (hR _ _ _) (hR _ _ _)) q
  | _ => exact q
end
theorem W.run (n : Nat) {C : Cx} (hG : HG C) {Q : Fl → AS → Prop} : ∀ {k : List It} {vs : List V} {X : AS}, W n C Q k vs X → K C Q k vs X := by
  induction n with
  | zero => exact id
  | succ n ih =>
    intro k vs X q
    cases k with
    | nil => exact q
    | cons i k => exact rnI_ok hG (fun _ _ _ => ih) q
noncomputable abbrev QV (Q : V → AS → Prop) : Fl → AS → Prop := fun fl Y => match fl with | .ret v => Q v Y | _ => False
noncomputable abbrev QT (Q : Bool → AS → Prop) : Fl → AS → Prop := fun fl Y => match fl with | .ret (.bool b) => Q b Y | _ => False
noncomputable abbrev QA (Q : AS → Prop) : Fl → AS → Prop := fun fl Y => match fl with | .next => Q Y | _ => False
section
variable (n : Nat) {C : Cx} {X : AS} {Q : Fl → AS → Prop} {k : List It} {vs : List V}
theorem W.b (hG : HG C) {s : List Stmt} (q : W n C Q (.bl s :: k) vs X) : Exs C X s (NextK (K C Q k vs) Q) := W.run n hG q
theorem W.b0 (hG : HG C) {s : List Stmt} (q : W n C Q [.bl s] [] X) : Exs C X s Q := TW.mono (show Exs C X s _ from W.run n hG q) fun fl Y q => by cases fl <;> exact q
theorem W.s0 (hG : HG C) {s : Stmt} (q : W n C Q [.st s] [] X) : Ex C X s Q := TW.mono (show Ex C X s _ from W.run n hG q) fun fl Y q => by cases fl <;> exact q
theorem W.e (hG : HG C) {e : Expr} (q : W n C Q (.ev e :: k) vs X) : Ev C X e (Kv (K C Q k) vs) := W.run n hG q
theorem W.e0 (hG : HG C) {e : Expr} {Q : V → AS → Prop} (q : W n C (QV Q) [.ev e] [] X) : Ev C X e Q := W.run n hG q
theorem W.t (hG : HG C) {e : Expr} (q : W n C Q (.tr e :: k) vs X) : Tr C X e (Kb (K C Q k) vs) := W.run n hG q
theorem W.t0 (hG : HG C) {e : Expr} {Q : Bool → AS → Prop} (q : W n C (QT Q) [.tr e] [] X) : Tr C X e Q := W.run n hG q
theorem W.m (hG : HG C) {pos : Pos} {f : Value} {y : V} {es : List Expr} (q : W n C Q (evs es (.call f (es.length + 1) :: k)) (y :: vs) X) (h : noStar es = true := by rfl) : EvL C X pos es (fun l Z => OpL C Z (fun us => PySem.call f us) (y :: l) RV (Kv (K C Q k) vs)) := k_callm h (W.run n hG q)
theorem W.l (hG : HG C) {pos : Pos} {es : List Expr} (q : W n C Q (evs es (.lst es.length :: k)) vs X) (h : noStar es = true := by rfl) : EvL C X pos es (fun l Y => l.length ≤ sizeLine ∧ K C Q k (.lst l :: vs) Y) := k_lst h (W.run n hG q)
theorem W.ml (hG : HG C) {pos : Pos} {es : List Expr} (q : W n C Q (evs es (.mls es.length :: k)) vs X) (h : noStar es = true := by rfl) : EvL C X pos es (fun l Y => l.length ≤ sizeLine ∧ ∀ a, K C Q k (.raw (.ref a) :: vs) { Y with mem := (a, .lst l) :: Y.mem }) := k_mls h (W.run n hG q)
theorem W.u (hG : HG C) {e i : Expr} {x y : V} (q : W n C Q (.sub e i :: k) (y :: x :: vs) X) : Op2 C X (subscriptTail e i) x y RV (Kv (K C Q k) vs) := W.run n hG q
theorem W.a0 (hG : HG C) {t : Expr} {v : V} {Q : AS → Prop} (q : W n C (QA Q) [.asg t] [v] X) : As C X t v Q := W.run n hG q
end
end
section
set_option genInjectivity true
noncomputable def pairV (p : Int × Int) : V := .tup [.int p.1, .int p.2]
noncomputable def pairsV (l : List (Int × Int)) : V := .tup (l.map pairV)
structure Lin where
  ps : List (Int × Int)
  c : Int
  deriving DecidableEq
noncomputable def Lin.full (e : Lin) : V := .tup [.str "sum", pairsV e.ps, .int e.c]
noncomputable def Lin.v (e : Lin) : V := if e.ps = [] then .int e.c else e.full
noncomputable def bitW (x : Int) (s : Bool) : V := bitV (x, s)
inductive Tv where
  | tt (b : Bool)
  | bit (x : Int) (s : Bool)
  deriving DecidableEq
noncomputable def Tv.v : Tv → V
  | .tt b => .bool b
  | .bit x s => bitV (x, s)
noncomputable def Tv.not : Tv → Tv
  | .tt b => .tt (!b)
  | .bit x s => .bit x (!s)
theorem Tv.plain (t : Tv) : Plain t.v := by cases t with | tt b => exact .bool b | bit x s => exact .tup _
theorem Tv.data (t : Tv) : t.v.data = true := by cases t with | tt b => rfl | bit x s => exact bitV_data _
theorem Tv.dep (t : Tv) : t.v.dep ≤ 1 := by cases t with | tt b => exact Nat.zero_le _ | bit x s => exact bitV_dep _
end
section
noncomputable def ivs (kvs : List (Int × Int)) : List (Int × V) := kvs.map fun p => (p.1, .int p.2)
noncomputable def stZ (kvs : List (Int × Int)) (k v : Int) : List (Int × Int) :=
  if kvs.any (fun kv => kv.1 = k) then kvs.map (fun kv => if kv.1 = k then (kv.1, v) else kv) else kvs ++ [(k, v)]
noncomputable def getZ (kvs : List (Int × Int)) (k : Int) : Option Int := (kvs.find? fun p => decide (p.1 = k)).map (·.2)
noncomputable def sortZ (l : List Int) : List Int := l.mergeSort (fun a b => decide (a ≤ b))
theorem sortZ_perm (l : List Int) : (sortZ l).Perm l := List.mergeSort_perm ..
theorem sortZ_le (l : List Int) : (sortZ l).Pairwise (· ≤ ·) := by
  have := List.pairwise_mergeSort (le := fun a b : Int => decide (a ≤ b)) (by intro a b c; simp; omega) (by intro a b; simp; omega) l
  simpa [sortZ] using this
theorem sortZ_of {l ns : List Int} (hp : ns.Perm l) (ho : ns.Pairwise (· ≤ ·)) : ns = sortZ l := PySem.W.lks_uniq (hp.trans (sortZ_perm l).symm) ho (sortZ_le l)
theorem stI_ivs (kvs : List (Int × Int)) (k v : Int) : stI (ivs kvs) k (.int v) = ivs (stZ kvs k v) := by
  unfold stI stZ ivs
  rw [List.any_map]
  show (if (kvs.any fun kv => decide (kv.1 = k)) = true then _ else _) = _
  split
  · rw [List.map_map, List.map_map]
    apply List.map_congr_left
    intro p hp
    simp only [Function.comp]
    split <;> rfl
  · simp
theorem lookK_ivs (kvs : List (Int × Int)) (k : Int) : lookK (ivs kvs) k = (getZ kvs k).map .int := by
  unfold lookK getZ ivs
  rw [List.find?_map, Option.map_map, Option.map_map]
  rfl
theorem dictOfPairs_nodup : ∀ (ps acc : List (Int × V)), ((acc ++ ps).map (·.1)).Nodup → dictOfPairs acc ps = acc ++ ps
  | [], acc, _ => (List.append_nil acc).symm
  | p :: r, acc, h => by
    have hp : acc.any (fun kv => kv.1 = p.1) = false := by
      rw [List.any_eq_false]
      intro q hq
      simp only [List.map_append, List.map_cons] at h
      have := (List.nodup_append.mp h).2.2 q.1 (List.mem_map_of_mem hq) p.1 (by simp)
      simpa using this
    show dictOfPairs (stI acc p.1 p.2) r = acc ++ p :: r
    have e : stI acc p.1 p.2 = acc ++ [p] := by unfold stI; rw [hp]; rfl
    rw [e, dictOfPairs_nodup r (acc ++ [p]) (by simpa using h)]
    simp
noncomputable def addStep (f : Int) (k : List (Int × Int)) (e : Int × Int) : List (Int × Int) := stZ k e.1 ((getZ k e.1).getD 0 + f * e.2)
noncomputable def plusD (p q : List (Int × Int)) (f : Int) : List (Int × Int) := q.foldl (addStep f) p
noncomputable def plusZ (p q : List (Int × Int)) (f : Int) : List (Int × Int) :=
  (sortZ ((plusD p q f).map (·.1))).filterMap fun x => match getZ (plusD p q f) x with
    | some v => if v = 0 then none else some (x, v)
    | none => none
noncomputable def Lin.plus (e g : Lin) (f : Int) : Lin := ⟨plusZ e.ps g.ps f, e.c + f * g.c⟩
structure Lin.OK (e : Lin) : Prop where
  nodup : (e.ps.map (·.1)).Nodup
  len : e.ps.length ≤ 10
  small : ∀ p ∈ e.ps, p.2.natAbs ≤ 10 ^ 6
  csmall : e.c.natAbs ≤ 10 ^ 6
theorem gens1 {g : Comprehension} (ha : g.is_async = 0) (hf : ∀ env x, foldedSetIterable g.iter env x = pure x) : gensOK g [] := fun env g' h => by
  cases h with
  | head => exact ⟨ha, hf env⟩
  | tail _ h => cases h
section
variable {C : Cx} {X : AS} {Q : V → AS → Prop}
theorem mem_idx {α : Type} {l : List α} {a : α} (h : a ∈ l) : ∃ k : Nat, l[k]? = some a := List.getElem?_of_mem h
theorem mid_get {α : Type} (F M : List α) (a : α) : (F ++ a :: M)[F.length]? = some a := by simp
theorem mid_set {α : Type} (F M : List α) (a b : α) : (F ++ a :: M).set F.length b = F ++ b :: M := by simp
theorem setI' {kvs : List (Int × V)} {d : Addr} {key : Int} {y : V} {Q : AS → Prop} {F M : List (Addr × MO)} {ρ : List Sl} (hz : kvs.length ≤ sizeLine) (q : Q ⟨ρ, F ++ (d, .dI (stI kvs key y)) :: M⟩) : Op3 C ⟨ρ, F ++ (d, .dI kvs) :: M⟩ setItem (.raw (.ref d)) (.int key) y RE (fun (_ : Unit) W => Q W) :=
  setI F.length (mid_get F M _) hz (by simp only [mid_set]; exact q)
theorem setS' {kvs : List (Str × V)} {d : Addr} {key : Str} {y : V} {Q : AS → Prop} {F M : List (Addr × MO)} {ρ : List Sl} (hz : kvs.length ≤ sizeLine) (q : Q ⟨ρ, F ++ (d, .dS (stI kvs key y)) :: M⟩) : Op3 C ⟨ρ, F ++ (d, .dS kvs) :: M⟩ setItem (.raw (.ref d)) (.str key) y RE (fun (_ : Unit) W => Q W) :=
  setS F.length (mid_get F M _) hz (by simp only [mid_set]; exact q)
theorem IsMeth.getI' {kvs : List (Int × V)} {d : Addr} (hm : (d, .dI kvs) ∈ X.mem) : IsMeth C X (.raw (.ref d)) (Str.ofString "get") (.builtin "dict.get") := let ⟨k, hi⟩ := mem_idx hm; IsMeth.getI k hi
theorem OpL.getI' {kvs : List (Int × V)} {d : Addr} {key : Int} {y : V} (hm : (d, .dI kvs) ∈ X.mem) (q : Q ((lookK kvs key).getD y) X) : OpL C X (fun vs => PySem.call (.builtin "dict.get") vs) [.raw (.ref d), .int key, y] RV Q := let ⟨k, hi⟩ := mem_idx hm; OpL.getI k hi q
theorem Op2.itemI' {e i : Expr} {a : Addr} {kvs : List (Int × V)} {k : Int} {x : V} (hm : (a, .dI kvs) ∈ X.mem) (hx : lookK kvs k = some x) (q : Q x X)
    (hs : ∀ o v, subscripted i false o v = operate [o, v] (getItem o v) := by intros; rfl) : Op2 C X (subscriptTail e i) (.raw (.ref a)) (.int k) RV Q := let ⟨_, hi⟩ := mem_idx hm; Op2.itemI _ hi hx q hs
theorem Op2.itemS' {e i : Expr} {a : Addr} {kvs : List (Str × V)} {k : Str} {x : V} (hm : (a, .dS kvs) ∈ X.mem) (hx : lookK kvs k = some x) (q : Q x X)
    (hs : ∀ o v, subscripted i false o v = operate [o, v] (getItem o v) := by intros; rfl) : Op2 C X (subscriptTail e i) (.raw (.ref a)) (.str k) RV Q := let ⟨_, hi⟩ := mem_idx hm; Op2.itemS _ hi hx q hs
theorem OpL.sortedD' {kvs : List (Int × V)} {d : Addr} (hm : (d, .dI kvs) ∈ X.mem) (h64 : kvs.length < 64) (q : Q (.lst ((sortZ (kvs.map (·.1))).map .int)) X) : OpL C X (fun vs => PySem.call (.builtin "sorted") vs) [.raw (.ref d)] RV Q :=
  let ⟨k, hi⟩ := mem_idx hm; OpL.sortedD k hi h64 fun ns' hp ho => by rw [sortZ_of hp ho]; exact q
theorem pairs_ip (l : List (Int × Int)) : l.map pairV = (ivs l).map ipV := by unfold ivs; rw [List.map_map]; rfl
theorem ivs_keys (l : List (Int × Int)) : (ivs l).map (·.1) = l.map (·.1) := by unfold ivs; rw [List.map_map]; rfl
theorem OpL.dictP {l : List (Int × Int)} (hn : (l.map (·.1)).Nodup) (hz : l.length ≤ 1000) (q : ∀ d, Q (.raw (.ref d)) { X with mem := (d, .dI (ivs l)) :: X.mem }) : OpL C X (fun vs => PySem.call (.type "dict") vs) [pairsV l] RV Q := by
  unfold pairsV
  rw [pairs_ip]
  refine OpL.dict (by simpa [ivs] using hz) fun d => ?_
  rw [dictOfPairs_nodup _ [] (by rw [List.nil_append, ivs_keys]; exact hn)]
  exact q d
end
end
section
structure Sg where
  x : Addr
  fl : Addr
  vd : Addr
  td : Addr
  md : Addr
noncomputable def MN : List Str := ["all_of", "any_of", "bounds", "compared", "domain_of", "equal", "is_less", "new_var", "once", "post", "require_some", "row", "row_truth", "size", "told_truth"]
inductive InstK (Kp : Addr → Obj → Prop) (x K : Addr) (f : Str → Option Value) : Prop where
  | mk (dx : Addr) (es : List DictEntry) (n : Nat) : Kp x (instObj K dx) → Kp dx (dictOf es n) → (∀ name, getL name es = some (f name)) → InstK Kp x K f
theorem Inst.of {C : Cx} {x K : Addr} {f : Str → Option Value} (i : InstK C.Kp x K f) : Inst C x K f := i.casesOn fun dx es n a b c => ⟨dx, es, n, a, b, c⟩
inductive SelfF (Kp : Addr → Obj → Prop) (x K : Addr) (k1 k2 : Str) (v1 v2 : Addr) : Prop where
  | mk (f : Str → Option Value) : InstK Kp x K f → f k1 = some (.ref v1) → f k2 = some (.ref v2) → (∀ n ∈ MN, f n = none) → SelfF Kp x K k1 k2 v1 v2
structure Self (Kp : Addr → Obj → Prop) (σ : Sg) : Prop where
  f : SelfF Kp σ.x 416 "flat" "made" σ.fl σ.md
  g : SelfF Kp σ.fl 128 "vars" "tolds" σ.vd σ.td
theorem InstK.weaken {Kp Kp' : Addr → Obj → Prop} {x K : Addr} {f : Str → Option Value} (h : ∀ b o, Kp b o → Kp' b o) (i : InstK Kp x K f) : InstK Kp' x K f := i.casesOn fun dx es n a b c => ⟨dx, es, n, h _ _ a, h _ _ b, c⟩
theorem SelfF.weaken {Kp Kp' : Addr → Obj → Prop} {x K : Addr} {k1 k2 : Str} {v1 v2 : Addr} (h : ∀ b o, Kp b o → Kp' b o) (s : SelfF Kp x K k1 k2 v1 v2) : SelfF Kp' x K k1 k2 v1 v2 := s.casesOn fun f a b c d => ⟨f, a.weaken h, b, c, d⟩
theorem Self.weaken {Kp Kp' : Addr → Obj → Prop} {σ : Sg} (h : ∀ b o, Kp b o → Kp' b o) (s : Self Kp σ) : Self Kp' σ := ⟨s.f.weaken h, s.g.weaken h⟩
theorem m_gen {C : Cx} {X : AS} {x K fa : Addr} {k1 k2 name : Str} {v1 v2 : Addr} (hG : HG C) (hS : SelfF C.Kp x K k1 k2 v1 v2) (hg : plainGet (KF C.G.w.params) K name = true) (hf : findIn (KF C.G.w.params) (.ref K) name = some (some (.ref fa)))
    (ht : isFn (KF C.G.w.params) (.ref fa) = true) (hk : keepIn (KF C.G.w.params) (.ref fa) = true) (hn : MN.contains name = true) : IsMeth C X (.raw (.ref x)) name (.ref fa) := by
  obtain ⟨f, hI, b, c, d⟩ := hS
  rw [← hG] at hg hf ht hk
  exact IsMeth.inst (Inst.of hI) hg hf ht hk (d _ (List.contains_iff_mem.mp hn))
section
variable {C : Cx} {X : AS} {Q : V → AS → Prop} {σ : Sg}
theorem m_once (hG : HG C) (hS : Self C.Kp σ) : IsMeth C X (.raw (.ref σ.x)) "once" (.ref 203) := m_gen hG hS.f rfl rfl rfl rfl (by decide +kernel)
theorem m_bounds (hG : HG C) (hS : Self C.Kp σ) : IsMeth C X (.raw (.ref σ.x)) "bounds" (.ref 210) := m_gen hG hS.f rfl rfl rfl rfl (by decide +kernel)
theorem m_row (hG : HG C) (hS : Self C.Kp σ) : IsMeth C X (.raw (.ref σ.x)) "row" (.ref 232) := m_gen hG hS.f rfl rfl rfl rfl (by decide +kernel)
theorem m_row_truth (hG : HG C) (hS : Self C.Kp σ) : IsMeth C X (.raw (.ref σ.x)) "row_truth" (.ref 237) := m_gen hG hS.f rfl rfl rfl rfl (by decide +kernel)
theorem m_told_truth (hG : HG C) (hS : Self C.Kp σ) : IsMeth C X (.raw (.ref σ.x)) "told_truth" (.ref 244) := m_gen hG hS.f rfl rfl rfl rfl (by decide +kernel)
theorem m_all_of (hG : HG C) (hS : Self C.Kp σ) : IsMeth C X (.raw (.ref σ.x)) "all_of" (.ref 249) := m_gen hG hS.f rfl rfl rfl rfl (by decide +kernel)
theorem m_any_of (hG : HG C) (hS : Self C.Kp σ) : IsMeth C X (.raw (.ref σ.x)) "any_of" (.ref 254) := m_gen hG hS.f rfl rfl rfl rfl (by decide +kernel)
theorem m_require_some (hG : HG C) (hS : Self C.Kp σ) : IsMeth C X (.raw (.ref σ.x)) "require_some" (.ref 266) := m_gen hG hS.f rfl rfl rfl rfl (by decide +kernel)
theorem m_equal (hG : HG C) (hS : Self C.Kp σ) : IsMeth C X (.raw (.ref σ.x)) "equal" (.ref 385) := m_gen hG hS.f rfl rfl rfl rfl (by decide +kernel)
theorem m_compared (hG : HG C) (hS : Self C.Kp σ) : IsMeth C X (.raw (.ref σ.x)) "compared" (.ref 392) := m_gen hG hS.f rfl rfl rfl rfl (by decide +kernel)
theorem m_is_less (hG : HG C) (hS : Self C.Kp σ) : IsMeth C X (.raw (.ref σ.x)) "is_less" (.ref 413) := m_gen hG hS.f rfl rfl rfl rfl (by decide +kernel)
theorem m_new_var (hG : HG C) (hS : Self C.Kp σ) : IsMeth C X (.raw (.ref σ.fl)) "new_var" (.ref 104) := m_gen hG hS.g rfl rfl rfl rfl (by decide +kernel)
theorem m_post (hG : HG C) (hS : Self C.Kp σ) : IsMeth C X (.raw (.ref σ.fl)) "post" (.ref 111) := m_gen hG hS.g rfl rfl rfl rfl (by decide +kernel)
theorem m_size (hG : HG C) (hS : Self C.Kp σ) : IsMeth C X (.raw (.ref σ.fl)) "size" (.ref 118) := m_gen hG hS.g rfl rfl rfl rfl (by decide +kernel)
theorem m_domain_of (hG : HG C) (hS : Self C.Kp σ) : IsMeth C X (.raw (.ref σ.fl)) "domain_of" (.ref 125) := m_gen hG hS.g rfl rfl rfl rfl (by decide +kernel)
end
end
section
theorem at_gen {C : Cx} {x K : Addr} {name : Str} {v : Addr} {f : Str → Option Value} (hG : HG C) (hI : InstK C.Kp x K f) (hv : f name = some (.ref v)) (h1 : plainGet (KF C.G.w.params) K name = true) (h2 : hasDictIn (KF C.G.w.params) K = true)
    (h3 : findIn (KF C.G.w.params) (.ref K) name = some none) : IsAttr C (.raw (.ref x)) name (.raw (.ref v)) := by
  rw [← hG] at h1 h2 h3
  exact ⟨x, K, f, .ref v, none, rfl, rfl, Inst.of hI, hv, h1, h2, h3, by rw [hG]; rfl, rfl⟩
section
variable {C : Cx} {σ : Sg}
theorem at_flat (hG : HG C) (hS : Self C.Kp σ) : IsAttr C (.raw (.ref σ.x)) "flat" (.raw (.ref σ.fl)) := hS.f.casesOn fun f hI b c d => at_gen hG hI b rfl rfl rfl
theorem at_made (hG : HG C) (hS : Self C.Kp σ) : IsAttr C (.raw (.ref σ.x)) "made" (.raw (.ref σ.md)) := hS.f.casesOn fun f hI b c d => at_gen hG hI c rfl rfl rfl
theorem at_vars (hG : HG C) (hS : Self C.Kp σ) : IsAttr C (.raw (.ref σ.fl)) "vars" (.raw (.ref σ.vd)) := hS.g.casesOn fun f hI b c d => at_gen hG hI b rfl rfl rfl
theorem at_tolds (hG : HG C) (hS : Self C.Kp σ) : IsAttr C (.raw (.ref σ.fl)) "tolds" (.raw (.ref σ.td)) := hS.g.casesOn fun f hI b c d => at_gen hG hI c rfl rfl rfl
end
end
section
structure G where
  vars : List V
  tolds : List V
  made : List (Key × Int)
noncomputable def kvsK (l : List (Key × Int)) : List (Key × V) := l.map fun p => (p.1, .int p.2)
noncomputable def gmem (σ : Sg) (g : G) (T : List (Addr × MO)) : List (Addr × MO) := (σ.vd, .lst g.vars) :: (σ.td, .lst g.tolds) :: (σ.md, .dK (kvsK g.made)) :: T
section
variable {C : Cx} {X : AS} {Q : V → AS → Prop} {σ : Sg} {g : G} {P T : List (Addr × MO)}
theorem gm_v : (P ++ gmem σ g T)[P.length]? = some (σ.vd, .lst g.vars) := by simp [gmem]
theorem gm_t : (P ++ gmem σ g T)[P.length + 1]? = some (σ.td, .lst g.tolds) := by simp [gmem]
theorem gm_m : (P ++ gmem σ g T)[P.length + 2]? = some (σ.md, .dK (kvsK g.made)) := by simp [gmem]
theorem gs_v {vs : List V} : (P ++ gmem σ g T).set P.length (σ.vd, .lst vs) = P ++ gmem σ { g with vars := vs } T := by simp [gmem]
theorem gs_t {ts : List V} : (P ++ gmem σ g T).set (P.length + 1) (σ.td, .lst ts) = P ++ gmem σ { g with tolds := ts } T := by simp [gmem]
theorem gs_m {ms : List (Key × Int)} : (P ++ gmem σ g T).set (P.length + 2) (σ.md, .dK (kvsK ms)) = P ++ gmem σ { g with made := ms } T := by simp [gmem]
theorem IsMeth.append {l : List V} {a : Addr} (k : Nat) (hi : X.mem[k]? = some (a, .lst l)) : IsMeth C X (.raw (.ref a)) (Str.ofString "append") (.builtin "list.append") :=
  IsMeth.blt PySem.F.plainAttrs_list slot_list_append (by show builtinType _ = _; rw [builtinType_eq_fast]; kernel_rfl) fun s S a r => by
    cases r
    obtain ⟨vs, n, e, _⟩ := S.at hi
    exact ⟨⟨_, e, rfl⟩, fun b h => by cases h; exact ⟨_, e, rfl⟩⟩
theorem split_at {α : Type} {l : List α} {k : Nat} {a : α} (h : l[k]? = some a) : l = l.take k ++ a :: l.drop (k + 1) ∧ (l.take k).length = k := by
  obtain ⟨hk, e⟩ := List.getElem?_eq_some_iff.mp h
  refine ⟨?_, by simp; omega⟩
  conv => lhs; rw [← List.take_append_drop k l]
  rw [List.drop_eq_getElem_cons hk, e]
theorem OpL.append {l : List V} {a : Addr} {x : V} (k : Nat) (hi : X.mem[k]? = some (a, .lst l)) (hz : l.length ≤ sizeLine) (q : Q .none { X with mem := X.mem.set k (a, .lst (l ++ [x])) }) : OpL C X (fun vs => PySem.call (.builtin "list.append") vs) [.raw (.ref a), x] RV Q := fun s S vs r => by
  obtain ⟨_, _, ⟨⟩, r1, r2⟩ := r; obtain ⟨_, _, ⟨⟩, r2, r3⟩ := r2
  ·
    cases r1; cases r3
    obtain ⟨e1, e2⟩ := split_at hi
    obtain ⟨ρ, mem⟩ := X
    simp only at e1 e2 hi q
    generalize mem.take k = F at e1 e2
    generalize mem.drop (k + 1) = M at e1
    subst e1 e2
    refine append_at S r2 hz ?_
    simpa using q
theorem Ev.truths {pos : Pos} (hG : HG C) (q : Q (pairsV [(0, 1)]) X) (hk : C.env.kindOf (Str.ofString "TRUTHS") = some .globalImplicit := by rfl) : Ev C X (.Name (Str.ofString "TRUTHS") pos) Q := by
  intro s S
  have e : nsIn C.G.K mainGlobals (Str.ofString "TRUTHS") = some (some (.ref 141)) := by rw [hG]; rfl
  refine Name_function_global S.H.std.fn hk (loadGlobal_global (mg := C.G.mg) ?_ (mg_of S.H.std.K S.H.std.top.g e) ?_) (by decide)
  · rw [S.H.std.gl]; exact S.top.g
  · have k1 : ∃ t u n, C.G.K.lookup 140 = some { cls := .type "tuple", data := .seq ([.int 0 t, .int 1 u] : List Value).toArray n } ∧ n = 0 := by rw [hG]; exact ⟨_, _, _, rfl, rfl⟩
    have k2 : ∃ n, C.G.K.lookup 141 = some { cls := .type "tuple", data := .seq ([.ref 140] : List Value).toArray n } ∧ n = 0 := by rw [hG]; exact ⟨_, rfl, rfl⟩
    obtain ⟨t, u, _, k1, rfl⟩ := k1
    obtain ⟨_, k2, rfl⟩ := k2
    have nN : ∀ b o, C.G.K.lookup b = some o → b ∉ X.N := fun b o e hm => S.H.apart b (List.mem_cons_of_mem _ (List.mem_append_right _ hm)) o (S.H.std.base b o (S.H.std.K b o e))
    exact fin0 S (.tup (S.K _ _ k2) (nN _ _ k2) (.cons (.tup (S.K _ _ k1) (nN _ _ k1) (.cons (.int 0 t) (.cons (.int 1 u) .nil))) .nil)) q
end
end
section
section
variable {C : Cx} {X : AS} {Q : V → AS → Prop}
theorem CompOK.fm {α : Type} {Y : AS} {scope : Scope} {elt tgt : Expr} {ifs : List Expr} {items : List α} {toV : α → V} {M : List (Addr × MO)} {ok : List (Addr × MO) → Prop} {Q : V → AS → Prop} (R : Addr → List Sl → Prop) (g : α → Option V)
    (hR : ∀ L, R L (cslots Y.ρ (L + 1) scope.names)) (hl : items.length ≤ sizeLine) (hok : ∀ D r, ok ((D, .lst r) :: M))
    (turn : ∀ L Kp, (∀ b o, C.Kp b o → Kp b o) → ∀ x, x ∈ items → ∀ ρ M', M.Sublist M' → (∃ P, M' = P ++ M) → R L ρ → As (cxK C scope L Kp) ⟨ρ, M'⟩ tgt (toV x) (fun W => Ifs (cxK C scope L Kp) W ifs (fun c W' =>
      if c = true then Ev (cxK C scope L Kp) W' elt (fun v W'' => g x = some v ∧ W''.mem = M' ∧ R L W''.ρ) else g x = none ∧ W'.mem = M' ∧ R L W'.ρ)))
    (q : Q (.lst (items.filterMap g)) ⟨Y.ρ, M⟩) : CompOK C Y scope elt tgt ifs [] (items.map toV) M ok Q := fun L D Kp hKp =>
  ⟨fun j Z => Z.mem = (D, .lst ((items.take j).filterMap g)) :: M ∧ R L Z.ρ, ⟨by simp, hR L⟩, fun j Z h => by rw [h.1]; exact hok _ _, fun j x Z F hx hI => by
    rw [List.getElem?_map] at hx
    obtain ⟨x, hx', rfl⟩ := Option.map_eq_some_iff.mp hx
    have hxm : x ∈ items := List.mem_of_getElem? hx'
    have ht : items.take (j + 1) = items.take j ++ [x] := by rw [List.take_add_one, hx']; rfl
    have h1 := turn L Kp hKp x hxm Z.ρ (F ++ Z.mem) (by rw [hI.1]; exact (List.sublist_cons_self _ _).trans (List.sublist_append_right _ _)) ⟨F ++ [(D, .lst ((items.take j).filterMap g))], by rw [hI.1]; simp⟩ hI.2
    have hlen : ((items.take j).filterMap g).length ≤ sizeLine := Nat.le_trans (Nat.le_trans (List.length_filterMap_le _ _) (by rw [List.length_take]; exact Nat.min_le_right _ _)) hl
    refine fun s S a r => wpAny_mono (h1 s S a r) (fun u s1 gd => ?_) fun _ _ e => e
    obtain ⟨_, W, hW, S1, r1, m1⟩ := gd
    refine ⟨(), W, TW.mono hW fun c W' hc => ?_, S1, r1, m1⟩
    cases c with
    | false =>
      simp only [Bool.false_eq_true, if_false] at hc ⊢
      obtain ⟨h0, h2, h3⟩ := hc
      obtain ⟨ρ', mem'⟩ := W'
      simp only at h2 h3; subst h2
      exact ⟨⟨ρ', Z.mem⟩, rfl, by rw [ht, List.filterMap_append]; simp [h0, hI.1], h3⟩
    | true =>
      simp only [if_true] at hc ⊢
      refine Emit.mk (TW.mono hc fun v W'' h => ?_)
      obtain ⟨h0, h2, h3⟩ := h
      refine ⟨F, (items.take j).filterMap g, M, by rw [h2, hI.1], hlen, ⟨W''.ρ, (D, .lst ((items.take j).filterMap g ++ [v])) :: M⟩, rfl, ?_, h3⟩
      rw [ht, List.filterMap_append]; simp [h0],
   fun Z hI => ⟨_, M, by rw [hI.1, List.length_map, List.take_length], q⟩⟩
theorem Exs.seq {st : Stmt} {r : List Stmt} {Q : Fl → AS → Prop} (Mid : AS → Prop) (h : Ex C X st (NextK Mid Q)) (h2 : ∀ Y, Mid Y → Exs C Y r Q) : Exs C X (st :: r) Q :=
  Exs.cons (TW.mono h fun fl Y h => by cases fl <;> first | exact h2 Y h | exact h)
theorem CompOK.map {α : Type} {Y : AS} {scope : Scope} {elt tgt : Expr} {items : List α} {toV : α → V} {M : List (Addr × MO)} {ok : List (Addr × MO) → Prop} {Q : V → AS → Prop} (R : Addr → List Sl → Prop) (g : α → V)
    (hR : ∀ L, R L (cslots Y.ρ (L + 1) scope.names)) (hl : items.length ≤ sizeLine) (hok : ∀ D r, ok ((D, .lst r) :: M))
    (turn : ∀ L Kp, (∀ b o, C.Kp b o → Kp b o) → ∀ x, x ∈ items → ∀ ρ M', M.Sublist M' → (∃ P, M' = P ++ M) → R L ρ → As (cxK C scope L Kp) ⟨ρ, M'⟩ tgt (toV x) (fun W => Ev (cxK C scope L Kp) W elt (fun v W'' => v = g x ∧ W''.mem = M' ∧ R L W''.ρ)))
    (q : Q (.lst (items.map g)) ⟨Y.ρ, M⟩) : CompOK C Y scope elt tgt [] [] (items.map toV) M ok Q :=
  CompOK.fm R (fun x => some (g x)) hR hl hok (fun L Kp hK x hx ρ M' h1 h2 h3 s S a r => wpAny_mono (turn L Kp hK x hx ρ M' h1 h2 h3 s S a r) (fun u s1 ⟨b, W, hW, S1, r1, m1⟩ => ⟨b, W, Ifs.nil (ifT rfl (TW.mono hW fun v W'' h => ⟨by rw [h.1], h.2.1, h.2.2⟩)), S1, r1, m1⟩) fun _ _ e => e)
    (by rw [show (fun x => some (g x)) = some ∘ g from rfl, List.filterMap_eq_map]; exact q)
end
end
local macro_rules | `(tactic| walk_at $s:str) => match s.getString.splitOn "." with
  | [l, n, p] => if p == "" then `(tactic| refine $(Lean.mkIdent (.str (.str .anonymous "W") l)) $(Lean.Syntax.mkNumLit n) (by assumption) ?_) else `(tactic| refine $(Lean.mkIdent (.str (.str .anonymous "W") l)) $(Lean.Syntax.mkNumLit n) (by assumption) (?_ : $(Lean.mkIdent (.str .anonymous p)) ..))
  | _ => Lean.Macro.throwUnsupported
local macro_rules | `(tactic| omega) => `(tactic| first | exact Nat.le_trans (by with_reducible assumption) (by decide) | exact Nat.lt_of_le_of_lt (by with_reducible assumption) (by decide) | lia | omega +splitDisjunctions)
section
section
variable {C : Cx} {X : AS} {n : Nat} {Q : V → AS → Prop}
theorem is_made_tup {k kind : Str} {a b : V} (hG : HG C) (hlv : C.lv = n+1) (hk : PyData.strOk k = true) (hk' : PyData.strOk kind = true) (q : Q (.bool (k == kind)) X) : OpL C X (fun vs => call (.ref 149) vs) [.tup [.str k, a, b], .str kind] RV Q := by
  refine OpL.fnP (n := n) ((congrArg (fun K => List.lookup 149 K) hG).trans rfl) (by rw [hG]; rfl) hlv (len2 fun _ _ => rfl) rfl rfl rfl (by decide) rfl rfl rfl ?h
  intro L A Kp hK C'
  walk_at "b0.6.OpL"
  refine OpL.isTuple (.tup _) ?_
  walk_at "run.6.OpL"
  refine OpL.lenT (by simp) ?_
  walk_at "run.11.Op2"
  refine Op2.eqD (x := .str _) (y := .str _) hk hk' (Nat.zero_le _) ?_
  refine retR ?_
  exact q
theorem is_made_int {i : Int} {kind : Str} (hG : HG C) (hlv : C.lv = n+1) (q : Q (.bool false) X) : OpL C X (fun vs => call (.ref 149) vs) [.int i, .str kind] RV Q := by
  refine OpL.fnP (n := n) ((congrArg (fun K => List.lookup 149 K) hG).trans rfl) (by rw [hG]; rfl) hlv (len2 fun _ _ => rfl) rfl rfl rfl (by decide) rfl rfl rfl ?h
  intro L A Kp hK C'
  walk_at "b0.6.OpL"
  refine OpL.isTuple (.int _) ?_
  walk_at "run.2.Out"
  refine retR ?_
  exact q
theorem strOk_sum : PyData.strOk "sum" = true := by decide +kernel
theorem sum_of_full {e : Lin} (hG : HG C) (hlv : C.lv = n+2) (q : Q e.full X) : OpL C X (fun vs => call (.ref 163) vs) [e.full] RV Q := by
  refine OpL.fnP (n := n+1) ((congrArg (fun K => List.lookup 163 K) hG).trans rfl) (by rw [hG]; rfl) hlv (len1 fun _ => rfl) rfl rfl rfl (by decide) rfl rfl rfl ?h
  intro L A Kp hK C'
  walk_at "b0.6.OpL"
  refine is_made_tup hG rfl strOk_sum strOk_sum ⟨_, rfl, ?_⟩
  simp only [beq_self_eq_true, if_true]
  walk_at "run.4.Out"
  refine retR ?_
  exact q
theorem sum_of_int {i : Int} (hG : HG C) (hlv : C.lv = n+2) (q : Q (Lin.full ⟨[], i⟩) X) : OpL C X (fun vs => call (.ref 163) vs) [.int i] RV Q := by
  refine OpL.fnP (n := n+1) ((congrArg (fun K => List.lookup 163 K) hG).trans rfl) (by rw [hG]; rfl) hlv (len1 fun _ => rfl) rfl rfl rfl (by decide) rfl rfl rfl ?h
  intro L A Kp hK C'
  walk_at "b0.6.OpL"
  refine is_made_int hG rfl ⟨_, rfl, ?_⟩
  walk_at "run.9.OpL"
  refine is_made_int hG rfl ⟨_, rfl, ?_⟩
  walk_at "run.10.OpL"
  refine OpL.int ?_
  walk_at "run.1.Out"
  refine retR ?_
  exact q
theorem sum_of_v {e : Lin} (hG : HG C) (hlv : C.lv = n+2) (q : Q e.full X) : OpL C X (fun vs => call (.ref 163) vs) [e.v] RV Q := by
  unfold Lin.v
  split
  · rename_i h; exact sum_of_int hG hlv (by obtain ⟨ps, c⟩ := e; simp only at h; subst h; exact q)
  · exact sum_of_full hG hlv q
theorem is_truth_int {i : Int} (hG : HG C) (hlv : C.lv = n+2) (q : Q (.bool false) X) : OpL C X (fun vs => call (.ref 156) vs) [.int i] RV Q := by
  refine OpL.fnP (n := n+1) ((congrArg (fun K => List.lookup 156 K) hG).trans rfl) (by rw [hG]; rfl) hlv (len1 fun _ => rfl) rfl rfl rfl (by decide) rfl rfl rfl ?h
  intro _ _ _ _ _
  walk_at "b0.6.OpL"
  refine OpL.isBool (.int _) ?_
  walk_at "run.6.OpL"
  refine is_made_int (by exact hG) (by rfl) ?_
  refine retR ?_
  exact q
theorem is_truth_full {e : Lin} (hG : HG C) (hlv : C.lv = n+2) (q : Q (.bool false) X) : OpL C X (fun vs => call (.ref 156) vs) [e.full] RV Q := by
  refine OpL.fnP (n := n+1) ((congrArg (fun K => List.lookup 156 K) hG).trans rfl) (by rw [hG]; rfl) hlv (len1 fun _ => rfl) rfl rfl rfl (by decide) rfl rfl rfl ?h
  intro _ _ _ _ _
  walk_at "b0.6.OpL"
  refine OpL.isBool (.tup _) ?_
  walk_at "run.6.OpL"
  refine is_made_tup (by exact hG) (by rfl) strOk_sum strOk_bit ?_
  refine retR ?_
  exact q
theorem is_truth_v {e : Lin} (hG : HG C) (hlv : C.lv = n+2) (q : Q (.bool false) X) : OpL C X (fun vs => call (.ref 156) vs) [e.v] RV Q := by
  unfold Lin.v
  split
  · exact is_truth_int hG hlv q
  · exact is_truth_full hG hlv q
theorem contrary_spec {t : Tv} (hG : HG C) (hlv : C.lv = n+1) (q : Q t.not.v X) : OpL C X (fun vs => call (.ref 175) vs) [t.v] RV Q := by
  refine OpL.fnP (n := n) ((congrArg (fun K => List.lookup 175 K) hG).trans rfl) (by rw [hG]; rfl) hlv (len1 fun _ => rfl) rfl rfl rfl (by decide) rfl rfl rfl ?h
  intro _ _ _ _ _
  walk_at "b0.7.OpL"
  refine OpL.isBool t.plain ?_
  cases t with
  | tt b =>
    walk_at "run.4.Op1"
    refine Op1.not ?_
    refine retR ?_
    exact q
  | bit x s =>
    dsimp only [Tv.v, V.isBool, bitV]
    walk_at "run.13.Op1"
    refine Op1.not ?_
    walk_at "run.1.Out"
    refine retR ?_
    exact q
theorem least_spec {lo : V} {r l : List V} (hG : HG C) (hlv : C.lv = n + 1) (q : Q lo X) : OpL C X (fun vs => call (.ref 35) vs) [.tup (.tup (lo :: r) :: l)] RV Q := by
  refine OpL.fnP (n := n) ((congrArg (fun K => List.lookup 35 K) hG).trans rfl) (by rw [hG]; rfl) hlv (len1 fun _ => rfl) rfl rfl rfl (by decide) rfl rfl rfl ?h
  intro _ _ _ _ _
  walk_at "b0.9.Out"
  refine retR ?_
  exact q
theorem greatest_spec {a hi : V} {l : List V} (hG : HG C) (hlv : C.lv = n + 1) (hl : l.getLast? = some (.tup [a, hi])) (q : Q hi X) : OpL C X (fun vs => call (.ref 42) vs) [.tup l] RV Q := by
  refine OpL.fnP (n := n) ((congrArg (fun K => List.lookup 42 K) hG).trans rfl) (by rw [hG]; rfl) hlv (len1 fun _ => rfl) rfl rfl rfl (by decide) rfl rfl rfl ?h
  intro _ _ _ _ _
  walk_at "b0.7.Op1"
  refine Op1.neg ?_
  refine Op2.iT1 hl ?_
  walk_at "run.2.Out"
  refine retR ?_
  exact q
theorem MOST (hG : HG C) : nsIn C.G.K mainGlobals "MOST_SHOWN" = some (some (.int 1000 341)) := by rw [hG]; rfl
theorem within_spec {i : Int} (hG : HG C) (hlv : C.lv = n + 1) (h : i.natAbs < 10 ^ 1000) (q : Q (.int i) X) : OpL C X (fun vs => call (.ref 139) vs) [.int i] RV Q := by
  refine OpL.fnP (n := n) ((congrArg (fun K => List.lookup 139 K) hG).trans rfl) (by rw [hG]; rfl) hlv (len1 fun _ => rfl) rfl rfl rfl (by decide) rfl rfl rfl ?h
  intro _ _ _ _ _
  walk_at "b0.5.OpL"
  refine OpL.abs ?_
  walk_at "run.2.Ev"
  refine Ev.globI rfl (MOST (by exact hG)) ?_
  refine Op2.pow (by decide) (by decide) (by decide) ?_
  refine Op2.ge ?_
  refine ⟨_, rfl, ifF ?_ ?_⟩
  · have e : (10 : Int) ^ (1000 : Int).toNat = ((10 ^ 1000 : Nat) : Int) := by
      rw [Int.natCast_pow]; rfl
    rw [e]
    simp only [decide_eq_true_eq]
    split <;> omega
  walk_at "b.4.Out"
  refine retR ?_
  exact q
end
end
section
section
variable {C : Cx} {X : AS} {n : Nat} {Q : V → AS → Prop}
theorem pow_big : (10 : Nat) ^ 9 < 10 ^ 1000 := Nat.pow_lt_pow_right (by decide) (by decide)
theorem stZ_len (kvs : List (Int × Int)) (k v : Int) : (stZ kvs k v).length ≤ kvs.length + 1 := by unfold stZ; split <;> simp
theorem stZ_small {kvs : List (Int × Int)} {k v : Int} {B : Nat} (h : ∀ p ∈ kvs, p.2.natAbs ≤ B) (hv : v.natAbs ≤ B) : ∀ p ∈ stZ kvs k v, p.2.natAbs ≤ B := by
  unfold stZ
  split
  · intro p hp
    obtain ⟨q, hq, rfl⟩ := List.mem_map.mp hp
    split
    · exact hv
    · exact h q hq
  · intro p hp
    rcases List.mem_append.mp hp with hp | hp
    · exact h p hp
    · simp at hp; subst hp; exact hv
theorem getZ_mem {kvs : List (Int × Int)} {k v : Int} (h : getZ kvs k = some v) : (k, v) ∈ kvs := by
  unfold getZ at h
  cases hf : kvs.find? (fun p => decide (p.1 = k)) with
  | none => rw [hf] at h; cases h
  | some p =>
    rw [hf] at h
    have h1 := List.mem_of_find?_eq_some hf
    have h2 := List.find?_some hf
    simp at h h2
    obtain ⟨a, b⟩ := p
    simp at h h2; subst h h2; exact h1
theorem step_small {kvs : List (Int × Int)} {e : Int × Int} {f : Int} {B : Nat} (h : ∀ p ∈ kvs, p.2.natAbs ≤ B) (hf : f.natAbs ≤ 10) (he : e.2.natAbs ≤ 10 ^ 6) : ((getZ kvs e.1).getD 0 + f * e.2).natAbs ≤ B + 10 ^ 7 := by
  have h1 : ((getZ kvs e.1).getD 0).natAbs ≤ B := by
    cases hg : getZ kvs e.1 with
    | none => simp
    | some v => simpa using h _ (getZ_mem hg)
  exact nab h1 (nmu hf he (Nat.le_refl _)) (Nat.le_refl _)
theorem plusD_len (f : Int) : ∀ (q p : List (Int × Int)), (plusD p q f).length ≤ p.length + q.length
  | [], p => by simp [plusD]
  | e :: q, p => by
    have h1 := plusD_len f q (addStep f p e)
    have h2 := stZ_len p e.1 ((getZ p e.1).getD 0 + f * e.2)
    simp only [plusD, List.foldl_cons, List.length_cons] at h1 ⊢
    unfold addStep at h1 ⊢
    omega
theorem plusD_small {f : Int} (hf : f.natAbs ≤ 10) : ∀ {q p : List (Int × Int)} {j B : Nat}, (∀ e ∈ p, e.2.natAbs ≤ B) → (∀ e ∈ q, e.2.natAbs ≤ 10 ^ 6) → q.length ≤ j → ∀ e ∈ plusD p q f, e.2.natAbs ≤ B + j * 10 ^ 7
  | [], p, j, B, hp, _, _, e, he => Nat.le_trans (hp e he) (Nat.le_add_right _ _)
  | x :: q, p, 0, B, hp, hq, hl, e, he => by simp at hl
  | x :: q, p, j + 1, B, hp, hq, hl, e, he => by
    have h1 := step_small hp hf (hq x (.head _))
    have := plusD_small hf (q := q) (p := addStep f p x) (j := j) (B := B + 10 ^ 7) (stZ_small (fun e he => Nat.le_trans (hp e he) (Nat.le_add_right _ _)) h1) (fun e he => hq e (.tail _ he)) (by simpa using hl) e he
    omega
theorem getZ_some {kvs : List (Int × Int)} {x : Int} (h : x ∈ kvs.map (·.1)) : ∃ v, getZ kvs x = some v := by
  obtain ⟨p, hp, rfl⟩ := List.mem_map.mp h
  unfold getZ
  cases hf : kvs.find? (fun q => decide (q.1 = p.1)) with
  | none => have := List.find?_eq_none.mp hf p hp; simp at this
  | some q => exact ⟨q.2, rfl⟩
theorem eqb_nil (l : List V) : (V.tup l).eqb (.tup []) = l.isEmpty := by cases l <;> rfl
theorem pairs_data (l : List (Int × Int)) : V.datas (l.map pairV) = true := datas_all fun x hx => by obtain ⟨p, _, rfl⟩ := List.mem_map.mp hx; rfl
theorem pairs_dep (l : List (Int × Int)) : (V.tup (l.map pairV)).dep ≤ 2 := Nat.succ_le_succ (deps_all fun x hx => by obtain ⟨p, _, rfl⟩ := List.mem_map.mp hx; exact Nat.le_refl _)
theorem small_mul {i j : Int} (h : i.natAbs ≤ 10 ^ 9) (h' : j.natAbs ≤ 10 ^ 9) : IntMulOk i j := IntMulOk.of_left (intBits_le_64 (by omega) (by omega))
theorem plusZ_eq (p q : List (Int × Int)) (f : Int) : ((sortZ ((plusD p q f).map (·.1))).map V.int).filterMap (fun x => match x with | .int x => (match getZ (plusD p q f) x with | some v => if v = 0 then none else some (pairV (x, v)) | none => none) | _ => none) = (plusZ p q f).map pairV := by
  unfold plusZ
  rw [List.filterMap_map, List.map_filterMap]
  congr 1
  funext x
  simp only [Function.comp]
  cases getZ (plusD p q f) x with
  | none => rfl
  | some v => by_cases h : v = 0 <;> simp [h]
theorem plus_spec {e g : Lin} {f : Int} (hG : HG C) (hlv : C.lv = n+3) (he : e.OK) (hg : g.OK) (hf : f.natAbs ≤ 10) (q : Q (e.plus g f).v X) : OpL C X (fun vs => call (.ref 168) vs) [e.v, g.v, .int f] RV Q := by
  refine OpL.fnP (n := n+2) ((congrArg (fun K => List.lookup 168 K) hG).trans rfl) (by rw [hG]; rfl) hlv (len3 fun _ _ _ => rfl) rfl rfl rfl (by decide) rfl rfl rfl ?h
  intro L A Kp hK C'
  walk_at "b0.5.OpL"
  refine sum_of_v (by exact hG) (by rfl) ?_
  walk_at "run.2.OpL"
  refine sum_of_v (by exact hG) (by rfl) ?_
  walk_at "run.10.OpL"
  refine OpL.dictP he.nodup (Nat.le_trans he.len (by decide)) fun d => ?_
  walk_at "run.12.Op2"
  have hcs := he.csmall
  have hgs := hg.csmall
  refine Op2.mul (small_mul (by omega) (by omega)) ?_
  walk_at "run.1.OpL"
  refine within_spec (by exact hG) (by rfl) ?_ ?_
  · exact Nat.lt_of_le_of_lt (nab hcs (nmu hf hgs (Nat.le_refl _)) (by decide) : (e.c + f * g.c).natAbs ≤ 10 ^ 9) pow_big
  walk_at "run.3.And"; refine ⟨by first | exact memA | exact memB | exact memC | exact memD, ?_⟩; walk_at "run.2.Ex"
  refine Ex.for (l := g.ps.map pairV) (ok := fun _ => True) (fun j Z => (∃ xv av, Z.ρ = [⟨"one", none, some e.full⟩, ⟨"other", none, some g.full⟩, ⟨"factor", none, some (.int f)⟩, ⟨"parts", some (L + 1), some (.raw (.ref d))⟩, ⟨"constant", none, some (.int (e.c + f * g.c))⟩, ⟨"x", none, xv⟩, ⟨"a", none, av⟩, ⟨"found", none, none⟩]) ∧
      Z.mem = (d, .dI (ivs (plusD e.ps (g.ps.take j) f))) :: X.mem) ?_ (fun _ _ _ => trivial) ?_ ?_
  · walk_at "e0.4.Exists"
    exact ⟨_, MkIter.tup, ⟨_, _, rfl⟩, rfl⟩
  · intro j x Z F hx hI
    obtain ⟨ρ, mem⟩ := Z
    obtain ⟨⟨xv, av, hρ⟩, hm⟩ := hI
    simp only at hρ hm
    subst hρ hm
    rw [List.getElem?_map] at hx
    obtain ⟨p, hp, rfl⟩ := Option.map_eq_some_iff.mp hx
    unfold pairV
    walk_at "a0.3.TW"; walk_at "b0.6.Exists"
    refine ⟨_, IsMeth.getI' (List.mem_append_right _ (List.mem_cons_self ..)), ?_⟩
    walk_at "m.2.OpL"
    refine OpL.getI' (List.mem_append_right _ (List.mem_cons_self ..)) ?_
    have hpm : p ∈ g.ps := List.mem_of_getElem? hp
    have hjl : j < g.ps.length := (List.getElem?_eq_some_iff.mp hp).1
    have hgl := hg.len
    have hel := he.len
    have hstep := step_small (kvs := plusD e.ps (g.ps.take j) f) (e := p) (f := f) (B := 10 ^ 6 + j * 10 ^ 7) (plusD_small hf he.small (fun x hx => hg.small x (List.mem_of_mem_take hx)) (by simp; omega)) hf (hg.small p hpm)
    rw [lookK_ivs, show ((getZ (plusD e.ps (g.ps.take j) f) p.1).map V.int).getD (V.int 0) = V.int ((getZ (plusD e.ps (g.ps.take j) f) p.1).getD 0) by cases getZ (plusD e.ps (g.ps.take j) f) p.1 <;> rfl]
    walk_at "run.3.Op2"
    have hps := hg.small p hpm
    refine Op2.mul (small_mul (by omega) (by omega)) ?_
    walk_at "run.1.OpL"
    refine within_spec (by exact hG) (by rfl) ?_ ?_
    · refine Nat.lt_of_le_of_lt hstep (Nat.lt_trans ?_ pow_big)
      omega
    walk_at "run.3.Op3"
    have hlen := plusD_len f (g.ps.take j) e.ps
    refine setI' ?_ ?_
    · simp only [ivs, List.length_map]; rw [sizeLine_eq]; simp only [List.length_take] at hlen; omega
    walk_at "run.1.Back"
    refine turnOK ⟨⟨_, _, rfl⟩, ?_⟩
    have ht : g.ps.take (j + 1) = g.ps.take j ++ [p] := by
      rw [List.take_succ, hp]; rfl
    rw [ht, stI_ivs]
    simp only [plusD, List.foldl_append, List.foldl_cons, List.foldl_nil, addStep]
  · intro Z hI
    obtain ⟨ρ, mem⟩ := Z
    obtain ⟨⟨xv, av, hρ⟩, hm⟩ := hI
    simp only at hρ hm
    subst hρ hm
    simp only [List.length_map, List.take_length]
    walk_at "run.3.Ev"
    have hlen := plusD_len f g.ps e.ps
    have hgl := hg.len
    have hel := he.len
    refine Ev.comp (gens1 rfl (fun _ _ => rfl)) ?_ rfl (by decide) rfl
    walk_at "e0.2.OpL"
    refine OpL.sortedD' (List.mem_cons_self ..) (by simp only [ivs, List.length_map]; omega) ?_
    refine ⟨_, _, _, MkIter.lst, CompOK.pure (fun _ ρ => ∃ a b, ρ = [⟨".0", none, a⟩, ⟨"x", none, b⟩, ⟨"parts", some (L + 1), some (.raw (.ref d))⟩])
      (fun x => match x with | .int x => (match getZ (plusD e.ps g.ps f) x with | some v => if v = 0 then none else some (pairV (x, v)) | none => none) | _ => none) (fun L' => ⟨_, _, rfl⟩) ?_ (fun _ _ => trivial) ?_ ?_⟩
    · simp only [List.length_map, (sortZ_perm _).length_eq, ivs_keys]; rw [sizeLine_eq]; omega
    · intro L' Kp' hKp x hx ρ M' hM ⟨a, b, hρ⟩
      subst hρ
      obtain ⟨xi, hxi, rfl⟩ := List.mem_map.mp hx
      obtain ⟨v, hv⟩ := getZ_some (x := xi) (by have := (sortZ_perm _).mem_iff.mp hxi; rwa [ivs_keys] at this)
      have hlk : lookK (ivs (plusD e.ps g.ps f)) xi = some (.int v) := by rw [lookK_ivs, hv]; rfl
      walk_at "a0.1.TW"
      refine Ifs.one ?_
      walk_at "t0.4.Op2"
      refine Op2.itemI' (hM.subset (List.mem_cons_self ..)) hlk ?_
      walk_at "run.3."
      refine ifB (fun hc => ?_) fun hc => ?_
      · walk_at "e0.5.Op2"
        refine Op2.itemI' (hM.subset (List.mem_cons_self ..)) hlk ?_
        walk_at "run.1.And"
        refine ⟨?_, rfl, _, _, rfl⟩
        simp at hc
        simp [hv, hc, pairV]
      · refine ⟨?_, rfl, _, _, rfl⟩
        simp at hc
        simp [hv, hc]
    · rw [ivs_keys, plusZ_eq]
      walk_at "run.0.OpL"
      have hlz : (plusZ e.ps g.ps f).length ≤ 100 := by
        unfold plusZ
        refine Nat.le_trans (List.length_filterMap_le _ _) ?_
        rw [(sortZ_perm _).length_eq, List.length_map]; omega
      refine OpL.tuple (by rw [sizeLine_eq, List.length_map]; omega) ?_
      walk_at "run.8.Op2"
      refine Op2.neD (x := .tup _) (y := .tup []) (pairs_data _) rfl (Nat.le_trans (pairs_dep _) (by decide)) ?_
      rw [eqb_nil]
      refine ⟨_, rfl, ifB (fun hc => ?_) fun hc => ?_⟩
      · walk_at "e.5.Out"
        refine retOK (List.sublist_cons_self _ _) ?_
        have e1 : (e.plus g f).v = V.tup [V.str "sum", V.tup ((plusZ e.ps g.ps f).map pairV), V.int (e.c + f * g.c)] := by
          unfold Lin.v
          rw [if_neg (by intro h; have h' : plusZ e.ps g.ps f = [] := h; rw [h'] at hc; simp at hc)]
          rfl
        rw [e1] at q
        exact q
      · walk_at "e.1.Out"
        refine retOK (List.sublist_cons_self _ _) ?_
        have e1 : (e.plus g f).v = V.int (e.c + f * g.c) := by
          unfold Lin.v
          rw [if_pos (by simp at hc; exact hc)]
          rfl
        rw [e1] at q
        exact q
end
end
section
section
variable {C : Cx} {X : AS} {n : Nat} {Q : V → AS → Prop}
noncomputable def gcdZ (ns : List Int) : Int := ns.foldl (fun f a => ((Int.gcd f a : Nat) : Int)) 0
theorem gcdZ_nonneg (ns : List Int) : 0 ≤ gcdZ ns := by
  unfold gcdZ
  have : ∀ (l : List Int) (z : Int), 0 ≤ z → 0 ≤ l.foldl (fun f a => ((Int.gcd f a : Nat) : Int)) z := by
    intro l
    induction l with
    | nil => intro z h; exact h
    | cons a l ih => intro z _; exact ih _ (Int.natCast_nonneg _)
  exact this ns 0 (Int.le_refl _)
theorem common_spec {ns : List Int} (hG : HG C) (hlv : C.lv = n+1) (q : Q (.int (gcdZ ns)) X) : OpL C X (fun vs => call (.ref 182) vs) [.lst (ns.map .int)] RV Q := by
  refine OpL.fnP (n := n) ((congrArg (fun K => List.lookup 182 K) hG).trans rfl) (by rw [hG]; rfl) hlv (len1 fun _ => rfl) rfl rfl rfl (by decide) rfl rfl rfl ?h
  intro L A Kp hK C'
  walk_at "b0.5.Ex"
  refine Ex.for (l := ns.map V.int) (ok := fun _ => True) (fun j Z => (∃ av rv, Z.ρ = [⟨"numbers", none, some (.lst (ns.map .int))⟩, ⟨"found", none, some (.int (gcdZ (ns.take j)))⟩, ⟨"a", none, av⟩, ⟨"rest", none, rv⟩]) ∧ Z.mem = X.mem) ?_ (fun _ _ _ => trivial) ?_ ?_
  · walk_at "e0.1.Exists"
    exact ⟨_, MkIter.lst, ⟨_, _, rfl⟩, rfl⟩
  · intro j x Z F hx hI
    obtain ⟨ρ, mem⟩ := Z
    obtain ⟨⟨av, rv, hρ⟩, hm⟩ := hI
    simp only at hρ hm
    subst hρ hm
    rw [List.getElem?_map] at hx
    obtain ⟨p, hp, rfl⟩ := Option.map_eq_some_iff.mp hx
    walk_at "a0.1.TW"; walk_at "b0.5.OpL"
    refine OpL.abs ?_
    walk_at "run.4.Ex"
    refine Ex.while (fun m Z => ∃ fo re : Int, 0 ≤ fo ∧ 0 ≤ re ∧ m = re.toNat ∧ Int.gcd fo re = Int.gcd (gcdZ (ns.take j)) p ∧ Z.ρ = [⟨"numbers", none, some (.lst (ns.map .int))⟩, ⟨"found", none, some (.int fo)⟩, ⟨"a", none, some (.int p)⟩, ⟨"rest", none, some (.int re)⟩] ∧ Z.mem = F ++ X.mem) (gcdZ (ns.take j)).toNat ?_ ?_
    · have := gcdZ_nonneg (ns.take j)
      refine ⟨_, _, ?_, this, rfl, ?_, rfl, rfl⟩
      · split <;> omega
      · have e : (if p < 0 then -p else p) = ((p.natAbs : Nat) : Int) := by split <;> omega
        rw [e, Int.gcd_comm]
        simp [Int.gcd]
    · rintro m ⟨ρ, mem⟩ ⟨fo, re, h1, h2, h3, h4, hρ, hm⟩
      simp only at hρ hm
      subst hρ hm h3
      walk_at "t0.5."
      refine ifB (fun hc => ?_) fun hc => ?_
      · simp only [gt_iff_lt, decide_eq_true_eq] at hc
        walk_at "b0.7.Op2"
        refine Op2.mod (by omega) ?_
        walk_at "run.3.Exists"
        have h5 : 0 ≤ fo.fmod re := Int.fmod_nonneg h1 h2
        have h6 : fo.fmod re < re := Int.fmod_lt_of_pos _ hc
        refine ⟨(fo.fmod re).toNat, by omega, re, fo.fmod re, h2, h5, rfl, ?_, rfl, rfl⟩
        rw [← h4, Int.fmod_eq_emod_of_nonneg _ h2]
        obtain ⟨a, rfl⟩ := Int.eq_ofNat_of_zero_le h1
        obtain ⟨b, rfl⟩ := Int.eq_ofNat_of_zero_le h2
        rw [← Int.natCast_emod]
        simp only [Int.gcd, Int.natAbs_natCast]
        rw [Nat.gcd_comm b, ← Nat.gcd_rec, Nat.gcd_comm]
      · simp only [gt_iff_lt, decide_eq_false_iff_not] at hc
        have e0 : re = 0 := by omega
        subst e0
        walk_at "run.1.Back"
        have hfo : fo = gcdZ (ns.take (j + 1)) := by
          have ht : ns.take (j + 1) = ns.take j ++ [p] := by rw [List.take_add_one, hp]; rfl
          rw [ht]
          unfold gcdZ at h4 ⊢
          rw [List.foldl_append]
          simp only [List.foldl_cons, List.foldl_nil]
          rw [← h4]
          simp [Int.gcd]; omega
        refine turnOK ⟨⟨some (.int p), some (.int 0), ?_⟩, rfl⟩
        rw [hfo]
  · intro Z hI
    obtain ⟨ρ, mem⟩ := Z
    obtain ⟨⟨av, rv, hρ⟩, hm⟩ := hI
    simp only at hρ hm
    subst hρ hm
    simp only [List.length_map, List.take_length]
    walk_at "run.3.Out"
    refine retR ?_
    exact q
end
end
section
section
variable {C : Cx} {ρ : List Sl} {n : Nat} {Q : V → AS → Prop} {σ : Sg} {g : G} {P T : List (Addr × MO)}
theorem post_spec {v : V} (hG : HG C) (hlv : C.lv = n+1) (hS : Self C.Kp σ) (hz : g.tolds.length ≤ 1000000) (q : Q .none ⟨ρ, P ++ gmem σ { g with tolds := g.tolds ++ [v] } T⟩) :
    OpL C ⟨ρ, P ++ gmem σ g T⟩ (fun vs => call (.ref 111) vs) [.raw (.ref σ.fl), v] RV Q := by
  refine OpL.fnP (n := n) ((congrArg (fun K => List.lookup 111 K) hG).trans rfl) (by rw [hG]; rfl) hlv (len2 fun _ _ => rfl) rfl rfl rfl (by decide) rfl rfl rfl ?h
  intro L A Kp hK C'
  have hS' := hS.weaken hK
  walk_at "b0.5.Exists"; refine ⟨_, at_tolds (by assumption) (by assumption), ?_⟩; walk_at "run.0.Exists"
  refine ⟨_, IsMeth.append _ gm_t, ?_⟩
  walk_at "m.1.OpL"
  refine OpL.append _ gm_t (by rw [sizeLine_eq]; omega) ?_
  rw [gs_t]
  walk_at "run.2.Out"
  refine retNone (List.Sublist.refl _) ?_
  exact q
theorem size_spec (hG : HG C) (hlv : C.lv = n+1) (hS : Self C.Kp σ) (hz : g.vars.length ≤ 1000000) (q : Q (.int g.vars.length) ⟨ρ, P ++ gmem σ g T⟩) :
    OpL C ⟨ρ, P ++ gmem σ g T⟩ (fun vs => call (.ref 118) vs) [.raw (.ref σ.fl)] RV Q := by
  refine OpL.fnP (n := n) ((congrArg (fun K => List.lookup 118 K) hG).trans rfl) (by rw [hG]; rfl) hlv (len1 fun _ => rfl) rfl rfl rfl (by decide) rfl rfl rfl ?h
  intro L A Kp hK C'
  have hS' := hS.weaken hK
  walk_at "b0.5.Exists"; refine ⟨_, at_vars (by assumption) (by assumption), ?_⟩; walk_at "run.0.OpL"
  refine OpL.lenM _ gm_v (by omega) ?_
  refine retR ?_
  exact q
theorem new_var_spec {nm dom : V} (hG : HG C) (hlv : C.lv = n+1) (hS : Self C.Kp σ) (hz : g.vars.length ≤ 1000000) (q : Q (.int g.vars.length) ⟨ρ, P ++ gmem σ { g with vars := g.vars ++ [.tup [nm, dom]] } T⟩) :
    OpL C ⟨ρ, P ++ gmem σ g T⟩ (fun vs => call (.ref 104) vs) [.raw (.ref σ.fl), nm, dom] RV Q := by
  refine OpL.fnP (n := n) ((congrArg (fun K => List.lookup 104 K) hG).trans rfl) (by rw [hG]; rfl) hlv (len3 fun _ _ _ => rfl) rfl rfl rfl (by decide) rfl rfl rfl ?h
  intro L A Kp hK C'
  have hS' := hS.weaken hK
  walk_at "b0.5.Exists"; refine ⟨_, at_vars (by assumption) (by assumption), ?_⟩; walk_at "run.0.Exists"
  refine ⟨_, IsMeth.append _ gm_v, ?_⟩
  walk_at "m.4.OpL"
  refine OpL.append _ gm_v (by rw [sizeLine_eq]; omega) ?_
  rw [gs_v]
  walk_at "run.7.Exists"; refine ⟨_, at_vars (by assumption) (by assumption), ?_⟩; walk_at "run.0.OpL"
  refine OpL.lenM _ gm_v (by simp; omega) ?_
  walk_at "run.2.Out"
  refine retR ?_
  have e : (((g.vars ++ [V.tup [nm, dom]]).length : Nat) : Int) - 1 = g.vars.length := by simp
  rw [e]
  exact q
theorem domain_of_spec {nm dom : V} {x : Int} (hG : HG C) (hlv : C.lv = n+1) (hS : Self C.Kp σ) (hx0 : 0 ≤ x) (hx1 : x < 2 ^ 62) (hx : g.vars[x.toNat]? = some (.tup [nm, dom])) (q : Q dom ⟨ρ, P ++ gmem σ g T⟩) :
    OpL C ⟨ρ, P ++ gmem σ g T⟩ (fun vs => call (.ref 125) vs) [.raw (.ref σ.fl), .int x] RV Q := by
  refine OpL.fnP (n := n) ((congrArg (fun K => List.lookup 125 K) hG).trans rfl) (by rw [hG]; rfl) hlv (len2 fun _ _ => rfl) rfl rfl rfl (by decide) rfl rfl rfl ?h
  intro L A Kp hK C'
  have hS' := hS.weaken hK
  walk_at "b0.6.Exists"; refine ⟨_, at_vars (by assumption) (by assumption), ?_⟩; walk_at "run.1.Op2"
  refine Op2.itemM _ gm_v (j := x.toNat) ?_ hx (by omega) (by omega) ?_
  · have := seqIndex_nat hx
    rwa [Int.toNat_of_nonneg hx0] at this
  walk_at "run.2.Out"
  refine retR ?_
  exact q
end
end
section
section
variable {C : Cx} {X : AS} {Q : V → AS → Prop} {σ : Sg} {g : G} {P T : List (Addr × MO)}
theorem KH.append {h : Heap} {N : List Addr} {k : Key} {a : Addr} {v : Value} {x : V} (rk : Rep h N (.ref a) k.v) (rv : Rep h N v x) {vs : List (Key × Addr × Value)} {l : List (Key × V)} (r : KH h N vs l) : KH h N (vs ++ [(k, a, v)]) (l ++ [(k, x)]) := by
  induction l generalizing vs with
  | nil => rw [r.nil_inv]; exact .cons rk rv .nil
  | cons e l ih => obtain ⟨b, w, ws, hv, p, q, r⟩ := r.inv; rw [hv]; exact .cons p q (ih r)
theorem KH.length {h : Heap} {N : List Addr} {vs : List (Key × Addr × Value)} {l : List (Key × V)} (r : KH h N vs l) : vs.length = l.length := by
  induction l generalizing vs with
  | nil => rw [r.nil_inv]; rfl
  | cons e l ih => obtain ⟨b, w, ws, hv, p, q, r⟩ := r.inv; rw [hv]; exact congrArg Nat.succ (ih r)
theorem setK {kvs : List (Key × V)} {d : Addr} {key : Key} {y : V} {Q : AS → Prop} (k : Nat) (hi : X.mem[k]? = some (d, .dK kvs)) (hz : kvs.length ≤ sizeLine) (hn : lookK kvs key = none) (q : Q { X with mem := X.mem.set k (d, .dK (kvs ++ [(key, y)])) }) :
    Op3 C X setItem (.raw (.ref d)) key.v y RE (fun (_ : Unit) W => Q W) := fun s S a b c ra rb rc => by
  cases ra
  obtain ⟨xs, hd, hkv⟩ := (S.at hi).dictK
  have rb0 := rb
  obtain ⟨b', rfl, rb'⟩ := key_ref rb
  have hlk := hkv.look (k := key)
  rw [hn] at hlk
  refine wpAny_setItem_heap (knd := kk C.G.prog C.G.w) (k := key) ?_ rb' hd (fun h' hd' hb => ?_) (by rw [hkv.length]; exact hz)
  · show C.A.units + 1 + 10 < cLine
    have := S.H.std.units; omega
  have hdN : d ∈ X.N := List.mem_map.mpr ⟨_, List.mem_of_getElem? hi, rfl⟩
  have kk' : ∀ (b : Addr) (o : Obj), s.heap.get? b = some o → SeqObj o → b ∉ X.N → h'.get? b = some o ∧ b ∉ X.N := fun b o e _ n => ⟨hb.extBut b o (fun q => n (q ▸ hdN)) e, n⟩
  rw [storedH_new hlk] at hd'
  obtain ⟨o, es, ep, e1, r1, r2, r3, r4, r5⟩ := hd'
  exact ⟨(), _, q, ⟨S.H.write (mo' := .dK (kvs ++ [(key, y)])) hi hb ⟨o, es, ep, _, e1, r1, r2, r3, r5, KH.append (rb0.map kk') (rc.map kk') (hkv.map kk')⟩, S.gens, S.os⟩, rfl, Mono.write hi hb⟩
theorem lookK_kvs (l : List (Key × Int)) (k : Key) : lookK (kvsK l) k = ((l.find? fun p => decide (p.1 = k)).map (·.2)).map .int := by
  unfold lookK kvsK
  rw [List.find?_map, Option.map_map, Option.map_map]
  rfl
noncomputable def getM (l : List (Key × Int)) (k : Key) : Option Int := (l.find? fun p => decide (p.1 = k)).map (·.2)
theorem Ev.fstr {p : Str} {k : Nat} {e : Expr} {pp fp pos : Pos} (hp : p.length ≤ 1000) (h : Ev C X e (fun v Y => ∃ i : Nat, v = .int (i : Int) ∧ i < 2 ^ 64 ∧ Q (.str (Str.empty ++ p ++ Str.ofString (toString (i : Int)))) Y)) :
    Ev C X (.JoinedStr [.Constant (.str p) k pp, .FormattedValue e (-1) Option.none fp] pos) Q := fun s S => by
  have h0 : Str.empty.length = 0 := rfl
  refine JoinedStr_many ?_
  refine joinParts_cons (Constant_str ?_)
  dsimp only
  refine ⟨by rw [strLen_append, sizeLine_eq, h0]; omega, ?_⟩
  refine joinParts_cons (FormattedValue_plain (h.run (S.toks (s.toks + 1)) fun a v Y s1 q S1 r m => ?_))
  obtain ⟨i, rfl, hi, q⟩ := q
  cases r
  have hlog : ((i : Int)).natAbs.log2 < 1920 := by
    rw [Int.natAbs_natCast]
    by_cases h0 : i = 0
    · subst h0; decide
    · have := (Nat.log2_lt h0).mpr hi; omega
  refine formatField_int_small hlog ?_
  dsimp only
  have hl := int_text_length_le10 (k := 20) (a := (i : Int)) (by decide) (by rw [Int.natAbs_natCast]; omega)
  have hz : (Str.empty ++ p ++ Str.ofString (toString (i : Int))).length ≤ sizeLine := by
    rw [strLen_append, strLen_append, PySem.ofString_length, sizeLine_eq, h0]; omega
  refine ⟨hz, ?_⟩
  exact joinParts_nil (good_trans m (fin_tk S1 (.str ..) q)) hz
end
end
section
section
variable {C : Cx} {ρ : List Sl} {n : Nat} {Q : V → AS → Prop} {σ : Sg} {g : G} {P T : List (Addr × MO)}
noncomputable def nameV (n : Nat) : V := .str (Str.empty ++ Str.ofString "#" ++ Str.ofString (toString (n : Int)))
noncomputable def TR : V := pairsV [(0, 1)]
noncomputable def G.add (g : G) (key : Key) : G := { g with vars := g.vars ++ [.tup [nameV g.vars.length, TR]], made := g.made ++ [(key, (g.vars.length : Int))] }
theorem once_old {key : Key} {i : Int} (hG : HG C) (hlv : C.lv = n+2) (hS : Self C.Kp σ) (hi : getM g.made key = some i) (q : Q (.tup [.int i, .bool false]) ⟨ρ, P ++ gmem σ g T⟩) :
    OpL C ⟨ρ, P ++ gmem σ g T⟩ (fun vs => call (.ref 203) vs) [.raw (.ref σ.x), key.v, pairsV [(0, 1)]] RV Q := by
  refine OpL.fnP (n := n+1) ((congrArg (fun K => List.lookup 203 K) hG).trans rfl) (by rw [hG]; rfl) hlv (len3 fun _ _ _ => rfl) rfl rfl rfl (by decide) rfl rfl rfl ?h
  intro L A Kp hK C'
  have hS' := hS.weaken hK
  have hl : lookK (kvsK g.made) key = some (.int i) := by rw [lookK_kvs]; show (getM g.made key).map _ = _; rw [hi]; rfl
  walk_at "b0.6.Exists"; refine ⟨_, at_made (by assumption) (by assumption), ?_⟩; walk_at "run.0.Op2"
  refine Op2.ninK _ gm_m ?_
  rw [hl]
  dsimp only [Option.isNone]
  walk_at "run.14.Exists"; refine ⟨_, at_made (by assumption) (by assumption), ?_⟩; walk_at "run.1.Op2"
  refine Op2.itemK _ gm_m hl ?_
  walk_at "run.2.Out"
  refine retR ?_
  exact q
theorem once_new {key : Key} (hG : HG C) (hlv : C.lv = n+2) (hS : Self C.Kp σ) (hi : getM g.made key = none) (hz : g.vars.length ≤ 1000000) (hz' : g.made.length ≤ 1000000) (q : Q (.tup [.int g.vars.length, .bool true]) ⟨ρ, P ++ gmem σ (g.add key) T⟩) :
    OpL C ⟨ρ, P ++ gmem σ g T⟩ (fun vs => call (.ref 203) vs) [.raw (.ref σ.x), key.v, pairsV [(0, 1)]] RV Q := by
  refine OpL.fnP (n := n+1) ((congrArg (fun K => List.lookup 203 K) hG).trans rfl) (by rw [hG]; rfl) hlv (len3 fun _ _ _ => rfl) rfl rfl rfl (by decide) rfl rfl rfl ?h
  intro L A Kp hK C'
  have hS' := hS.weaken hK
  have hl : lookK (kvsK g.made) key = none := by rw [lookK_kvs]; show (getM g.made key).map _ = _; rw [hi]; rfl
  walk_at "b0.6.Exists"; refine ⟨_, at_made (by assumption) (by assumption), ?_⟩; walk_at "run.0.Op2"
  refine Op2.ninK _ gm_m ?_
  rw [hl]
  dsimp only [Option.isNone]
  walk_at "run.8.Ex"
  refine Ex.for (l := [pairV (0, 1)]) (ok := fun _ => True) (fun j Z => (∃ xv av, Z.ρ = [⟨"self", none, some (.raw (.ref σ.x))⟩, ⟨"key", none, some key.v⟩, ⟨"domain", none, some (pairsV [(0, 1)])⟩, ⟨"is_new", none, some (.bool true)⟩, ⟨"low", none, xv⟩, ⟨"high", none, av⟩]) ∧ Z.mem = P ++ gmem σ g T) ?_ (fun _ _ _ => trivial) ?_ ?_
  · walk_at "e0.1.Exists"
    exact ⟨_, MkIter.tup, ⟨_, _, rfl⟩, rfl⟩
  · intro j x Z F hx hI
    obtain ⟨ρ, mem⟩ := Z
    obtain ⟨⟨xv, av, hρ⟩, hm⟩ := hI
    simp only at hρ hm
    subst hρ hm
    obtain rfl : x = pairV (0, 1) := by
      cases j with
      | zero => simpa using hx.symm
      | succ j => simp at hx
    unfold pairV
    walk_at "a0.3.TW"; walk_at "b0.6.OpL"
    refine OpL.abs ?_
    walk_at "run.2.OpL"
    refine OpL.abs ?_
    walk_at "run.0.OpL"
    refine OpL.max2 ?_
    walk_at "run.0.OpL"
    refine within_spec (by exact hG) (by rfl) ?_ ?_
    · exact Nat.lt_trans (show _ < 10 ^ 9 by decide) pow_big
    refine ⟨.int _, ?_⟩
    walk_at "run.1.Back"
    exact turnOK ⟨⟨some (.int 0), some (.int 1), rfl⟩, rfl⟩
  · intro Z hI
    obtain ⟨ρ, mem⟩ := Z
    obtain ⟨⟨xv, av, hρ⟩, hm⟩ := hI
    simp only at hρ hm
    subst hρ hm
    walk_at "run.5.Exists"; refine ⟨_, at_flat (by assumption) (by assumption), ?_⟩; walk_at "run.0.Exists"
    refine ⟨_, m_new_var (by exact hG) (by exact hS'), ?_⟩
    walk_at "m.0.Ev"
    refine Ev.fstr (by decide) ?_
    walk_at "e0.3.Exists"; refine ⟨_, at_flat (by assumption) (by assumption), ?_⟩; walk_at "run.0.Exists"
    refine ⟨_, m_size (by exact hG) (by exact hS'), ?_⟩
    walk_at "m.0.OpL"
    refine size_spec (by exact hG) (by rfl) (by exact hS') hz ⟨_, rfl, by omega, ?_⟩
    walk_at "run.1.OpL"
    refine new_var_spec (by exact hG) (by rfl) (by exact hS') hz ?_
    walk_at "run.3.Exists"; refine ⟨_, at_made (by assumption) (by assumption), ?_⟩; walk_at "run.1.Op3"
    refine setK _ gm_m (by rw [sizeLine_eq]; simp [kvsK]; omega) hl ?_
    rw [show kvsK g.made ++ [(key, V.int (g.vars.length : Int))] = kvsK (g.made ++ [(key, (g.vars.length : Int))]) by simp [kvsK]]
    rw [gs_m]
    walk_at "run.7.Exists"; refine ⟨_, at_made (by assumption) (by assumption), ?_⟩; walk_at "run.1.Op2"
    refine Op2.itemK _ gm_m (x := .int g.vars.length) ?_ ?_
    · rw [lookK_kvs]
      show (getM (g.made ++ [(key, (g.vars.length : Int))]) key).map _ = _
      have : getM (g.made ++ [(key, (g.vars.length : Int))]) key = some (g.vars.length : Int) := by
        unfold getM at hi ⊢
        rw [List.find?_append]
        cases hf : g.made.find? (fun p => decide (p.1 = key)) with
        | none => simp
        | some p => rw [hf] at hi; cases hi
      rw [this]; rfl
    walk_at "run.2.Out"
    refine retR ?_
    exact q
end
end
section
section
variable {C : Cx} {X : AS} {n : Nat} {Q : V → AS → Prop}
theorem OpL.minT {ns : List Int} (hne : 0 < ns.length) (q : ∀ M, M ∈ ns → (∀ a ∈ ns, M ≤ a) → Q (.int M) X) : OpL C X (fun vs => PySem.call (.builtin "min") vs) [.tup (ns.map .int)] RV Q := fun s S vs r => by
  obtain ⟨_, _, hv9, r1, r2⟩ := RepL.cons_inv r; clear r; cases (hv9); cases r2; obtain ⟨a, vs, hv9, e, hN, rl⟩ := Rep.tup_inv r1; clear r1; cases (hv9)
  · have hi := rl.ints
    obtain ⟨xs, exs⟩ := hi.allInts.items
    have hns : ns = xs.toList.map (·.1) := by rw [← hi.numsOf, ← nums_intItems, ← exs]
    have hsz : 0 < xs.size := by
      have h3 := hne; rw [hns, List.length_map, Array.length_toList] at h3; exact h3
    have ht : s.heap.IsTuple a (intItems xs) := ⟨_, e, rfl, 0, by rw [exs]⟩
    have halt : @LT.lt Nat _ a s.heap.objs.size := Heap.lt_size e
    refine call_min_walk (wpAny_pyIter_tuple ht ⟨_, [_, a], [_], _, _, _, _, rfl, Walks.tuple (A := C.A.in1) S.hand s.heap.objs.size a (Nat.ne_of_lt halt) (intItems xs),
      ⟨⟨_, Heap.get?_push_size _ rfl, rfl, rfl⟩, ht.push _⟩, fun b hb => ?_, by simpa [intItems] using hsz, CmpOf.ints_lt (numAt xs) (fun _ _ => intItems_at), fun v h' tk hP hk => ?_⟩)
    · show b < (s.heap.push _).objs.size
      rw [Heap.size_push]
      rcases List.mem_cons.mp hb with rfl | hb
      · exact Nat.lt_succ_self _
      · rcases List.mem_cons.mp hb with rfl | hb
        · exact Nat.lt_succ_of_lt halt
        · cases hb
    · obtain ⟨t, rfl⟩ := intItems_at hP
      have e2 : (intItems xs).size = xs.size := by simp [intItems]
      rw [e2] at hP
      obtain ⟨h1, h2⟩ := argBest_lt (numAt xs) (xs.size - 1)
      have k : ∀ b o, s.heap.get? b = some o → h'.get? b = some o := fun b o e => hk b o (by
        intro hm; rcases List.mem_cons.mp hm with rfl | hm
        · exact absurd (Heap.lt_size e) (Nat.lt_irrefl _)
        · cases hm) (Heap.get?_push_of_some _ e)
      refine ⟨_, X, q (numAt xs (argBest (fun i j => decide (numAt xs i < numAt xs j)) ((intItems xs).size - 1))) ?_ ?_, ⟨S.H.keeps k, S.gens, S.os⟩, .int .., Mono.keeps k⟩
      · rw [e2, hns, numAt_eq]; exact getD_mem (by rw [List.length_map, Array.length_toList]; omega)
      · intro a ha
        rw [hns] at ha
        obtain ⟨j, hj, rfl⟩ := mem_getD ha
        rw [List.length_map, Array.length_toList] at hj
        rw [e2, ← numAt_eq]; exact h2 j (by omega)
theorem OpL.min2T {a b : Int} (q : Q (.int (min a b)) X) : OpL C X (fun vs => PySem.call (.builtin "min") vs) [.tup [.int a, .int b]] RV Q :=
  OpL.minT (ns := [a, b]) (by simp) fun M hM hle => by
    have h1 := hle a (by simp); have h2 := hle b (by simp)
    have : M = min a b := by simp at hM; omega
    rw [this]; exact q
theorem OpL.max2T {a b : Int} (q : Q (.int (max a b)) X) : OpL C X (fun vs => PySem.call (.builtin "max") vs) [.tup [.int a, .int b]] RV Q :=
  OpL.maxT (ns := [a, b]) (by simp) fun M hM hle => by
    have h1 := hle a (by simp); have h2 := hle b (by simp)
    have : M = max a b := by simp at hM; omega
    rw [this]; exact q
end
structure DomAt (g : G) (D : Int → List (Int × Int)) (x : Int) : Prop where
  lo : 0 ≤ x
  hi : x < 2 ^ 62
  var : ∃ nm, g.vars[x.toNat]? = some (.tup [nm, pairsV (D x)])
  ne : D x ≠ []
  small : ∀ p ∈ D x, p.1.natAbs ≤ 10 ^ 6 ∧ p.2.natAbs ≤ 10 ^ 6
noncomputable def loD (D : Int → List (Int × Int)) (x : Int) : Int := ((D x).head?.map (·.1)).getD 0
noncomputable def hiD (D : Int → List (Int × Int)) (x : Int) : Int := ((D x).getLast?.map (·.2)).getD 0
noncomputable def bStep (D : Int → List (Int × Int)) (b : Int × Int) (p : Int × Int) : Int × Int := (b.1 + min (p.2 * loD D p.1) (p.2 * hiD D p.1), b.2 + max (p.2 * loD D p.1) (p.2 * hiD D p.1))
noncomputable def boundsZ (D : Int → List (Int × Int)) (e : Lin) : Int × Int := e.ps.foldl (bStep D) (e.c, e.c)
section
variable {C : Cx} {ρ : List Sl} {n : Nat} {Q : V → AS → Prop} {σ : Sg} {g : G} {P T : List (Addr × MO)} {D : Int → List (Int × Int)}
theorem loD_ne {x : Int} {p : Int × Int} {r : List (Int × Int)} (h : D x = p :: r) : loD D x = p.1 := by unfold loD; rw [h]; rfl
theorem least_dom {x : Int} (hG : HG C) (hlv : C.lv = n + 1) (h : D x ≠ []) {X : AS} (q : Q (.int (loD D x)) X) : OpL C X (fun vs => call (.ref 35) vs) [pairsV (D x)] RV Q := by
  cases hd : D x with
  | nil => exact absurd hd h
  | cons p r =>
    rw [loD_ne hd] at q
    exact least_spec hG hlv q
theorem greatest_dom {x : Int} (hG : HG C) (hlv : C.lv = n + 1) (h : D x ≠ []) {X : AS} (q : Q (.int (hiD D x)) X) : OpL C X (fun vs => call (.ref 42) vs) [pairsV (D x)] RV Q := by
  cases hd : (D x).getLast? with
  | none => exact absurd (List.getLast?_eq_none_iff.mp hd) h
  | some p =>
    unfold hiD at q
    rw [hd] at q
    exact greatest_spec (a := .int p.1) hG hlv (by rw [List.getLast?_map, hd]; rfl) q
theorem lohi_small {x : Int} (h : DomAt g D x) : (loD D x).natAbs ≤ 10 ^ 6 ∧ (hiD D x).natAbs ≤ 10 ^ 6 := by
  constructor
  · unfold loD
    cases hd : (D x).head? with
    | none => simp
    | some p => exact (h.small p (List.mem_of_head? hd)).1
  · unfold hiD
    cases hd : (D x).getLast? with
    | none => simp
    | some p => exact (h.small p (List.mem_of_getLast? hd)).2
theorem bounds_spec {e : Lin} (hG : HG C) (hlv : C.lv = n+3) (hS : Self C.Kp σ) (he : e.OK) (hD : ∀ p ∈ e.ps, DomAt g D p.1) (q : Q (.tup [.int (boundsZ D e).1, .int (boundsZ D e).2]) ⟨ρ, P ++ gmem σ g T⟩) :
    OpL C ⟨ρ, P ++ gmem σ g T⟩ (fun vs => call (.ref 210) vs) [.raw (.ref σ.x), e.v] RV Q := by
  refine OpL.fnP (n := n+2) ((congrArg (fun K => List.lookup 210 K) hG).trans rfl) (by rw [hG]; rfl) hlv (len2 fun _ _ => rfl) rfl rfl rfl (by decide) rfl rfl rfl ?h
  intro L A Kp hK C'
  have hS' := hS.weaken hK
  walk_at "b0.4.OpL"
  refine sum_of_v (by exact hG) (by rfl) ?_
  walk_at "run.15.Ex"
  refine Ex.for (l := e.ps.map pairV) (ok := fun _ => True) (fun j Z => (∃ xv av ev, Z.ρ = [⟨"self", none, some (.raw (.ref σ.x))⟩, ⟨"value", none, some e.v⟩, ⟨"total", none, some e.full⟩, ⟨"low", none, some (.int ((e.ps.take j).foldl (bStep D) (e.c, e.c)).1)⟩, ⟨"high", none, some (.int ((e.ps.take j).foldl (bStep D) (e.c, e.c)).2)⟩, ⟨"x", none, xv⟩, ⟨"a", none, av⟩, ⟨"ends", none, ev⟩]) ∧ Z.mem = P ++ gmem σ g T) ?_ (fun _ _ _ => trivial) ?_ ?_
  · walk_at "e0.4.Exists"
    exact ⟨_, MkIter.tup, ⟨_, _, _, rfl⟩, rfl⟩
  · intro j x Z F hx hI
    obtain ⟨ρ, mem⟩ := Z
    obtain ⟨⟨xv, av, ev, hρ⟩, hm⟩ := hI
    simp only at hρ hm
    subst hρ hm
    rw [List.getElem?_map] at hx
    obtain ⟨p, hp, rfl⟩ := Option.map_eq_some_iff.mp hx
    have hpm : p ∈ e.ps := List.mem_of_getElem? hp
    have hd := hD p hpm
    obtain ⟨nm, hv⟩ := hd.var
    have hsm := lohi_small hd
    have hps := he.small p hpm
    unfold pairV
    rw [← List.append_assoc]
    walk_at "a0.3.TW"; walk_at "b0.9.Exists"; refine ⟨_, at_flat (by assumption) (by assumption), ?_⟩; walk_at "run.0.Exists"
    refine ⟨_, m_domain_of (by exact hG) (by exact hS'), ?_⟩
    walk_at "m.1.OpL"
    refine domain_of_spec (by exact hG) (by rfl) (by exact hS') hd.lo hd.hi hv ?_
    walk_at "run.0.OpL"
    refine least_dom (by exact hG) (by rfl) hd.ne ?_
    walk_at "run.0.Op2"
    refine Op2.mul (small_mul (by omega) (by omega)) ?_
    walk_at "run.6.Exists"; refine ⟨_, at_flat (by assumption) (by assumption), ?_⟩; walk_at "run.0.Exists"
    refine ⟨_, m_domain_of (by exact hG) (by exact hS'), ?_⟩
    walk_at "m.1.OpL"
    refine domain_of_spec (by exact hG) (by rfl) (by exact hS') hd.lo hd.hi hv ?_
    walk_at "run.0.OpL"
    refine greatest_dom (by exact hG) (by rfl) hd.ne ?_
    walk_at "run.0.Op2"
    refine Op2.mul (small_mul (by omega) (by omega)) ?_
    walk_at "run.9.OpL"
    refine OpL.min2T ?_
    walk_at "run.5.OpL"
    refine OpL.max2T ?_
    walk_at "run.4.Back"
    rw [List.append_assoc]
    refine turnOK ⟨?_, rfl⟩
    have ht : e.ps.take (j + 1) = e.ps.take j ++ [p] := by rw [List.take_add_one, hp]; rfl
    rw [ht, List.foldl_append]
    exact ⟨_, _, _, rfl⟩
  · intro Z hI
    obtain ⟨ρ, mem⟩ := Z
    obtain ⟨⟨xv, av, ev, hρ⟩, hm⟩ := hI
    simp only at hρ hm
    subst hρ hm
    simp only [List.length_map, List.take_length]
    walk_at "run.6.Out"
    refine retR ?_
    exact q
end
end
section
noncomputable def rowOf (le : Bool) (e : Lin) : Row := ⟨le, e.ps.map fun p => p.2.fdiv (gcdZ (e.ps.map (·.2))), e.ps.map (·.1), (-e.c).fdiv (gcdZ (e.ps.map (·.2)))⟩
noncomputable def rowZ (D : Int → List (Int × Int)) (le : Bool) (e : Lin) : Bool ⊕ Row :=
  if le then (if (boundsZ D e).2 ≤ 0 ∨ (boundsZ D e).1 > 0 then .inl (decide ((boundsZ D e).2 ≤ 0)) else .inr (rowOf le e))
  else if (boundsZ D e).1 > 0 ∨ (boundsZ D e).2 < 0 then .inl false
  else if (boundsZ D e).1 = (boundsZ D e).2 then .inl true
  else if (-e.c).fmod (gcdZ (e.ps.map (·.2))) ≠ 0 then .inl false else .inr (rowOf le e)
noncomputable def rowV : Bool ⊕ Row → V
  | .inl b => .bool b
  | .inr r => r.v
theorem kle (le : Bool) : (V.str (kindS le)).eqb (.str (Str.ofString "linear_le")) = le := by cases le <;> decide +kernel
theorem kne (le : Bool) : (V.str (kindS le)).eqb (.str (Str.ofString "linear_ne")) = false := by cases le <;> decide +kernel
theorem keq (le : Bool) : (V.str (kindS le)).eqb (.str (Str.ofString "linear_eq")) = !le := by cases le <;> decide +kernel
theorem strOk_le : PyData.strOk "linear_le" = true := by decide +kernel
theorem strOk_ne : PyData.strOk "linear_ne" = true := by decide +kernel
theorem strOk_eq : PyData.strOk "linear_eq" = true := by decide +kernel
section
variable {C : Cx} {ρ : List Sl} {n : Nat} {Q : V → AS → Prop} {σ : Sg} {g : G} {P T : List (Addr × MO)} {D : Int → List (Int × Int)}
theorem gcd_ne {e : Lin} (hnz : ∀ p ∈ e.ps, p.2 ≠ 0) (hne : (boundsZ D e).1 ≠ (boundsZ D e).2) : gcdZ (e.ps.map (·.2)) ≠ 0 := by
  intro h0
  cases hp : e.ps with
  | nil => unfold boundsZ at hne; rw [hp] at hne; exact hne rfl
  | cons p r =>
    rw [hp] at h0
    have key : ∀ (l : List Int) (z : Int), l.foldl (fun f a => ((Int.gcd f a : Nat) : Int)) z = 0 → z = 0 ∧ ∀ a ∈ l, a = 0 := by
      intro l
      induction l with
      | nil => intro z h; exact ⟨h, fun _ h => by cases h⟩
      | cons a l ih =>
        intro z h
        obtain ⟨h1, h2⟩ := ih _ h
        have h3 : Int.gcd z a = 0 := Int.ofNat_eq_zero.mp h1
        obtain ⟨h4, h5⟩ := Int.gcd_eq_zero_iff.mp h3
        exact ⟨h4, fun b hb => by rcases List.mem_cons.mp hb with rfl | hb; exact h5; exact h2 b hb⟩
    exact hnz p (by rw [hp]; exact List.mem_cons_self ..) ((key _ _ h0).2 p.2 (by simp))
theorem gcd_small {l : List (Int × Int)} (h : ∀ p ∈ l, p.2.natAbs ≤ 10 ^ 6) : (gcdZ (l.map (·.2))).natAbs ≤ 10 ^ 6 := by
  have key : ∀ (l : List Int) (z : Int), z.natAbs ≤ 10 ^ 6 → (∀ a ∈ l, a.natAbs ≤ 10 ^ 6) → (l.foldl (fun f a => ((Int.gcd f a : Nat) : Int)) z).natAbs ≤ 10 ^ 6 := by
    intro l
    induction l with
    | nil => intro z h _; exact h
    | cons a l ih =>
      intro z h1 h2
      refine ih _ ?_ fun b hb => h2 b (.tail _ hb)
      rw [Int.natAbs_natCast]
      by_cases hz : z = 0
      · subst hz; rw [Int.gcd_zero_left]; exact h2 a (.head _)
      · exact Nat.le_trans (Nat.le_of_dvd (Int.natAbs_pos.mpr hz) (by rw [Int.gcd]; exact Nat.gcd_dvd_left _ _)) h1
  exact key _ 0 (by decide) fun a ha => by obtain ⟨p, hp, rfl⟩ := List.mem_map.mp ha; exact h p hp
theorem row_spec {le : Bool} {e : Lin} (hG : HG C) (hlv : C.lv = n+4) (hS : Self C.Kp σ) (he : e.OK) (hnz : ∀ p ∈ e.ps, p.2 ≠ 0) (hD : ∀ p ∈ e.ps, DomAt g D p.1) (q : Q (rowV (rowZ D le e)) ⟨ρ, P ++ gmem σ g T⟩) :
    OpL C ⟨ρ, P ++ gmem σ g T⟩ (fun vs => call (.ref 232) vs) [.raw (.ref σ.x), .str (kindS le), e.v] RV Q := by
  refine OpL.fnP (n := n+3) ((congrArg (fun K => List.lookup 232 K) hG).trans rfl) (by rw [hG]; rfl) hlv (len3 fun _ _ _ => rfl) rfl rfl rfl (by decide) rfl rfl rfl ?h
  intro L A Kp hK C'
  have hS' := hS.weaken hK
  walk_at "b0.5.Exists"
  refine ⟨_, m_bounds (by exact hG) (by exact hS'), ?_⟩
  walk_at "m.1.OpL"
  refine bounds_spec (by exact hG) (by rfl) (by exact hS') he hD ?_
  walk_at "run.2.OpL"
  refine sum_of_v (by exact hG) (by rfl) ?_
  walk_at "run.6.Exs"
  refine Exs.seq (fun Y => Y = ⟨[⟨"self", none, some (.raw (.ref σ.x))⟩, ⟨"kind", none, some (.str (kindS le))⟩, ⟨"value", none, some e.v⟩, ⟨"low", none, some (.int (boundsZ D e).1)⟩, ⟨"high", none, some (.int (boundsZ D e).2)⟩, ⟨"total", none, some e.full⟩, ⟨"common", some (L + 1), none⟩, ⟨"c", none, none⟩], P ++ gmem σ g T⟩ ∧ (boundsZ D e).1 ≠ (boundsZ D e).2 ∧ rowZ D le e = (if le = false ∧ (-e.c).fmod (gcdZ (e.ps.map (·.2))) ≠ 0 then .inl false else .inr (rowOf le e))) ?_ ?_
  · walk_at "s0.4.Op2"
    refine Op2.eqD (x := .str _) (y := .str _) (kindS_ok le) strOk_le (Nat.zero_le _) ?_
    rw [kle]
    refine ⟨_, rfl, ifB (fun hle => ?_) fun hle => ?_⟩
    · subst hle
      walk_at "b.8."
      refine ifB (fun h1 => ?_) fun h1 => ?_
      · walk_at "run.7.Out"
        refine retR ?_
        have : rowZ D true e = .inl (decide ((boundsZ D e).2 ≤ 0)) := by simp at h1; simp [rowZ, h1]
        rw [this] at q; exact q
      · walk_at "t.6."
        refine ifB (fun h2 => ?_) fun h2 => ?_
        · walk_at "run.7.Out"
          refine retR ?_
          have : rowZ D true e = .inl (decide ((boundsZ D e).2 ≤ 0)) := by simp at h2; simp [rowZ, h2]
          rw [this] at q; exact q
        · walk_at "t.4.And"; refine ⟨rfl, ?_⟩
          simp at h1 h2
          refine ⟨by omega, ?_⟩
          simp only [rowZ, if_true]
          rw [if_neg (by omega)]
          simp
    · subst hle
      walk_at "b.8."
      refine ifB (fun h1 => ?_) fun h1 => ?_
      · walk_at "run.6.Op2"
        refine Op2.eqD (x := .str _) (y := .str _) (kindS_ok false) strOk_ne (Nat.zero_le _) ?_
        rw [kne]
        refine retR ?_
        have : rowZ D false e = .inl false := by simp at h1; simp [rowZ, h1]
        rw [this] at q; exact q
      · walk_at "t.6."
        refine ifB (fun h2 => ?_) fun h2 => ?_
        · walk_at "run.6.Op2"
          refine Op2.eqD (x := .str _) (y := .str _) (kindS_ok false) strOk_ne (Nat.zero_le _) ?_
          rw [kne]
          refine retR ?_
          have : rowZ D false e = .inl false := by simp at h2; simp [rowZ, h2]
          rw [this] at q; exact q
        · walk_at "t.9."
          refine ifB (fun h3 => ?_) fun h3 => ?_
          · walk_at "b.5.Op2"
            refine Op2.eqD (x := .str _) (y := .str _) (kindS_ok false) strOk_eq (Nat.zero_le _) ?_
            rw [keq]
            refine retR ?_
            have : rowZ D false e = .inl true := by simp at h1 h2 h3; simp [rowZ]; rw [if_neg (by omega), if_pos h3]
            rw [this] at q; exact q
          · walk_at "b.3.And"; refine ⟨rfl, ?_⟩
            simp at h1 h2 h3
            refine ⟨h3, ?_⟩
            simp only [rowZ, Bool.false_eq_true, if_false, true_and]
            rw [if_neg (by omega), if_neg h3]
  · rintro Y ⟨rfl, hne, hrow⟩
    rw [hrow] at q
    have hgl : e.ps.length ≤ 10 := he.len
    have hg0 : gcdZ (e.ps.map (·.2)) ≠ 0 := gcd_ne hnz hne
    have hgb : (gcdZ (e.ps.map (·.2))).natAbs ≤ 10 ^ 6 := gcd_small he.small
    have hcs := he.csmall
    walk_at "b.4.Ev"
    refine Ev.comp (gens1 rfl (fun _ _ => rfl)) ?_ rfl (by decide) rfl
    walk_at "e0.4.Exists"
    refine ⟨_, _, _, MkIter.tup, CompOK.map (fun _ ρ => ∃ a b c, ρ = [⟨".0", none, a⟩, ⟨"x", none, b⟩, ⟨"a", none, c⟩]) (fun p => .int p.2) (fun L' => ⟨_, _, _, rfl⟩) (by rw [sizeLine_eq]; omega) (fun _ _ => trivial) ?_ ?_⟩
    · intro L' Kp' hKp p hp ρ M' hM hP ⟨a, b, c, hρ⟩
      subst hρ
      unfold pairV
      walk_at "a0.3.TW"; walk_at "e0.1.And"; refine ⟨rfl, ?_⟩; refine ⟨rfl, ?_⟩
      first | exact ⟨rfl, rfl, _, _, _, rfl⟩ | exact ⟨rfl, _, _, _, rfl⟩ | exact ⟨_, _, _, rfl⟩
    rw [show (e.ps.map fun p => V.int p.2) = (e.ps.map (·.2)).map V.int by rw [List.map_map]; rfl]
    walk_at "run.0.OpL"
    refine common_spec (by exact hG) (by rfl) ?_
    walk_at "run.5.Op1"
    refine Op1.neg ?_
    walk_at "run.3.And"; refine ⟨by first | exact memA | exact memB | exact memC | exact memD, ?_⟩; walk_at "run.1.Exs"
    refine Exs.seq (fun Y => Y = ⟨[⟨"self", none, some (.raw (.ref σ.x))⟩, ⟨"kind", none, some (.str (kindS le))⟩, ⟨"value", none, some e.v⟩, ⟨"low", none, some (.int (boundsZ D e).1)⟩, ⟨"high", none, some (.int (boundsZ D e).2)⟩, ⟨"total", none, some e.full⟩, ⟨"common", some (L + 1), some (.int (gcdZ (e.ps.map (·.2))))⟩, ⟨"c", none, some (.int (-e.c))⟩], P ++ gmem σ g T⟩ ∧ Q (V.tup [V.str (kindS le), V.tup (e.ps.map fun p => V.int (p.2.fdiv (gcdZ (e.ps.map (·.2))))), V.tup (e.ps.map fun p => V.int p.1), V.int ((-e.c).fdiv (gcdZ (e.ps.map (·.2))))]) ⟨ρ, P ++ gmem σ g T⟩) ?_ ?_
    · have hrest : ∀ (t : (if le = false ∧ (-e.c).fmod (gcdZ (e.ps.map (·.2))) ≠ 0 then (Sum.inl false : Bool ⊕ Row) else .inr (rowOf le e)) = .inr (rowOf le e)), Q (V.tup [V.str (kindS le), V.tup (e.ps.map fun p => V.int (p.2.fdiv (gcdZ (e.ps.map (·.2))))), V.tup (e.ps.map fun p => V.int p.1), V.int ((-e.c).fdiv (gcdZ (e.ps.map (·.2))))]) ⟨ρ, P ++ gmem σ g T⟩ := fun t => by
        rw [t] at q
        simp only [rowV, rowOf, Row.v, intsV, List.map_map] at q
        exact q
      walk_at "s0.5.Op2"
      refine Op2.neD (x := .str _) (y := .str _) (kindS_ok le) strOk_le (Nat.zero_le _) ?_
      rw [kle]
      refine ⟨_, rfl, ifB (fun h1 => ?_) fun h1 => ?_⟩
      · walk_at "t.5.Op2"
        refine Op2.mod hg0 ?_
        walk_at "run.3."
        refine ifB (fun h2 => ?_) fun h2 => ?_
        · walk_at "t.7.Op2"
          refine Op2.eqD (x := .str _) (y := .str _) (kindS_ok le) strOk_ne (Nat.zero_le _) ?_
          rw [kne]
          refine retR ?_
          simp at h1 h2
          rw [if_pos ⟨h1, h2⟩] at q
          exact q
        · walk_at "run.2.And"; refine ⟨rfl, ?_⟩
          simp at h1 h2
          exact hrest (by rw [if_neg (by simp [h2])])
      · walk_at "run.2.And"; refine ⟨rfl, ?_⟩
        simp at h1
        exact hrest (by rw [if_neg (by simp [h1])])
    · rintro Y ⟨rfl, ht⟩
      clear q hrow
      walk_at "b.5.Ev"
      refine Ev.comp (gens1 rfl (fun _ _ => rfl)) ?_ rfl (by decide) rfl
      walk_at "e0.4.Exists"
      refine ⟨_, _, _, MkIter.tup, CompOK.map (fun _ ρ => ∃ a b c, ρ = [⟨".0", none, a⟩, ⟨"x", none, b⟩, ⟨"a", none, c⟩, ⟨"common", some (L + 1), some (.int (gcdZ (e.ps.map (·.2))))⟩]) (fun p => .int (p.2.fdiv (gcdZ (e.ps.map (·.2))))) (fun L' => ⟨_, _, _, rfl⟩) (by rw [sizeLine_eq]; omega) (fun _ _ => trivial) ?_ ?_⟩
      · intro L' Kp' hKp p hp ρ M' hM hP ⟨a, b, c, hρ⟩
        subst hρ
        unfold pairV
        walk_at "a0.3.TW"; walk_at "e0.3.Op2"
        refine Op2.floordiv hg0 (PyProof.noPylong_small (by omega)) ?_
        first | exact ⟨rfl, rfl, _, _, _, rfl⟩ | exact ⟨rfl, _, _, _, rfl⟩ | exact ⟨_, _, _, rfl⟩
      walk_at "run.0.OpL"
      refine OpL.tuple (by rw [sizeLine_eq, List.length_map]; omega) ?_
      walk_at "run.1.Ev"
      refine Ev.comp (gens1 rfl (fun _ _ => rfl)) ?_ rfl (by decide) rfl
      walk_at "e0.4.Exists"
      refine ⟨_, _, _, MkIter.tup, CompOK.map (fun _ ρ => ∃ a b c, ρ = [⟨".0", none, a⟩, ⟨"x", none, b⟩, ⟨"a", none, c⟩]) (fun p => .int p.1) (fun L' => ⟨_, _, _, rfl⟩) (by rw [sizeLine_eq]; omega) (fun _ _ => trivial) ?_ ?_⟩
      · intro L' Kp' hKp p hp ρ M' hM hP ⟨a, b, c, hρ⟩
        subst hρ
        unfold pairV
        walk_at "a0.3.TW"; walk_at "e0.1.And"; refine ⟨rfl, ?_⟩; refine ⟨rfl, ?_⟩
        first | exact ⟨rfl, rfl, _, _, _, rfl⟩ | exact ⟨rfl, _, _, _, rfl⟩ | exact ⟨_, _, _, rfl⟩
      walk_at "run.0.OpL"
      refine OpL.tuple (by rw [sizeLine_eq, List.length_map]; omega) ?_
      walk_at "run.3.Op2"
      refine Op2.floordiv hg0 (PyProof.noPylong_small (by omega)) ?_
      walk_at "run.1.Out"
      refine retR ?_
      exact ht
end
end
section
noncomputable def G.put (g : G) (key : Key) (ts : Int → List V) : G × Int := match getM g.made key with
  | some i => (g, i)
  | none => ({ g.add key with tolds := g.tolds ++ ts g.vars.length }, g.vars.length)
noncomputable def reifV (b : Int) (r : Row) : V := .tup [.str "reif", .int b, r.v]
noncomputable def isDirect (D : Int → List (Int × Int)) (r : Row) : Bool := r.co == [1] && (match r.xs with | x :: _ => D x == [(0, 1)] | [] => false)
noncomputable def tellZ (D : Int → List (Int × Int)) (g : G) (r : Row) : Tv × G :=
  if isDirect D r then (.bit (r.xs.headD 0) (!r.le && r.c == 1), g) else (.bit (g.put (.reif r) fun b => [reifV b r]).2 true, (g.put (.reif r) fun b => [reifV b r]).1)
theorem eqb_ints (a b : List Int) : (V.tup (a.map .int)).eqb (.tup (b.map .int)) = (a == b) := by
  show PyData.eqvAll (V.pys (a.map V.int)) (V.pys (b.map V.int)) = _
  rw [eqv_ints]
  by_cases h : a = b <;> simp [h]
theorem eqb_pairs : ∀ a b : List (Int × Int), PyData.eqvAll (V.pys (a.map pairV)) (V.pys (b.map pairV)) = decide (a = b)
  | [], [] => rfl
  | [], _ :: _ => rfl
  | _ :: _, [] => rfl
  | (x, p) :: a, (y, q) :: b => by
    simp only [List.map_cons, pairV, pyC, pyN, pyT, pyS, pyI, pyB, eqvI, eqvB, eqvS, eqvT, eqvN, eqvC, eqb_pairs a b, List.cons.injEq, Prod.mk.injEq, Bool.and_true]
    by_cases h : x = y <;> by_cases h' : a = b <;> by_cases h'' : p = q <;> simp [h, h', h'']
theorem pairsV_eqb (a b : List (Int × Int)) : (pairsV a).eqb (pairsV b) = (a == b) := by
  show PyData.eqvAll (V.pys (a.map pairV)) (V.pys (b.map pairV)) = _
  rw [eqb_pairs]
  by_cases h : a = b <;> simp [h]
section
variable {C : Cx} {ρ : List Sl} {n : Nat} {Q : V → AS → Prop} {σ : Sg} {g : G} {P T : List (Addr × MO)} {D : Int → List (Int × Int)}
theorem told_spec {r : Row} {x0 : Int} {xr : List Int} (hx : r.xs = x0 :: xr) (hG : HG C) (hlv : C.lv = n+3) (hS : Self C.Kp σ) (hD : DomAt g D x0) (hz : g.vars.length ≤ 100000) (hz' : g.made.length ≤ 100000) (hz'' : g.tolds.length ≤ 100000)
    (q : Q (tellZ D g r).1.v ⟨ρ, P ++ gmem σ (tellZ D g r).2 T⟩) :
    OpL C ⟨ρ, P ++ gmem σ g T⟩ (fun vs => call (.ref 244) vs) [.raw (.ref σ.x), r.v] RV Q := by
  refine OpL.fnP (n := n+2) ((congrArg (fun K => List.lookup 244 K) hG).trans rfl) (by rw [hG]; rfl) hlv (len2 fun _ _ => rfl) rfl rfl rfl (by decide) rfl rfl rfl ?h
  intro L A Kp hK C'
  have hS' := hS.weaken hK
  obtain ⟨nm, hv⟩ := hD.var
  walk_at "b0.8.Exs"
  refine Exs.seq (fun Y => Y = ⟨[⟨"self", none, some (.raw (.ref σ.x))⟩, ⟨"told", none, some r.v⟩, ⟨"kind", none, some (.str (kindS r.le))⟩, ⟨"coefs", none, some (intsV r.co)⟩, ⟨"some", none, some (intsV r.xs)⟩, ⟨"c", none, some (.int r.c)⟩, ⟨"b", none, none⟩, ⟨"is_new", none, none⟩], P ++ gmem σ g T⟩ ∧ isDirect D r = false) ?_ ?_
  · walk_at "s0.7.Op2"
    refine Op2.eqD (x := intsV r.co) (y := .tup [.int 1]) (intsV_data _) rfl (Nat.le_trans (intsV_dep _) (by decide)) ?_
    rw [show (intsV r.co).eqb (.tup [.int 1]) = (r.co == [1]) from eqb_ints r.co [1]]
    refine ⟨_, rfl, ifB (fun h1 => ?_) fun h1 => ?_⟩
    · walk_at "t.5.Exists"; refine ⟨_, at_flat (by assumption) (by assumption), ?_⟩; walk_at "run.0.Exists"
      refine ⟨_, m_domain_of (by exact hG) (by exact hS'), ?_⟩
      walk_at "m.3.Op2"
      rw [show intsV r.xs = .tup (.int x0 :: xr.map .int) by rw [hx]; rfl]
      walk_at "u.1.OpL"
      refine domain_of_spec (by exact hG) (by rfl) (by exact hS') hD.lo hD.hi hv ?_
      walk_at "run.0.Ev"; refine Ev.truths (by assumption) ?_ (by rfl); walk_at "run.0.Op2"
      refine Op2.eqD (x := pairsV (D x0)) (y := pairsV [(0, 1)]) (pairs_data _) (pairs_data _) (Nat.le_trans (pairs_dep _) (by decide)) ?_
      rw [pairsV_eqb]
      refine ⟨_, rfl, ifB (fun h2 => ?_) fun h2 => ?_⟩
      · have hd : isDirect D r = true := by simp [isDirect, hx, h1, h2]
        have e1 : tellZ D g r = (.bit x0 (!r.le && r.c == 1), g) := by simp [tellZ, hd, hx]
        rw [e1] at q
        walk_at "t.14.Op2"
        refine Op2.eqD (x := .str _) (y := .str _) (kindS_ok r.le) strOk_eq (Nat.zero_le _) ?_
        rw [keq]
        refine ⟨_, rfl, ifB (fun h3 => ?_) fun h3 => ?_⟩
        · rw [h3, Bool.true_and] at q
          walk_at "e.6.Out"
          refine retR ?_
          exact q
        · rw [h3, Bool.false_and] at q
          walk_at "run.1.Out"
          refine retR ?_
          exact q
      · have hd : isDirect D r = false := by simp [isDirect, hx, h1, h2]
        walk_at "run.2.And"; refine ⟨rfl, ?_⟩
        exact hd
    · have hd : isDirect D r = false := by simp [isDirect, h1]
      walk_at "run.2.And"; refine ⟨rfl, ?_⟩
      exact hd
  · rintro Y ⟨rfl, hd⟩
    walk_at "b.4.Exists"
    refine ⟨_, m_once (by exact hG) (by exact hS'), ?_⟩
    walk_at "m.4.Ev"; refine Ev.truths (by assumption) ?_ (by rfl); walk_at "run.0.OpL"
    cases hm : getM g.made (.reif r) with
    | some i =>
      have e1 : tellZ D g r = (.bit i true, g) := by simp [tellZ, hd, G.put, hm]
      rw [e1] at q
      refine once_old (key := .reif r) (by exact hG) (by rfl) (by exact hS') hm ?_
      walk_at "run.17.Out"
      refine retR ?_
      exact q
    | none =>
      have e1 : tellZ D g r = (.bit g.vars.length true, { g.add (.reif r) with tolds := g.tolds ++ [reifV g.vars.length r] }) := by simp [tellZ, hd, G.put, hm]
      rw [e1] at q
      refine once_new (key := .reif r) (by exact hG) (by rfl) (by exact hS') hm (by omega) (by omega) ?_
      walk_at "run.14.Exists"; refine ⟨_, at_flat (by assumption) (by assumption), ?_⟩; walk_at "run.0.Exists"
      refine ⟨_, m_post (by exact hG) (by exact hS'), ?_⟩
      walk_at "m.5.OpL"
      refine post_spec (g := g.add (.reif r)) (by exact hG) (by rfl) (by exact hS') (by show g.tolds.length ≤ _; omega) ?_
      walk_at "run.9.Out"
      refine retR ?_
      exact q
end
end
section
noncomputable def truthZ (D : Int → List (Int × Int)) (g : G) (le : Bool) (e : Lin) : Tv × G := match rowZ D le e with
  | .inl b => (.tt b, g)
  | .inr r => if r.co.headD 0 < 0 then (if r.le then ((tellZ D g ⟨true, r.co.map (- ·), r.xs, -r.c - 1⟩).1.not, (tellZ D g ⟨true, r.co.map (- ·), r.xs, -r.c - 1⟩).2) else tellZ D g ⟨false, r.co.map (- ·), r.xs, -r.c⟩)
    else tellZ D g r
theorem rowZ_inr {D : Int → List (Int × Int)} {le : Bool} {e : Lin} {r : Row} (h : rowZ D le e = .inr r) : r = rowOf le e ∧ e.ps ≠ [] := by
  constructor
  · unfold rowZ at h
    repeat' split at h
    all_goals first | (cases h; done) | (cases h; rfl)
  · intro hp
    unfold rowZ at h
    have : boundsZ D e = (e.c, e.c) := by unfold boundsZ; rw [hp]; rfl
    rw [this] at h
    simp only at h
    cases le
    · rw [if_neg (by decide)] at h
      split at h
      · cases h
      · simp at h
    · rw [if_pos rfl, if_pos (by omega)] at h; cases h
theorem gcdZ_dvd {l : List Int} : ∀ a ∈ l, gcdZ l ∣ a := by
  have key : ∀ (l : List Int) (z : Int), l.foldl (fun f a => ((Int.gcd f a : Nat) : Int)) z ∣ z ∧ ∀ a ∈ l, l.foldl (fun f a => ((Int.gcd f a : Nat) : Int)) z ∣ a := by
    intro l
    induction l with
    | nil => intro z; exact ⟨Int.dvd_refl _, fun _ h => by cases h⟩
    | cons a l ih =>
      intro z
      obtain ⟨h1, h2⟩ := ih ((Int.gcd z a : Nat) : Int)
      refine ⟨Int.dvd_trans h1 (Int.gcd_dvd_left ..), fun b hb => ?_⟩
      rcases List.mem_cons.mp hb with rfl | hb
      · exact Int.dvd_trans h1 (Int.gcd_dvd_right ..)
      · exact h2 b hb
  exact (key l 0).2
theorem fdiv_ne {a g : Int} (h : g ∣ a) (ha : a ≠ 0) : a.fdiv g ≠ 0 := by
  obtain ⟨k, rfl⟩ := h
  intro h0
  by_cases hg : g = 0
  · exact ha (by rw [hg, Int.zero_mul])
  · rw [Int.mul_fdiv_cancel_left _ hg] at h0
    exact ha (by rw [h0, Int.mul_zero])
section
variable {C : Cx} {ρ : List Sl} {n : Nat} {Q : V → AS → Prop} {σ : Sg} {g : G} {P T : List (Addr × MO)} {D : Int → List (Int × Int)}
theorem truth_spec {le : Bool} {e : Lin} (hG : HG C) (hlv : C.lv = n+5) (hS : Self C.Kp σ) (he : e.OK) (hnz : ∀ p ∈ e.ps, p.2 ≠ 0) (hD : ∀ p ∈ e.ps, DomAt g D p.1) (hz : g.vars.length ≤ 100000) (hz' : g.made.length ≤ 100000) (hz'' : g.tolds.length ≤ 100000)
    (q : Q (truthZ D g le e).1.v ⟨ρ, P ++ gmem σ (truthZ D g le e).2 T⟩) :
    OpL C ⟨ρ, P ++ gmem σ g T⟩ (fun vs => call (.ref 237) vs) [.raw (.ref σ.x), .str (kindS le), e.v] RV Q := by
  refine OpL.fnP (n := n+4) ((congrArg (fun K => List.lookup 237 K) hG).trans rfl) (by rw [hG]; rfl) hlv (len3 fun _ _ _ => rfl) rfl rfl rfl (by decide) rfl rfl rfl ?h
  intro L A Kp hK C'
  have hS' := hS.weaken hK
  walk_at "b0.4.Exists"
  refine ⟨_, m_row (by exact hG) (by exact hS'), ?_⟩
  walk_at "m.2.OpL"
  refine row_spec (by exact hG) (by rfl) (by exact hS') he hnz hD ?_
  cases hr : rowZ D le e with
  | inl b =>
    have e1 : truthZ D g le e = (.tt b, g) := by unfold truthZ; rw [hr]
    rw [e1] at q
    show _
    unfold rowV
    walk_at "run.7.OpL"
    refine OpL.isBool (.bool ..) ?_
    walk_at "run.5.Out"
    refine retR ?_
    exact q
  | inr r =>
    obtain ⟨h1, h2⟩ := rowZ_inr hr
    obtain ⟨p0, pr, hp⟩ : ∃ p0 pr, e.ps = p0 :: pr := by cases hps : e.ps with | nil => exact absurd hps h2 | cons a l => exact ⟨_, _, rfl⟩
    obtain ⟨a0, ar, hco⟩ : ∃ a0 ar, r.co = a0 :: ar := ⟨_, _, by rw [h1]; simp only [rowOf]; rw [hp]; rfl⟩
    have hx : r.xs = p0.1 :: pr.map (·.1) := by rw [h1]; simp only [rowOf]; rw [hp]; rfl
    have hD0 : DomAt g D p0.1 := hD p0 (by rw [hp]; exact List.mem_cons_self ..)
    have hlen : r.co.length ≤ 10 := by rw [h1]; simp only [rowOf, List.length_map]; exact he.len
    have e1 : truthZ D g le e = (if r.co.headD 0 < 0 then (if r.le then ((tellZ D g ⟨true, r.co.map (- ·), r.xs, -r.c - 1⟩).1.not, (tellZ D g ⟨true, r.co.map (- ·), r.xs, -r.c - 1⟩).2) else tellZ D g ⟨false, r.co.map (- ·), r.xs, -r.c⟩) else tellZ D g r) := by unfold truthZ; rw [hr]
    rw [e1, show r.co.headD 0 = a0 by rw [hco]; rfl] at q
    have ha0 : a0 ≠ 0 := by
      have : a0 = p0.2.fdiv (gcdZ (e.ps.map (·.2))) := by
        rw [h1] at hco; simp only [rowOf] at hco; rw [hp] at hco
        rw [hp]
        exact (List.cons.inj hco).1.symm
      rw [this]
      exact fdiv_ne (gcdZ_dvd _ (List.mem_map_of_mem (by rw [hp]; exact List.mem_cons_self ..))) (hnz p0 (by rw [hp]; exact List.mem_cons_self ..))
    clear e1 hr h1 h2
    show _
    unfold rowV
    walk_at "run.7.OpL"
    refine OpL.isBool (.tup ..) ?_
    walk_at "run.16.Op2"
    refine Op2.eqD (x := .str _) (y := .str _) (kindS_ok r.le) strOk_ne (Nat.zero_le _) ?_
    rw [kne]
    walk_at "run.6.Ev"
    refine Ev.comp (gens1 rfl (fun _ _ => rfl)) ?_ rfl (by decide) rfl
    walk_at "e0.1.Exists"
    refine ⟨_, _, _, MkIter.tup, CompOK.map (fun _ ρ => ∃ a b, ρ = [⟨".0", none, a⟩, ⟨"a", none, b⟩]) (fun a => .int (-a)) (fun L' => ⟨_, _, rfl⟩) (by rw [sizeLine_eq]; omega) (fun _ _ => trivial) ?_ ?_⟩
    · intro L' Kp' hKp a ha ρ M' hM hP ⟨b, c, hρ⟩
      subst hρ
      walk_at "a0.1.TW"; walk_at "e0.2.Op1"
      refine Op1.neg ?_
      walk_at "run.0.And"; refine ⟨rfl, ?_⟩; refine ⟨rfl, ?_⟩
      first | exact ⟨rfl, rfl, _, _, _, rfl⟩ | exact ⟨rfl, rfl, _, _, rfl⟩ | exact ⟨rfl, _, _, rfl⟩ | exact ⟨_, _, rfl⟩
    walk_at "run.0.OpL"
    refine OpL.tuple (by rw [sizeLine_eq, List.length_map]; omega) ?_
    rw [show (r.co.map fun a => V.int (-a)) = (r.co.map (- ·)).map V.int by rw [List.map_map]; rfl]
    rw [show intsV r.co = .tup (.int a0 :: ar.map .int) by rw [hco]; rfl]
    walk_at "run.12."
    refine ifB (fun h1 => ?_) fun h1 => ?_
    · have h1' : a0 < 0 := of_decide_eq_true h1
      rw [if_pos h1'] at q
      walk_at "t.4.Op2"
      refine Op2.eqD (x := .str _) (y := .str _) (kindS_ok r.le) strOk_le (Nat.zero_le _) ?_
      rw [kle]
      refine ⟨_, rfl, ifB (fun h3 => ?_) fun h3 => ?_⟩
      · rw [if_pos h3] at q
        walk_at "t.7.Exists"
        refine ⟨_, m_told_truth (by exact hG) (by exact hS'), ?_⟩
        walk_at "m.7.Op1"
        refine Op1.neg ?_
        walk_at "run.3.OpL"
        refine told_spec (r := ⟨r.le, r.co.map (- ·), r.xs, -r.c - 1⟩) hx (by exact hG) (by rfl) (by exact hS') hD0 hz hz' hz'' ?_
        walk_at "run.0.OpL"
        refine contrary_spec (by exact hG) (by rfl) ?_
        refine retR ?_
        rw [h3]
        exact q
      · rw [if_neg (by simp [h3])] at q
        walk_at "run.6.Exists"
        refine ⟨_, m_told_truth (by exact hG) (by exact hS'), ?_⟩
        walk_at "m.9."
        refine ifB (fun h4 => ?_) fun h4 => ?_
        · exact absurd (of_decide_eq_true h4) (by omega)
        walk_at "e.6.Op1"
        refine Op1.neg ?_
        walk_at "run.1.OpL"
        refine told_spec (r := ⟨r.le, r.co.map (- ·), r.xs, -r.c⟩) hx (by exact hG) (by rfl) (by exact hS') hD0 hz hz' hz'' ?_
        refine retR ?_
        rw [h3]
        exact q
    · have h1' : ¬ a0 < 0 := of_decide_eq_false h1
      rw [if_neg h1'] at q
      walk_at "run.6.Exists"
      refine ⟨_, m_told_truth (by exact hG) (by exact hS'), ?_⟩
      walk_at "m.9."
      refine ifB (fun h4 => ?_) fun h4 => ?_
      · walk_at "e.1.OpL"
        refine told_spec (r := r) hx (by exact hG) (by rfl) (by exact hS') hD0 hz hz' hz'' ?_
        refine retR ?_
        exact q
      · exact absurd (of_decide_eq_false h4) (by omega)
end
end
section
section
variable {C : Cx} {ρ : List Sl} {n : Nat} {Q : V → AS → Prop} {σ : Sg} {g : G} {P T : List (Addr × MO)} {D : Int → List (Int × Int)}
theorem equal_spec {e e' : Lin} (hG : HG C) (hlv : C.lv = n+6) (hS : Self C.Kp σ) (he : e.OK) (he' : e'.OK) (hp : (e.plus e' (-1)).OK) (hnz : ∀ p ∈ (e.plus e' (-1)).ps, p.2 ≠ 0) (hD : ∀ p ∈ (e.plus e' (-1)).ps, DomAt g D p.1) (hz : g.vars.length ≤ 100000) (hz' : g.made.length ≤ 100000) (hz'' : g.tolds.length ≤ 100000)
    (q : Q (truthZ D g false (e.plus e' (-1))).1.v ⟨ρ, P ++ gmem σ (truthZ D g false (e.plus e' (-1))).2 T⟩) :
    OpL C ⟨ρ, P ++ gmem σ g T⟩ (fun vs => call (.ref 385) vs) [.raw (.ref σ.x), e.v, e'.v] RV Q := by
  refine OpL.fnP (n := n+5) ((congrArg (fun K => List.lookup 385 K) hG).trans rfl) (by rw [hG]; rfl) hlv (len3 fun _ _ _ => rfl) rfl rfl rfl (by decide) rfl rfl rfl ?h
  intro L A Kp hK C'
  have hS' := hS.weaken hK
  walk_at "b0.6.OpL"
  refine is_truth_v (by exact hG) (by rfl) ?_
  walk_at "run.8.Exists"
  refine ⟨_, m_row_truth (by exact hG) (by exact hS'), ?_⟩
  walk_at "m.6.Op1"
  refine Op1.neg ?_
  walk_at "run.0.OpL"
  refine plus_spec (f := -1) (by exact hG) (by rfl) he he' (by decide) ?_
  walk_at "run.0.OpL"
  refine truth_spec (le := false) (by exact hG) (by rfl) (by exact hS') hp hnz hD hz hz' hz'' ?_
  refine retR ?_
  exact q
theorem less_spec {e e' : Lin} (hG : HG C) (hlv : C.lv = n+6) (hS : Self C.Kp σ) (he : e.OK) (he' : e'.OK) (hp1 : (e.plus e' (-1)).OK) (hp : ((e.plus e' (-1)).plus ⟨[], 1⟩ 1).OK) (hnz : ∀ p ∈ ((e.plus e' (-1)).plus ⟨[], 1⟩ 1).ps, p.2 ≠ 0) (hD : ∀ p ∈ ((e.plus e' (-1)).plus ⟨[], 1⟩ 1).ps, DomAt g D p.1) (hz : g.vars.length ≤ 100000) (hz' : g.made.length ≤ 100000) (hz'' : g.tolds.length ≤ 100000)
    (q : Q (truthZ D g true ((e.plus e' (-1)).plus ⟨[], 1⟩ 1)).1.v ⟨ρ, P ++ gmem σ (truthZ D g true ((e.plus e' (-1)).plus ⟨[], 1⟩ 1)).2 T⟩) :
    OpL C ⟨ρ, P ++ gmem σ g T⟩ (fun vs => call (.ref 392) vs) [.raw (.ref σ.x), .str "<", e.v, e'.v] RV Q := by
  refine OpL.fnP (n := n+5) ((congrArg (fun K => List.lookup 392 K) hG).trans rfl) (by rw [hG]; rfl) hlv (len4 fun _ _ _ _ => rfl) rfl rfl rfl (by decide) rfl rfl rfl ?h
  intro L A Kp hK C'
  have hS' := hS.weaken hK
  walk_at "b0.8.Op2"
  refine Op2.inT (by decide +kernel) (by decide +kernel) (by decide) ?_
  rw [show ([V.str "=", V.str "!="].any fun z => z.eqb (.str "<")) = false by decide +kernel]
  walk_at "run.11.Op2"
  refine Op2.inT (by decide +kernel) (by decide +kernel) (by decide) ?_
  rw [show ([V.str ">", V.str ">="].any fun z => z.eqb (.str "<")) = false by decide +kernel]
  walk_at "run.7.Exists"
  refine ⟨_, m_row_truth (by exact hG) (by exact hS'), ?_⟩
  walk_at "m.7.Op1"
  refine Op1.neg ?_
  walk_at "run.0.OpL"
  refine plus_spec (f := -1) (by exact hG) (by rfl) he he' (by decide) ?_
  walk_at "run.4.Op2"
  refine Op2.eqD (x := .str _) (y := .str _) (by decide +kernel) (by decide +kernel) (Nat.zero_le _) ?_
  rw [show (V.str "<").eqb (V.str "<") = true by decide +kernel]
  walk_at "run.4.OpL"
  refine plus_spec (f := 1) (g := ⟨[], 1⟩) (by exact hG) (by rfl) hp1 (by exact ⟨List.nodup_nil, by decide, fun _ h => (nomatch h), by decide⟩) (by decide) ?_
  walk_at "run.0.OpL"
  refine truth_spec (le := true) (by exact hG) (by rfl) (by exact hS') hp hnz hD hz hz' hz'' ?_
  refine retR ?_
  exact q
end
end
section
noncomputable def runK (lt : Nat → Nat → Bool) {α : Type} : KasT α → α
  | .ret a => a
  | .ask i j k => runK lt (k (lt i j))
noncomputable def inR (n : Nat) {α : Type} : KasT α → Bool
  | .ret _ => true
  | .ask i j k => decide (i < n) && decide (j < n) && !decide (i = j) && inR n (k true) && inR n (k false)
theorem inR_a {n : Nat} {α : Type} {i j : Nat} {k : Bool → KasT α} (r : inR n (.ask i j k) = true) : i < n ∧ j < n ∧ i ≠ j ∧ ∀ b, inR n (k b) = true := by
  have r : ((((decide (i < n) && decide (j < n)) && !decide (i = j)) && inR n (k true)) && inR n (k false)) = true := r
  rw [Bool.and_eq_true, Bool.and_eq_true, Bool.and_eq_true, Bool.and_eq_true, decide_eq_true_eq, decide_eq_true_eq, Bool.not_eq_true', decide_eq_false_iff_not] at r
  exact ⟨r.1.1.1.1, r.1.1.1.2, r.1.1.2, fun b => by cases b with | true => exact r.1.2 | false => exact r.2⟩
theorem runK_wp {n : Nat} {cmp : Nat → Nat → (Bool → Shared → Prop) → Shared → Prop} {lt : Nat → Nat → Bool} {P : Shared → Prop}
    (hc : ∀ i j C s, i < n → j < n → i ≠ j → P s → (∀ s', P s' → C (lt i j) s') → cmp i j C s) {α : Type} {Q : α → Shared → Prop} : ∀ (t : KasT α) (s : Shared), inR n t = true → P s → (∀ s', P s' → Q (runK lt t) s') → t.kasWp cmp Q s
  | .ret a, s, _, p, h => h s p
  | .ask i j k, s, r, p, h => by
    have r := inR_a r
    exact hc i j _ s r.1 r.2.1 r.2.2.1 p fun s' p' => runK_wp hc (k (lt i j)) s' (r.2.2.2 _) p' h
theorem runK_congr {n : Nat} {lt lt' : Nat → Nat → Bool} (e : ∀ i j, i < n → j < n → i ≠ j → lt i j = lt' i j) {α : Type} : ∀ (t : KasT α), inR n t = true → runK lt t = runK lt' t
  | .ret a, _ => rfl
  | .ask i j k, r => by
    have r := inR_a r
    show runK lt (k (lt i j)) = runK lt' (k (lt' i j))
    rw [e i j r.1 r.2.1 r.2.2.1]
    exact runK_congr e _ (r.2.2.2 _)
theorem two {i j : Nat} (hi : i < 2) (hj : j < 2) (hn : i ≠ j) : (i = 0 ∧ j = 1) ∨ (i = 1 ∧ j = 0) := (by decide : ∀ i < 2, ∀ j < 2, i ≠ j → (i = 0 ∧ j = 1) ∨ (i = 1 ∧ j = 0)) i hi j hj hn
theorem three {i j : Nat} (hi : i < 3) (hj : j < 3) (hn : i ≠ j) : (i = 0 ∧ j = 1) ∨ (i = 0 ∧ j = 2) ∨ (i = 1 ∧ j = 0) ∨ (i = 1 ∧ j = 2) ∨ (i = 2 ∧ j = 0) ∨ (i = 2 ∧ j = 1) := by omega
theorem inR2 : inR 2 (kas_sort 2) = true := by decide +kernel
theorem inR3 : inR 3 (kas_sort 3) = true := by decide +kernel
noncomputable def bitAt (bs : List (Int × Bool)) (i : Nat) : Int × Bool := bs.getD i (0, false)
noncomputable def ltB (bs : List (Int × Bool)) (i j : Nat) : Bool := decide ((bitAt bs i).1 < (bitAt bs j).1)
noncomputable def outB (bs : List (Int × Bool)) (p : Array Nat) : List (Int × Bool) := p.toList.map (bitAt bs)
theorem run2a {x y : Int × Bool} (h : x.1 < y.1) : outB [x, y] (runK (ltB [x, y]) (kas_sort 2)) = [x, y] := by
  rw [runK_congr (n := 2) (lt' := fun i j => decide (i < j)) ?_ _ inR2]
  · rw [show runK (fun i j => decide (i < j)) (kas_sort 2) = #[0, 1] by decide +kernel]; rfl
  · intro i j hi hj hn
    rcases two hi hj hn with ⟨rfl, rfl⟩ | ⟨rfl, rfl⟩
    · simp [ltB, bitAt, h]
    · simp [ltB, bitAt]; omega
theorem run2b {x y : Int × Bool} (h : y.1 < x.1) : outB [x, y] (runK (ltB [x, y]) (kas_sort 2)) = [y, x] := by
  rw [runK_congr (n := 2) (lt' := fun i j => decide (j < i)) ?_ _ inR2]
  · rw [show runK (fun i j => decide (j < i)) (kas_sort 2) = #[1, 0] by decide +kernel]; rfl
  · intro i j hi hj hn
    rcases two hi hj hn with ⟨rfl, rfl⟩ | ⟨rfl, rfl⟩
    · simp [ltB, bitAt]; omega
    · simp [ltB, bitAt, h]
noncomputable def tab3 (i j : Nat) : Bool := i == 1 && j == 0 || i == 1 && j == 2 || i == 2 && j == 0
theorem run3 {x y z : Int × Bool} (h : y.1 < z.1) (h' : z.1 < x.1) : outB [x, y, z] (runK (ltB [x, y, z]) (kas_sort 3)) = [y, z, x] := by
  rw [runK_congr (n := 3) (lt' := tab3) ?_ _ inR3]
  · rw [show runK tab3 (kas_sort 3) = #[1, 2, 0] by decide +kernel]; rfl
  · intro i j hi hj hn
    rcases three hi hj hn with ⟨rfl, rfl⟩ | ⟨rfl, rfl⟩ | ⟨rfl, rfl⟩ | ⟨rfl, rfl⟩ | ⟨rfl, rfl⟩ | ⟨rfl, rfl⟩
    · simp [ltB, bitAt, tab3]; omega
    · simp [ltB, bitAt, tab3]; omega
    · simp [ltB, bitAt, tab3]; omega
    · simp [ltB, bitAt, tab3]; omega
    · simp [ltB, bitAt, tab3]; omega
    · simp [ltB, bitAt, tab3]; omega
theorem rep_at {h : Heap} {N : List Addr} {bs : List (Int × Bool)} {vs : List Value} (r : RepL h N vs (bs.map bitV)) (i : Nat) (hi : i < bs.length) : Rep h N (vs.getD i .none) (bitV (bitAt bs i)) := by
  have e : (bs.map bitV)[i]? = some (bitV (bitAt bs i)) := by rw [List.getElem?_map, List.getElem?_eq_getElem hi]; simp [bitAt, hi]
  obtain ⟨v, hv, rv⟩ := r.get e
  rw [List.getD_eq_getElem?_getD, hv]
  exact rv
theorem rep_out {h : Heap} {N : List Addr} {bs : List (Int × Bool)} {vs : List Value} (r : RepL h N vs (bs.map bitV)) : ∀ (p : List Nat), (∀ i ∈ p, i < bs.length) → RepL h N (p.map fun i => vs.getD i .none) ((p.map (bitAt bs)).map bitV)
  | [], _ => .nil
  | i :: p, hp => .cons (rep_at r i (hp i (.head _))) (rep_out r p fun j hj => hp j (.tail _ hj))
theorem rep_tups {h : Heap} {N : List Addr} {bs : List (Int × Bool)} {vs : List Value} (r : RepL h N vs (bs.map bitV)) : ∃ fs, fs.length = bs.length ∧ KatTups h vs fs ∧ ∀ v ∈ fs, ∃ t, v = .str "bit" t := by
  induction bs generalizing vs with
  | nil => rw [RepL.nil_inv r]; exact ⟨[], rfl, .nil, fun _ h => (nomatch h)⟩
  | cons b bs ih =>
    obtain ⟨_, _, ⟨⟩, r1, r2⟩ := r
    obtain ⟨fs, a, b', c⟩ := ih r2
    obtain ⟨_, _, e0, e, _, rl⟩ := Rep.tup_inv r1
    obtain ⟨_, _, e1, r0, _⟩ := RepL.cons_inv rl
    obtain ⟨t, e2⟩ := Rep.str_inv r0
    subst e0 e1 e2
    exact ⟨_ :: fs, congrArg Nat.succ a, .cons e rfl rfl (by simp) b', fun v hv => (List.mem_cons.mp hv).elim (fun e => ⟨t, e⟩) (c v)⟩
theorem bit_inv {h : Heap} {N : List Addr} {u : Value} {x : Int × Bool} (r : Rep h N u (bitV x)) : ∃ a t t', u = .ref a ∧ h.get? a = some { cls := .type "tuple", data := .seq [.str "bit" t, .int x.1 t', .bool x.2].toArray } := by
  obtain ⟨a, vs, e0, e, n, rl⟩ := Rep.tup_inv r
  obtain ⟨_, _, ⟨⟩, a1, rl⟩ := rl; obtain ⟨_, _, ⟨⟩, a2, rl⟩ := rl; obtain ⟨_, _, ⟨⟩, a3, rl⟩ := rl; cases a1; cases a2; cases a3; cases rl; exact ⟨a, _, _, e0, e⟩
theorem bit_lt {prog : Program} {w : World} {A : Around} {N : List Addr} {s : Shared} {u v : Value} {x y : Int × Bool} (r : Rep s.heap N u (bitV x)) (r' : Rep s.heap N v (bitV y)) (hn : x.1 ≠ y.1) {C : Bool → Shared → Prop}
    (h : ∀ tk, C (decide (x.1 < y.1)) { s with toks := tk }) : wpAny (model prog w) A (keyLt' (tuples' true) u v) C (fun _ _ => False) s := by
  obtain ⟨a, t1, t2, hu, e⟩ := bit_inv r
  obtain ⟨b, u1, u2, hv, e'⟩ := bit_inv r'
  rw [hu, hv]
  refine kat_lt e rfl e' rfl ?_
  refine kat_cons (wpAny_eqBool_str ?_)
  rw [decide_eq_true rfl]
  refine kat_yes (kat_cons (wpAny_eqBool_int ?_))
  rw [show (x.1 == y.1) = false by simpa using hn]
  refine kat_no (kat_one _ _ (PySem.P.lt_int ?_))
  exact h s.toks
theorem bits_asks {prog : Program} {w : World} {A : Around} {N : List Addr} {s : Shared} {vs : List Value} {bs : List (Int × Bool)} (r : RepL s.heap N vs (bs.map bitV)) (hz : 2 ≤ bs.length)
    (hd : ∀ i j, i < bs.length → j < bs.length → i ≠ j → (bitAt bs i).1 ≠ (bitAt bs j).1) (hR : inR bs.length (kas_sort bs.length) = true) {Q : Array Nat → Shared → Prop}
    (h : ∀ tk, Q (runK (ltB bs) (kas_sort bs.length)) { s with toks := tk }) :
    wpAny (model prog w) A (keyKind' vs.toArray) (fun κ s' => (kas_sort vs.length).kasWp (kas_ask prog w A κ vs) Q s') (fun _ _ => False) s := by
  obtain ⟨fs, hf, ht, hs⟩ := rep_tups r
  have hl : vs.length = bs.length := by rw [r.length, List.length_map]
  refine kat_kind (T := .type "str") ht (by omega) (fun v hv => ?_) (by decide) ?_
  · obtain ⟨t, rfl⟩ := hs v hv; exact Looks.of_pure rfl
  rw [show (Value.type "str" != Value.type "tuple") = true by decide, hl]
  refine runK_wp (n := bs.length) (lt := ltB bs) (P := fun s' => ∃ tk, s' = { s with toks := tk }) ?_ _ _ hR ⟨s.toks, rfl⟩ ?_
  · rintro i j C _ hi hj hn ⟨tk, rfl⟩ hC
    exact bit_lt (s := { s with toks := tk }) (rep_at r i hi) (rep_at r j hj) (hd i j hi hj hn) fun tk' => hC _ ⟨tk', rfl⟩
  · rintro _ ⟨tk, rfl⟩; exact h tk
section
variable {C : Cx} {X : AS} {Q : V → AS → Prop}
theorem OpL.sortedB {bs : List (Int × Bool)} (h2 : 2 ≤ bs.length) (h64 : bs.length < 64) (hd : ∀ i j, i < bs.length → j < bs.length → i ≠ j → (bitAt bs i).1 ≠ (bitAt bs j).1) (hR : inR bs.length (kas_sort bs.length) = true)
    (hp : ∀ i ∈ (runK (ltB bs) (kas_sort bs.length)).toList, i < bs.length) (q : Q (.lst ((outB bs (runK (ltB bs) (kas_sort bs.length))).map bitV)) X) : OpL C X (fun vs => call (.builtin "sorted") vs) [.lst (bs.map bitV)] RV Q := fun s S vs r => by
  obtain ⟨_, _, hv9, r1, r2⟩ := RepL.cons_inv r; clear r; cases (hv9); cases r2; obtain ⟨a, vs, n, hv9, e, hN, rl⟩ := Rep.lst_inv r1; clear r1; cases (hv9)
  · obtain ⟨m, hs, F, N⟩ := S.fr
    have hl : vs.length = bs.length := by rw [rl.length, List.length_map]
    refine kat_sorted F N ⟨_, e, rfl, _, rfl⟩ (by omega) (by omega) fun D e1 h' F' N' hlt => ?_
    obtain ⟨H, mo⟩ := S.back hs F' N' fun p hp => List.mem_cons_of_mem _ hp
    refine bits_asks (s := { s with heap := h' }) (rl.mono S.H mo) h2 hd hR fun tk => ?_
    refine KasFin.intro F' N' (.head fun p hp => Nat.ne_of_lt (hlt p hp)) fun h'' c F'' N'' => ?_
    obtain ⟨H2, mo2⟩ := S.back hs F'' N'' fun p hp => List.mem_cons_of_mem _ hp
    have hD := N'' (D, listOf _ c) (List.mem_cons_self ..)
    have hDn : D ∉ X.N := fun hm => by
      have hm' : D ∈ muts C X := List.mem_cons_of_mem _ (List.mem_append_right _ hm)
      obtain ⟨o, eo⟩ := S.H.live D hm'
      exact absurd (hlt (D, o) (mem_all0.mpr ⟨eo, hD.2.1⟩)) (Nat.lt_irrefl _)
    exact ⟨_, X, q, ⟨H2, S.gens, S.os⟩, .lst hD.1 hDn (rep_out (rl.mono S.H mo2) _ hp), mo2⟩
theorem mem2 {lt : Nat → Nat → Bool} : ∀ i ∈ (runK lt (kas_sort 2)).toList, i < 2 := by
  rw [runK_congr (n := 2) (lt' := fun i j => if i = 0 then lt 0 1 else lt 1 0) ?_ _ inR2]
  · generalize lt 0 1 = a; generalize lt 1 0 = b
    revert a b; decide +kernel
  · intro i j hi hj hn
    rcases two hi hj hn with ⟨rfl, rfl⟩ | ⟨rfl, rfl⟩
    · rfl
    · rfl
theorem OpL.sorted2 {x y : Int × Bool} (h : y.1 < x.1) (q : Q (.lst [bitV y, bitV x]) X) : OpL C X (fun vs => call (.builtin "sorted") vs) [.lst [bitV x, bitV y]] RV Q :=
  OpL.sortedB (bs := [x, y]) (Nat.le_refl 2) (show 2 < 64 by decide) (by
    intro i j hi hj hn
    rcases two hi hj hn with ⟨rfl, rfl⟩ | ⟨rfl, rfl⟩
    · simp [bitAt]; omega
    · simp [bitAt]; omega) inR2 (by exact mem2) (by rw [show outB [x, y] (runK (ltB [x, y]) (kas_sort [x, y].length)) = [y, x] from run2b h]; exact q)
theorem OpL.sorted3 {x y z : Int × Bool} (h : y.1 < z.1) (h' : z.1 < x.1) (q : Q (.lst [bitV y, bitV z, bitV x]) X) : OpL C X (fun vs => call (.builtin "sorted") vs) [.lst [bitV x, bitV y, bitV z]] RV Q :=
  OpL.sortedB (bs := [x, y, z]) (show 2 ≤ 3 by decide) (show 3 < 64 by decide) (by
    intro i j hi hj hn
    rcases three hi hj hn with ⟨rfl, rfl⟩ | ⟨rfl, rfl⟩ | ⟨rfl, rfl⟩ | ⟨rfl, rfl⟩ | ⟨rfl, rfl⟩ | ⟨rfl, rfl⟩
    · simp [bitAt]; omega
    · simp [bitAt]; omega
    · simp [bitAt]; omega
    · simp [bitAt]; omega
    · simp [bitAt]; omega
    · simp [bitAt]; omega) inR3 (by
      show ∀ i ∈ (runK (ltB [x, y, z]) (kas_sort 3)).toList, i < 3
      rw [runK_congr (n := 3) (lt' := tab3) ?_ _ inR3]
      · decide +kernel
      · intro i j hi hj hn
        rcases three hi hj hn with ⟨rfl, rfl⟩ | ⟨rfl, rfl⟩ | ⟨rfl, rfl⟩ | ⟨rfl, rfl⟩ | ⟨rfl, rfl⟩ | ⟨rfl, rfl⟩
        · simp [ltB, bitAt, tab3]; omega
        · simp [ltB, bitAt, tab3]; omega
        · simp [ltB, bitAt, tab3]; omega
        · simp [ltB, bitAt, tab3]; omega
        · simp [ltB, bitAt, tab3]; omega
        · simp [ltB, bitAt, tab3]; omega) (by rw [show outB [x, y, z] (runK (ltB [x, y, z]) (kas_sort [x, y, z].length)) = [y, z, x] from run3 h h']; exact q)
theorem IsMeth.sort {l : List V} {a : Addr} (k : Nat) (hi : X.mem[k]? = some (a, .lst l)) : IsMeth C X (.raw (.ref a)) (Str.ofString "sort") (.builtin "list.sort") :=
  IsMeth.blt PySem.F.plainAttrs_list slot_list_sort (by show builtinType _ = _; rw [builtinType_eq_fast]; kernel_rfl) fun s S a r => by
    cases r
    obtain ⟨vs, n, e, _⟩ := S.at hi
    exact ⟨⟨_, e, rfl⟩, fun b h => by cases h; exact ⟨_, e, rfl⟩⟩
theorem OpL.sortM {bs : List (Int × Bool)} {a : Addr} (k : Nat) (hi : X.mem[k]? = some (a, .lst (bs.map bitV))) (h2 : 2 ≤ bs.length) (h64 : bs.length < 64) (hd : ∀ i j, i < bs.length → j < bs.length → i ≠ j → (bitAt bs i).1 ≠ (bitAt bs j).1) (hR : inR bs.length (kas_sort bs.length) = true)
    (hp : ∀ i ∈ (runK (ltB bs) (kas_sort bs.length)).toList, i < bs.length) (q : Q .none { X with mem := X.mem.set k (a, .lst ((outB bs (runK (ltB bs) (kas_sort bs.length))).map bitV)) }) : OpL C X (fun vs => call (.builtin "list.sort") vs) [.raw (.ref a)] RV Q := fun s S vs r => by
  obtain ⟨_, _, ⟨⟩, r1, r2⟩ := r
  ·
    cases r2; cases r1
    obtain ⟨vs, n, e, rl⟩ := S.at hi
    obtain ⟨m, hs, F, N⟩ := S.fr
    have hl : vs.length = bs.length := by rw [rl.length, List.length_map]
    have haN : a ∈ X.N := List.mem_map.mpr ⟨_, List.mem_of_getElem? hi, rfl⟩
    have haL : a ≠ C.env.locals := fun x => (List.nodup_cons.mp S.H.nodup).1 (List.mem_append_right _ (x ▸ haN))
    have N₀ : News h0 C.env.locals s.heap ((all0 s.heap C.env.locals).filter fun p => !decide (p.1 = a)) := fun p hp => N p (List.mem_filter.mp hp).1
    have hne : ∀ p ∈ (all0 s.heap C.env.locals).filter (fun p => !decide (p.1 = a)), p.1 ≠ a := fun p hp => by simpa using (List.mem_filter.mp hp).2
    have hin : ∀ b o, s.heap.get? b = some o → b ≠ C.env.locals → b ≠ a → (b, o) ∈ (all0 s.heap C.env.locals).filter fun p => !decide (p.1 = a) := fun b o e n n' => List.mem_filter.mpr ⟨mem_all0.mpr ⟨e, n⟩, by simpa using n'⟩
    have kk : ∀ {h' : Heap} {o : Obj}, News h0 C.env.locals h' ((a, o) :: (all0 s.heap C.env.locals).filter fun p => !decide (p.1 = a)) → ∀ (b : Addr) (o : Obj), s.heap.get? b = some o → SeqObj o → b ∉ X.N → h'.get? b = some o ∧ b ∉ X.N :=
      fun N' b o e q n => ⟨(N' _ (List.mem_cons_of_mem _ (hin b o e (fun x => S.H.free e q n (x ▸ List.mem_cons_self ..)) fun x => n (x ▸ haN)))).1, n⟩
    refine wpAny_call_entry slot_list_sort ⟨_, e, rfl⟩ entry_list_sort (kat_list_sort F N₀ e haL (h0_none a) hne (by omega) (by omega) fun e1 h' F' N' => ?_) (args_list_sort _)
    refine bits_asks (s := { s with heap := h' }) (rl.map (kk N')) h2 hd hR fun tk => ?_
    refine KasFin.intro F' N' (.head hne) fun h'' c F'' N'' => ⟨.none, rfl, ?_⟩
    have ho1 : (s.heap.update a fun _ => listOf (List.toArray ((runK (ltB bs) (kas_sort bs.length)).toList.map fun i => vs.getD i .none)) c).get? a = some (listOf (List.toArray ((runK (ltB bs) (kas_sort bs.length)).toList.map fun i => vs.getD i .none)) c) := Heap.get?_update_self _ e rfl
    have hb : Heap.SameBut a s.heap (s.heap.update a fun _ => listOf (List.toArray ((runK (ltB bs) (kas_sort bs.length)).toList.map fun i => vs.getD i .none)) c) := Heap.SameBut.update ..
    have kb : ∀ (b : Addr) (o : Obj), s.heap.get? b = some o → SeqObj o → b ∉ X.N → (s.heap.update a fun _ => listOf (List.toArray ((runK (ltB bs) (kas_sort bs.length)).toList.map fun i => vs.getD i .none)) c).get? b = some o ∧ b ∉ X.N :=
      fun b o e _ n => ⟨(hb.2 b fun q => n (q ▸ haN)).trans e, n⟩
    have H1 := S.H.write (mo' := .lst ((outB bs (runK (ltB bs) (kas_sort bs.length))).map bitV)) hi hb ⟨_, c, ho1, rep_out (rl.map kb) _ hp⟩
    have m1 := Mono.write (C := C) (mo' := .lst ((outB bs (runK (ltB bs) (kas_sort bs.length))).map bitV)) hi hb
    have k2 : ∀ b o, b ≠ C.env.locals → (s.heap.update a fun _ => listOf (List.toArray ((runK (ltB bs) (kas_sort bs.length)).toList.map fun i => vs.getD i .none)) c).get? b = some o → h''.get? b = some o := fun b o n e' => by
      by_cases hba : b = a
      · subst hba; rw [ho1] at e'; cases e'; exact (N'' _ (List.mem_cons_self ..)).1
      · exact (N'' _ (List.mem_cons_of_mem _ (hin b o ((hb.2 b hba).symm.trans e') n hba))).1
    refine ⟨_, _, q, ⟨?_, S.gens, S.os⟩, .none, m1.trans fun b o e' n' => ⟨k2 b o (fun x => n' (x ▸ List.mem_cons_self ..)) e', n'⟩⟩
    obtain ⟨m2, hns2, hs2⟩ := H1.ns
    have hs3 : ∀ e ∈ X.ρ, SlotRep C (s.heap.update a fun _ => listOf (List.toArray ((runK (ltB bs) (kas_sort bs.length)).toList.map fun i => vs.getD i .none)) c) ({ X with mem := X.mem.set k (a, .lst ((outB bs (runK (ltB bs) (kas_sort bs.length))).map bitV)) } : AS).N m e := fun e' he' => by
      rw [show ({ X with mem := X.mem.set k (a, .lst ((outB bs (runK (ltB bs) (kas_sort bs.length))).map bitV)) } : AS).N = X.N from keys_set hi]
      exact (hs e' he').map kb fun cc o n nl e' _ => ⟨(hb.2 cc fun q => n (q ▸ haN)).trans e', n⟩
    exact H1.keepsL hs3 F''.ns k2
theorem OpL.sortM2a {x y : Int × Bool} {a : Addr} (k : Nat) (hi : X.mem[k]? = some (a, .lst [bitV x, bitV y])) (h : x.1 < y.1) (q : Q .none { X with mem := X.mem.set k (a, .lst [bitV x, bitV y]) }) : OpL C X (fun vs => call (.builtin "list.sort") vs) [.raw (.ref a)] RV Q :=
  OpL.sortM (bs := [x, y]) k hi (Nat.le_refl 2) (show 2 < 64 by decide) (by
    intro i j hi hj hn
    rcases two hi hj hn with ⟨rfl, rfl⟩ | ⟨rfl, rfl⟩
    · simp [bitAt]; omega
    · simp [bitAt]; omega) inR2 (by exact mem2) (by rw [show outB [x, y] (runK (ltB [x, y]) (kas_sort [x, y].length)) = [x, y] from run2a h]; exact q)
theorem OpL.sortM2b {x y : Int × Bool} {a : Addr} (k : Nat) (hi : X.mem[k]? = some (a, .lst [bitV x, bitV y])) (h : y.1 < x.1) (q : Q .none { X with mem := X.mem.set k (a, .lst [bitV y, bitV x]) }) : OpL C X (fun vs => call (.builtin "list.sort") vs) [.raw (.ref a)] RV Q :=
  OpL.sortM (bs := [x, y]) k hi (Nat.le_refl 2) (show 2 < 64 by decide) (by
    intro i j hi hj hn
    rcases two hi hj hn with ⟨rfl, rfl⟩ | ⟨rfl, rfl⟩
    · simp [bitAt]; omega
    · simp [bitAt]; omega) inR2 (by exact mem2) (by rw [show outB [x, y] (runK (ltB [x, y]) (kas_sort [x, y].length)) = [y, x] from run2b h]; exact q)
end
end
section
noncomputable def ent (p : Int × Tok) : Int × Value := (hashInt p.1, .int p.1 p.2)
noncomputable def byText (w : World) : Bool := w.params.followText "set-order"
structure SetT (w : World) (n : Nat) (t : SetTable) : Prop where
  fits : t.fits n = true
  led : byText w = false → t.led = true
  rise : t.place.toList.Pairwise (· < ·)
inductive SetO (w : World) (ns : List Int) (o : Obj) : Prop where
  | mk (ks : List (Int × Tok)) (ep : Nat) (t : SetTable) : o = { cls := .type "set", data := .set (ks.map ent).toArray ep t } → SetT w ks.length t → (ks.map (·.1)).Perm ns → ks.length ≤ 2 → SetO w ns o
section
variable {prog : Program} {w : World} {A : Around} {E : Value → Shared → Prop} {s : Shared}
theorem ent_elems {ks : List (Int × Tok)} : ElemsOf (intKind prog w) (ks.map ent) := fun e he => by
  obtain ⟨p, _, rfl⟩ := List.mem_map.mp he
  exact ⟨⟨p.1, intKind_is _ _ _ _, rfl⟩, rfl⟩
theorem ent_find {ks : List (Int × Tok)} {k : Int} (h : k ∉ ks.map (·.1)) : (ks.map ent).findIdx? (fun e => (intKind prog w).is k e.2) = none := by
  refine List.findIdx?_eq_none_iff.mpr fun e he => ?_
  obtain ⟨p, hp, rfl⟩ := List.mem_map.mp he
  cases hq : (intKind prog w).is k (ent p).2 with
  | false => rfl
  | true =>
    refine absurd ?_ h
    have := (intKind prog w).inj _ _ _ hq (intKind_is prog w p.1 p.2)
    exact List.mem_map.mpr ⟨p, hp, this.symm⟩
theorem set_add {S : Addr} {ks : List (Int × Tok)} {ep : Nat} {t : SetTable} {k : Int} {tk : Tok} {Q : Bool → Shared → Prop} (ho : s.heap.get? S = some { cls := .type "set", data := .set (ks.map ent).toArray ep t })
    (hf : t.fits ks.length = true) (hk : k ∉ ks.map (·.1)) (hz : ks.length + 1 < scanBound) {es1 : Array (Int × Value)} {t1 : SetTable} {wd gv : Bool} (hl : layNew t (ks.map ent).toArray (hashInt k) (.int k tk) = (es1, t1, wd, gv)) (hfull : t1.tooFull = false)
    (h : Q true { s with heap := s.heap.update S (Obj.putSet es1 t1) }) : wpAny (model prog w) A (setAddHashed S (.int k tk) (hashInt k)) Q E s := by
  have hf' : t.fits (ks.map ent).toArray.size = true := by simpa using hf
  have hel : ElemsOf (intKind prog w) ((ks.map ent).toArray.toList) := by simpa using ent_elems
  have hz1 : es1.size ≤ sizeLine := by
    have := (layNew_perm t (ks.map ent).toArray (hashInt k) (.int k tk)).length_eq
    rw [hl] at this
    simp at this
    exact fits_of_scanBound (by rw [this]; exact hz)
  unfold setAddHashed setAddHashedIn
  refine wpAny_holding (wpAny_bind (wpAny_setState_of ho rfl hf' ?_))
  dsimp only
  rw [byScan_of (knd := intKind prog w) rfl (by simp; omega) hel]
  simp only [↓reduceIte]
  unfold setAddByScan
  refine wpAny_bind ?_
  refine wpAny_bind (wpAny_rule ?_)
  refine wpAny_bind (wpAny_setScan_of (knd := intKind prog w) (k := k) (intKind_is _ _ _ _) ho rfl hf' hel ?_)
  rw [show List.findIdx? (fun e => (intKind prog w).is k e.2) (ks.map ent).toArray.toList = none from ent_find hk]
  dsimp only
  rw [hl]
  dsimp only
  have hgw : ∀ (b : Bool) {s₁ : Shared} {Q' : Unit → Shared → Prop}, Q' () s₁ → wpAny (model prog w) A (match b with | true => rule "set.scan.the-table-gave-way" | false => pure ()) Q' E s₁ :=
    fun b s₁ Q' hq => by cases b <;> first | exact wpAny_pure hq | exact wpAny_rule hq
  refine wpAny_bind (hgw _ ?_)
  have fin : ∀ {g : Option Bool → Shared → Prop}, g (some true) { s with heap := s.heap.update S (Obj.putSet es1 t1) } → wpAny (model prog w) A (do
      storeSet S es1 t1
      if (!wd && t1.tooFull) = true then do
          (match (relayAll t1 es1 (SetTable.grown es1.size)).2.2 with
            | true => rule "set.scan.the-table-gave-way"
            | false => pure () : Sem Unit)
          storeSet S (relayAll t1 es1 (SetTable.grown es1.size)).1 (relayAll t1 es1 (SetTable.grown es1.size)).2.1
          pure (some true)
        else pure (some true)) g E s := fun hg => by
    refine wpAny_bind (wpAny_storeSet_of ho rfl ?_ hz1)
    rw [hfull, Bool.and_false]
    simp only [Bool.false_eq_true, if_false]
    exact wpAny_pure hg
  split
  · refine wpAny_bind ?_
    rw [hashByValue_scannable 8 rfl]
    refine wpAny_pure ?_
    refine fin ?_
    exact wpAny_pure h
  · refine wpAny_bind (wpAny_pure ?_)
    simp only [↓reduceIte]
    refine fin ?_
    exact wpAny_pure h
end
noncomputable def tab0 (led : Bool) : SetTable := SetTable.fresh 0 0 led
noncomputable def tab1 (led : Bool) (j : Nat) : SetTable := { tab0 led with place := #[j] }
theorem lay0 (led : Bool) (h : Int) (x : Value) : layNew (tab0 led) #[] h x = (#[(h, x)], tab1 led (SetTable.bits h % 8), false, false) := by
  have e1 : (tab0 led).freeSlot h = some (SetTable.bits h % 8, false) := by
    unfold SetTable.freeSlot
    have : (tab0 led).probe (fun _ => h + 1) h ((tab0 led).probeStart h) = some (.empty (SetTable.bits h % 8) none) := by rfl
    rw [this]; rfl
  unfold layNew
  rw [e1]
  rfl
theorem below_s (xs : Array Nat) (j n lo hi : Nat) : SetTable.below.go xs j (n + 1) lo hi = if lo < hi then (if xs.getD ((lo + hi) / 2) j < j then SetTable.below.go xs j n ((lo + hi) / 2 + 1) hi else SetTable.below.go xs j n lo ((lo + hi) / 2)) else lo := rfl
theorem below1 (j1 j : Nat) : SetTable.below #[j1] j = if j1 < j then 1 else 0 := by
  show SetTable.below.go #[j1] j 1 0 1 = _
  rw [below_s, if_pos (by decide)]
  rfl
theorem slot1 (led : Bool) (j1 j : Nat) : (tab1 led j1).slot j = if j1 = j then .live 0 else .empty := by
  unfold SetTable.slot SetTable.has
  show (if (#[j1] : Array Nat)[SetTable.below #[j1] j]? == some j then SetTable.Slot.live (SetTable.below #[j1] j) else if ((#[] : Array Nat)[SetTable.below #[] j]? == some j) = true then .dummy else .empty) = _
  rw [below1]
  by_cases h : j1 < j
  · rw [if_pos h, if_neg (show ¬ j1 = j by omega)]; simp
  · rw [if_neg h]
    by_cases h' : j1 = j
    · subst h'; simp
    · simp [h']
theorem probe1 (led : Bool) (j1 : Nat) (h : Int) : ∀ (n : Nat) (p : SetTable.Probe), SetTable.probe.go (tab1 led j1) (fun _ => h + 1) h n p = none ∨ ∃ j, j1 ≠ j ∧ SetTable.probe.go (tab1 led j1) (fun _ => h + 1) h n p = some (.empty j p.dummy)
  | 0, _ => .inl rfl
  | n + 1, p => by
    have e0 : SetTable.probe.go (tab1 led j1) (fun _ => h + 1) h (n + 1) p = (match (tab1 led j1).slot p.j with | .empty => some (.empty p.j p.dummy) | .dummy => SetTable.probe.go (tab1 led j1) (fun _ => h + 1) h n ((tab1 led j1).advance { p with dummy := some p.j }) | .live i => if h + 1 == h then some (.candidate p.j i ((tab1 led j1).advance p)) else SetTable.probe.go (tab1 led j1) (fun _ => h + 1) h n ((tab1 led j1).advance p)) := rfl
    rw [e0, slot1]
    by_cases e : j1 = p.j
    · rw [if_pos e]
      dsimp only
      rw [if_neg (by simp; omega)]
      have := probe1 led j1 h n ((tab1 led j1).advance p)
      rw [show ((tab1 led j1).advance p).dummy = p.dummy by unfold SetTable.advance; split <;> rfl] at this
      exact this
    · rw [if_neg e]
      exact .inr ⟨_, e, rfl⟩
theorem free1 (led : Bool) (j1 : Nat) (h : Int) : (tab1 led j1).freeSlot h = none ∨ ∃ j, j1 ≠ j ∧ (tab1 led j1).freeSlot h = some (j, false) := by
  unfold SetTable.freeSlot SetTable.probe
  rcases probe1 led j1 h (10 * SetTable.turns (tab1 led j1).mask) ((tab1 led j1).probeStart h) with e | ⟨j, hj, e⟩
  · rw [e]; exact .inl rfl
  · rw [e]; exact .inr ⟨j, hj, rfl⟩
theorem lay1 (led : Bool) (j1 : Nat) (a b : Int × Tok) : ∃ ks t wd gv, layNew (tab1 led j1) #[ent a] (hashInt b.1) (.int b.1 b.2) = ((ks.map ent).toArray, t, wd, gv) ∧ (ks = [a, b] ∨ ks = [b, a]) ∧ t.fits 2 = true ∧ t.led = led ∧ t.place.toList.Pairwise (· < ·) ∧ t.tooFull = false := by
  rcases free1 led j1 (hashInt b.1) with e | ⟨j, hj, e⟩
  · refine ⟨[a, b], (tab1 led j1).standIn 2, false, true, ?_, .inl rfl, by rfl, rfl, ?_, by rfl⟩
    · unfold layNew; rw [e]; rfl
    · exact (show ([0, 1] : List Nat).Pairwise (· < ·) by decide)
  · by_cases h : j1 < j
    · refine ⟨[a, b], { tab1 led j1 with place := #[j1, j] }, false, false, ?_, .inl rfl, by rfl, rfl, ?_, by rfl⟩
      · unfold layNew SetTable.put
        rw [e]
        show (SetTable.insertAt #[ent a] (SetTable.below #[j1] j) (ent b), _) = _
        rw [show (tab1 led j1).place = #[j1] from rfl, below1, if_pos h]
        rfl
      · exact .cons (fun x hx => by rw [List.mem_singleton.mp hx]; exact h) (.cons (fun _ h => nomatch h) .nil)
    · refine ⟨[b, a], { tab1 led j1 with place := #[j, j1] }, false, false, ?_, .inr rfl, by rfl, rfl, ?_, by rfl⟩
      · unfold layNew SetTable.put
        rw [e]
        show (SetTable.insertAt #[ent a] (SetTable.below #[j1] j) (ent b), _) = _
        rw [show (tab1 led j1).place = #[j1] from rfl, below1, if_neg h]
        rfl
      · exact .cons (fun x hx => by rw [List.mem_singleton.mp hx]; omega) (.cons (fun _ h => nomatch h) .nil)
noncomputable def setObj (es : Array (Int × Value)) (ep : Nat) (t : SetTable) : Obj := { cls := .type "set", dict := none, data := .set es ep t }
inductive Set0 (w : World) (o : Obj) : Prop where
  | mk (led : Bool) : (byText w = false → led = true) → o = setObj #[] 0 (tab0 led) → Set0 w o
inductive Set1 (w : World) (x : Int) (o : Obj) : Prop where
  | mk (tk : Tok) (ep : Nat) (led : Bool) (j : Nat) : (byText w = false → led = true) → o = setObj #[ent (x, tk)] ep (tab1 led j) → Set1 w x o
noncomputable def SetS (w : World) (ns : List Int) (o : Obj) : Prop := match ns with
  | [] => Set0 w o
  | [x] => Set1 w x o
  | x :: y :: r => SetO w (x :: y :: r) o
theorem SetS.out {w : World} {ns : List Int} {o : Obj} (h : SetS w ns o) : SetO w ns o := by
  cases ns with
  | nil => obtain ⟨led, hl, e⟩ := (show Set0 w o from h); exact ⟨[], 0, tab0 led, e, ⟨rfl, hl, .nil⟩, .nil, Nat.zero_le _⟩
  | cons x ns =>
    cases ns with
    | nil => obtain ⟨tk, ep, led, j, hl, e⟩ := (show Set1 w x o from h); exact ⟨[(x, tk)], ep, tab1 led j, e, ⟨rfl, hl, .cons (fun _ h => nomatch h) .nil⟩, .refl _, Nat.le_succ 1⟩
    | cons y ns => exact h
section
variable {prog : Program} {w : World} {A : Around} {E : Value → Shared → Prop} {s : Shared}
theorem put_set {h : Heap} {a : Addr} {es : Array (Int × Value)} {ep : Nat} {t : SetTable} (ho : h.get? a = some (setObj es ep t)) (es' : Array (Int × Value)) (t' : SetTable) : (h.update a (Obj.putSet es' t')).get? a = some (setObj es' (ep + 1) t') := by
  have := Heap.get?_update_self (Obj.putSet es' t') ho (by rw [putSet_of es' t' rfl]; rfl)
  rw [putSet_of es' t' rfl] at this; exact this
theorem SetS.add {S : Addr} {ns : List Int} {k : Int} {tk : Tok} {Q : Bool → Shared → Prop} (h0 : ∃ o, s.heap.get? S = some o ∧ SetS w ns o) (hn : ns.length ≤ 1) (hk : k ∉ ns)
    (h : ∀ h', Heap.SameBut S s.heap h' → (∃ o, h'.get? S = some o ∧ SetS w (ns ++ [k]) o) → Q true { s with heap := h' }) : wpAny (model prog w) A (setAddHashed S (.int k tk) (hashInt k)) Q E s := by
  obtain ⟨o, ho, hS⟩ := h0
  cases ns with
  | nil =>
    obtain ⟨led, hl, e⟩ := (show Set0 w o from hS)
    subst e
    refine set_add (ks := []) ho rfl (by simp) (by decide) (lay0 led _ _) (by rfl) (h _ (Heap.SameBut.update ..) ⟨_, put_set ho _ _, ?_⟩)
    exact ⟨tk, _, led, _, hl, rfl⟩
  | cons x ns =>
    have hns : ns = [] := List.eq_nil_of_length_eq_zero (Nat.le_zero.mp (Nat.le_of_succ_le_succ hn))
    subst hns
    obtain ⟨tk', ep, led, j, hl, e⟩ := (show Set1 w x o from hS)
    subst e
    obtain ⟨ks, t, wd, gv, e1, e2, e3, e4, e5, e6⟩ := lay1 led j (x, tk') (k, tk)
    have hlen : ks.length = 2 := by rcases e2 with rfl | rfl <;> rfl
    refine set_add (ks := [(x, tk')]) ho rfl (by simpa using hk) (by show 1 + 1 < 4096; decide) e1 e6 (h _ (Heap.SameBut.update ..) ⟨_, put_set ho _ _, ?_⟩)
    refine ⟨ks, _, t, rfl, ⟨by rw [hlen]; exact e3, fun hb => by rw [e4]; exact hl hb, e5⟩, ?_, by omega⟩
    rcases e2 with rfl | rfl
    · exact .refl _
    · exact .swap _ _ _
end
section
variable {prog : Program} {w : World} {A : Around} {R : Result → Shared → Prop} {I : Addr} {fp wr : List Addr} {G : Array GenState → Array GenState → Prop} {P : Nat → Value → Prop} {St : Nat → Shared → Prop}
theorem set_loop {ns : List Int} (W : WalksS prog w A.in1 I fp wr G ns.length P St) (S : Addr) (hSf : S ∉ fp) (hval : ∀ i v, P i v → ∃ t, v = .int (ns.getD i 0) t) (hnd : ns.Nodup) (h2 : ns.length ≤ 2) :
    ∀ (k i : Nat) (s : Shared), ns.length - i = k → i ≤ ns.length → St i s → (∃ o, s.heap.get? S = some o ∧ SetS w (ns.take i) o) →
      (∀ s', Moved (S :: wr) G s s' → (∃ o, s'.heap.get? S = some o ∧ SetS w ns o) → R (.ok (.ret .none)) s') →
      codeAny (model prog w) A (.builtin "set.update.loop" ⟨[.ref S, .ref I], []⟩) R s := by
  have hSw : S ∉ wr := fun h => hSf (W.sub _ h)
  have hsub : ∀ b ∈ wr, b ∈ S :: wr := fun b hb => List.mem_cons_of_mem _ hb
  intro k
  induction k with
  | zero =>
    intro i s hk hi hst hS hR
    obtain rfl : i = ns.length := by omega
    rw [List.take_length] at hS
    refine codeAny_builtin PyProof.Rows.F.entry_set_update_loop ?_
    rw [Around.under_plainId PyProof.Rows.F.plain_set_update_loop _]
    show wpAny _ A.in1 (pyNext (.ref I) >>= _) _ _ s
    refine wpAny_bind (W.done s _ _ hst fun s' hm => ?_)
    show wpAny _ A.in1 (ret Value.none) _ _ s'
    exact wpAny_pure (hR s' (hm.mono hsub) (hS.imp fun o ab => ⟨hm.heap S _ hSw ab.1, ab.2⟩))
  | succ k ih =>
    intro i s hk hi hst hS hR
    have hlt : i < ns.length := by omega
    refine codeAny_builtin PyProof.Rows.F.entry_set_update_loop ?_
    rw [Around.under_plainId PyProof.Rows.F.plain_set_update_loop _]
    show wpAny _ A.in1 (pyNext (.ref I) >>= _) _ _ s
    refine wpAny_bind (W.item i s _ _ hlt hst fun v s' hP hst' hm => ?_)
    obtain ⟨t, rfl⟩ := hval i v hP
    have hS' : ∃ o, s'.heap.get? S = some o ∧ SetS w (ns.take i) o := hS.imp fun o ab => ⟨hm.heap S _ hSw ab.1, ab.2⟩
    show wpAny _ A.in1 (holding [Value.int (ns.getD i 0) t] (setAdd S (.int (ns.getD i 0) t)) >>= _) _ _ s'
    refine wpAny_bind (wpAny_holding ?_)
    unfold setAdd
    refine wpAny_holding ?_
    refine wpAny_bind ((intKind prog w).pyHash (k := ns.getD i 0) (intKind_is _ _ _ _) ?_)
    have hg : ns.getD i 0 = ns[i] := by simp [hlt]
    refine SetS.add (s := { s' with toks := s'.toks + 1 }) hS' (by rw [List.length_take]; omega) ?_ fun h' hsb hS2 => ?_
    · rw [hg]
      intro hm
      obtain ⟨j, hj, e⟩ := List.getElem_of_mem hm
      rw [List.length_take] at hj
      rw [List.getElem_take] at e
      exact absurd ((List.getElem_inj hnd).mp e) (by omega)
    rw [hg, show ns.take i ++ [ns[i]] = ns.take (i + 1) by rw [List.take_add_one]; simp [hlt]] at hS2
    refine wpAny_pure ⟨plainId_quiet PyProof.Rows.F.plain_set_update_loop _, ih (i + 1) _ (by omega) hlt (W.frame _ s' _ _ hst' (Nat.le_succ _) fun b hb o e => ?_) hS2 fun s'' hm'' hS'' => ?_⟩
    · rw [hsb.2 b (fun h : b = S => hSf (by rw [← h]; exact hb))]; exact e
    · refine hR s'' (Moved.trans W.gtrans ((hm.mono hsub).then_heap (Nat.le_succ _) fun b o hb e => ?_) hm'') hS''
      rw [hsb.2 b (fun h : b = S => hb (by rw [h]; exact List.mem_cons_self))]; exact e
end
section
variable {prog : Program} {w : World} {A : Around} {E : Value → Shared → Prop} {s : Shared}
theorem set_new {a : Value} {Q₁ : Value → Shared → Prop} (h : Q₁ (.ref s.heap.objs.size) { s with heap := s.heap.push (setObj #[] 0 (tab0 (!byText w))) }) :
    codeAny (model prog w) A (.call (.builtin "set.__new__") ⟨[.type "set", a], []⟩) (wants Q₁ E) s := by
  refine codeAny_of_tree ?_
  show wpAny _ A.in1 (do checkBuiltinCall "set.__new__" ⟨[.type "set", a], []⟩; again (.builtin "set.__new__" ⟨[.type "set", a], []⟩)) _ _ s
  refine wpAny_bind (wpAny_of_eq (PySem.F.newCall_set_1 a) (wpAny_pure ⟨plainId_quiet PySem.F.plain_set_new _, codeAny_builtin PySem.F.entry_set_new ?_⟩))
  rw [Around.under_plainId PySem.F.plain_set_new _]
  unfold Builtin.«set.__new__» Builtin.Frozenset.newClass
  have hsub := sub_set_self
  obtain ⟨hp, g, d, tk, os⟩ := s
  dsimp only
  wp_walk
  refine wpAny_askSetting (wpAny_pure ?_)
  dsimp only
  simp only [newObj]
  refine wpAny_bind (wpAny_alloc (wpAny_pure ?_))
  exact wpAny_pure h
set_option maxHeartbeats 3200000 in
theorem call_set {l : Addr} {items : Array Value} {ns : List Int} {Q : Value → Shared → Prop} (hh : A.handled = none) (hl : s.heap.IsList l items) (hi : IntsAre items.toList ns) (hnd : ns.Nodup) (h2 : ns.length ≤ 2)
    (h : ∀ (h' : Heap) (tk : Nat) (o : Obj), h'.get? s.heap.objs.size = some o → SetO w ns o → (∀ b o, s.heap.get? b = some o → h'.get? b = some o) → Q (.ref s.heap.objs.size) { s with heap := h', toks := tk }) :
    wpAny (model prog w) A (call (.type "set") [.ref l]) Q E s := by
  obtain ⟨c, tl, hmro⟩ := PySem.F.called_set.mro
  have hmade := PySem.F.called_set.made
  have hsub := PySem.F.called_set.sub
  refine wpAny_call (codeAny_of_tree ?_)
  show wpAny _ _ (callAny (.type "set") _) _ _ _
  refine wpAny_pure ⟨Code.quiet_builtin _ (by decide +kernel), codeAny_builtin PySem.F.entry_type_call ?_⟩
  rw [Around.under_plain (weight_type_call_type "set" [.ref l] []) rfl]
  have h1 := PySem.F.called_set.notType
  have h2' := PySem.F.called_set.canCreate
  have hct := PySem.F.typeCall_set_1 (.ref l)
  repeat (any_goals (first | assumption | wp_step))
  refine codeAny_mono (set_new (a := .ref l) (E := E) (Q₁ := fun obj s₁ => obj = .ref s.heap.objs.size ∧ s₁ = { s with heap := s.heap.push (setObj #[] 0 (tab0 (!byText w))) }) ⟨rfl, rfl⟩) fun r s₁ hr => ?_
  cases r with
  | error e => exact hr
  | ok fl =>
    cases fl with
    | next => exact hr.elim
    | brk => exact hr.elim
    | cont => exact hr.elim
    | ret obj =>
      obtain ⟨rfl, rfl⟩ := hr
      have hS : (s.heap.push (setObj #[] 0 (tab0 (!byText w)))).get? s.heap.objs.size = some (setObj #[] 0 (tab0 (!byText w))) := Heap.get?_push_size _ rfl
      have hT : Shared.TypeIs { s with heap := s.heap.push (setObj #[] 0 (tab0 (!byText w))) } (.ref s.heap.objs.size) "set" := ⟨_, hS, rfl⟩
      have hli := PySem.F.called_set.init.lookup
      have hbi := PySem.F.called_set.init.bind (.ref s.heap.objs.size)
      repeat (any_goals (first | assumption | wp_step))
      refine codeAny_mono (codeAny_call_builtin (R := wants (fun r s₂ => r = .none ∧ ∃ h' tk o, s₂ = { s with heap := h', toks := tk } ∧ h'.get? s.heap.objs.size = some o ∧ SetO w ns o ∧
          (∀ b o, s.heap.get? b = some o → h'.get? b = some o)) E) PySem.F.called_set.init.plain PySem.F.entry_set_init (check_set_init_1 hT ?_)) fun r₂ s₂ hr₂ => ?_
      · obtain ⟨ol, hol, hcl, nl, hdl⟩ := hl
        obtain ⟨ocls, odict, odata, oslots⟩ := ol
        simp only at hcl hdl
        subst hcl; subst hdl
        have hol' : (s.heap.push (setObj #[] 0 (tab0 (!byText w)))).get? l = some { cls := .type "list", dict := odict, data := .seq items nl, slots := oslots } := Heap.get?_push_of_some _ hol
        have hsls := PySem.F.sub_list_set
        have hslf := PySem.F.sub_list_frozenset
        have hne : (Value.type "list" == Value.type "dict") = false := by decide
        have hl1 : (s.heap.push (setObj #[] 0 (tab0 (!byText w)))).IsList l items := ⟨_, hol', rfl, nl, rfl⟩
        unfold Builtin.«set.__init__» noKeywords Builtin.Frozenset.updateFrom
        generalize hPI : pyIter = PI
        wp_walk
        subst hPI
        refine wpAny_pyIter_list hl1 ?_
        refine wpAny_bind (wpAny_runValue ?_)
        have hlS : l < s.heap.objs.size := Heap.lt_size hol
        have hh3 : A.in1.in1.in1.handled = none := by simp [hh]
        have hneI : l ≠ (s.heap.push (setObj #[] 0 (tab0 (!byText w)))).objs.size := by
          rw [Heap.size_push]; exact Nat.ne_of_lt (Nat.lt_succ_of_lt hlS)
        have hSf : s.heap.objs.size ∉ [(s.heap.push (setObj #[] 0 (tab0 (!byText w)))).objs.size, l] := by
          rw [Heap.size_push]; simp only [List.mem_cons, List.mem_singleton, List.not_mem_nil, or_false, not_or]
          exact ⟨Nat.ne_of_lt (Nat.lt_succ_self _), Nat.ne_of_gt hlS⟩
        have hval : ∀ (i : Nat) (v : Value), items[i]? = some v → ∃ t, v = .int (ns.getD i 0) t := fun i v hv =>
          PyProof.Rows.IntsAre.int_at hi i v (by rw [Array.getElem?_toList]; exact hv)
        have hlen : items.size = ns.length := by rw [← Array.length_toList]; exact IntsAre.length hi
        have W := (Walks.list hh3 (prog := prog) (w := w) (s.heap.push (setObj #[] 0 (tab0 (!byText w)))).objs.size l hneI items).toS
        rw [hlen] at W
        refine set_loop W s.heap.objs.size hSf hval hnd h2 (ns.length - 0) 0 _ (by omega) (Nat.zero_le _) ⟨⟨_, Heap.get?_push_size _ rfl, rfl, rfl⟩, (hl1.push _)⟩ ⟨_, Heap.get?_push_of_some _ hS, _, (fun hb => by rw [hb]; rfl), rfl⟩ ?_
        intro s' hm hS'
        obtain ⟨h', g', d', tk', os'⟩ := s'
        have eg : g' = s.gens := hm.gens
        have ed : d' = s.drawn := hm.drawn
        have eo : os' = s.os := hm.os
        subst eg; subst ed; subst eo
        show wpAny _ _ _ _ _ _
        refine wpAny_pure ?_
        show wpAny _ _ (ret Value.none) _ _ _
        obtain ⟨o, ho, hSo⟩ := hS'
        refine wpAny_pure ⟨rfl, h', tk', o, rfl, ho, hSo.out, fun b o e => ?_⟩
        have hb : b < s.heap.objs.size := Heap.lt_size e
        have hb1 : b ≠ s.heap.objs.size := Nat.ne_of_lt hb
        have hb2 : b ≠ (s.heap.push (setObj #[] 0 (tab0 (!byText w)))).objs.size := by
          rw [Heap.size_push]; exact Nat.ne_of_lt (Nat.lt_succ_of_lt hb)
        exact hm.heap b o (by simp only [List.mem_cons, List.mem_singleton, List.not_mem_nil, or_false, not_or]; exact ⟨hb1, hb2⟩) (Heap.get?_push_of_some _ (Heap.get?_push_of_some _ e))
      · cases r₂ with
        | error e => exact hr₂
        | ok fl₂ =>
          cases fl₂ with
          | next => exact hr₂.elim
          | brk => exact hr₂.elim
          | cont => exact hr₂.elim
          | ret r =>
            obtain ⟨rfl, h', tk, o, rfl, ho, hS', hk'⟩ := hr₂
            repeat (any_goals (first | assumption | wp_step))
            exact h _ _ _ ho hS' hk'
end
end
section
theorem entry_set_iter : entryFor table "set.__iter__" = some Builtin.«frozenset.__iter__» := entryFor_alias (id' := "frozenset.__iter__") (by kernel_rfl) rfl (by decide +kernel) (by kernel_rfl)
theorem slot_si_next : Slot "set_iterator" "__next__" "set_iterator.__next__" :=
  .of (owner := "set_iterator") (n := "__next__") (by rw [typeLookup_type, builtinLookup_eq_fast]; kernel_rfl) (by decide +kernel) (by decide +kernel) (by decide +kernel)
    (by first | exact .inl (by decide +kernel) | exact .inr (by decide +kernel)) (by rw [isSubtype_type]; kernel_rfl)
theorem slot_si_iter : Slot "set_iterator" "__iter__" "set_iterator.__iter__" :=
  .of (owner := "set_iterator") (n := "__iter__") (by rw [typeLookup_type, builtinLookup_eq_fast]; kernel_rfl) (by decide +kernel) (by decide +kernel) (by decide +kernel)
    (by first | exact .inl (by decide +kernel) | exact .inr (by decide +kernel)) (by rw [isSubtype_type]; kernel_rfl)
theorem entry_si_next : entryFor table "set_iterator.__next__" = some Builtin.«set_iterator.__next__» := entryFor_of_fast (by kernel_rfl)
theorem entry_si_iter : entryFor table "set_iterator.__iter__" = some Builtin.«dict_keyiterator.__iter__» := entryFor_alias (id' := "dict_keyiterator.__iter__") (by kernel_rfl) rfl (by decide +kernel) (by kernel_rfl)
theorem args_si_next (a : Value) : argsOk "set_iterator.__next__" ⟨[a], []⟩ := by unfold argsOk; kernel_rfl
theorem args_si_iter (a : Value) : argsOk "set_iterator.__iter__" ⟨[a], []⟩ := by unfold argsOk; kernel_rfl
theorem cons_erase {α : Type} {l : List α} {i : Nat} (h : i < l.length) : (l[i] :: l.eraseIdx i).Perm l := by
  rw [List.eraseIdx_eq_take_drop_succ]
  refine List.perm_middle.symm.trans ?_
  rw [← List.drop_eq_getElem_cons h, List.take_append_drop]
section
variable {M : Model} {A : Around} {E : Value → Shared → Prop} {s : Shared}
theorem wpAny_choose {src : Source} {n : Nat} {Q : Nat → Shared → Prop} (hn : n ≠ 0) (h : ∀ i d, i < n → Q i { s with drawn := d }) : wpAny M A (choose src n) Q E s := fun Γ p _ => by
  show Sem.wp M Γ (.choose src n .pure) _ _ p s
  rw [Sem.wp_choose]
  exact ⟨hn, h _ _ (Nat.mod_lt _ (Nat.pos_of_ne_zero hn))⟩
theorem wpAny_drawOrder {α : Type} : ∀ (n : Nat) (xs : List α) (s : Shared) (Q : List α → Shared → Prop), xs.length = n → (∀ l d, l.Perm xs → Q l { s with drawn := d }) → wpAny M A (drawOrder n xs) Q E s
  | 0, xs, s, Q, hl, h => by
    obtain rfl : xs = [] := List.length_eq_zero_iff.mp hl
    exact wpAny_pure (h [] s.drawn .nil)
  | n + 1, [], _, _, hl, _ => by simp at hl
  | n + 1, x :: xs, s, Q, hl, h => by
    show wpAny M A (choose .order (x :: xs).length >>= _) Q E s
    refine wpAny_bind (wpAny_choose (by simp) fun i d hi => ?_)
    rw [List.getElem?_eq_getElem hi]
    dsimp only
    refine wpAny_bind (wpAny_drawOrder n _ _ _ (by rw [List.length_eraseIdx, if_pos hi, hl]; omega) fun l d' hp => ?_)
    refine wpAny_pure (h _ d' ?_)
    exact (List.Perm.cons _ hp).trans (cons_erase hi)
theorem pick_perm {α : Type} (nx : Nat → Nat) : ∀ (fuel k : Nat) (l : List α) (out : Array α), l.length = fuel → (pickOrder.go nx fuel k l out).toList.Perm (out.toList ++ l)
  | 0, k, l, out, h => by
    obtain rfl : l = [] := List.length_eq_zero_iff.mp h
    show out.toList.Perm _
    rw [List.append_nil]
  | fuel + 1, k, l, out, h => by
    have hi : nx k % l.length < l.length := Nat.mod_lt _ (by omega)
    have e0 : pickOrder.go nx (fuel + 1) k l out = (match l[nx k % l.length]? with | some x => pickOrder.go nx fuel (k + 1) (l.eraseIdx (nx k % l.length)) (out.push x) | none => out) := rfl
    rw [e0, List.getElem?_eq_getElem hi]
    show (pickOrder.go nx fuel (k + 1) _ _).toList.Perm _
    refine (pick_perm nx fuel (k + 1) _ _ (by rw [List.length_eraseIdx, if_pos hi, h]; omega)).trans ?_
    rw [Array.toList_push, List.append_assoc]
    exact List.Perm.append_left _ (cons_erase hi)
theorem pickOrder_perm {α : Type} (nx : Nat → Nat) (xs : Array α) : (pickOrder nx xs).toList.Perm xs.toList := by
  have := pick_perm nx xs.size 0 xs.toList #[] (by simp)
  simpa [pickOrder] using this
end
theorem perm_map {α β : Type} {f : α → β} {l l' : List β} (h : l.Perm l') : ∀ ks : List α, l' = ks.map f → ∃ xs : List α, xs.Perm ks ∧ l = xs.map f := by
  induction h with
  | nil => intro ks e; cases ks with | nil => exact ⟨[], .nil, rfl⟩ | cons _ _ => cases e
  | cons x _ ih =>
    intro ks e
    cases ks with
    | nil => cases e
    | cons k ks =>
      simp only [List.map_cons, List.cons.injEq] at e
      obtain ⟨xs, p, rfl⟩ := ih ks e.2
      exact ⟨k :: xs, p.cons k, by rw [e.1]; rfl⟩
  | swap x y l =>
    intro ks e
    rcases ks with _ | ⟨a, _ | ⟨b, ks⟩⟩
    · cases e
    · cases e
    · simp only [List.map_cons, List.cons.injEq] at e
      exact ⟨b :: a :: ks, .swap _ _ _, by rw [e.1, e.2.1, e.2.2]; rfl⟩
  | trans _ _ ih1 ih2 =>
    intro ks e
    obtain ⟨xs, p, e1⟩ := ih2 ks e
    obtain ⟨ys, p', e2⟩ := ih1 xs e1
    exact ⟨ys, p'.trans p, e2⟩
inductive SForm where
  | pick
  | draw (T : Addr) (ps : List Nat)
  | place
noncomputable def siObj (first : Value) (i : Nat) (S : Addr) (n ep : Nat) : Obj := { cls := .type "set_iterator", data := .fields #[first, .int i 0, .ref S, .int n 0, .int ep 0] }
noncomputable def SetIt (w : World) (S I : Addr) (ks : List (Int × Tok)) (ep : Nat) (t : SetTable) (f : SForm) (xs : List (Int × Tok)) (i : Nat) (h : Heap) : Prop :=
  h.get? S = some (setObj (ks.map ent).toArray ep t) ∧ ∃ first, h.get? I = some (siObj first i S ks.length ep) ∧ match f with
  | .pick => first = .int 0 0 ∧ byText w = true ∧ (pickOrder (w.params.setOrder S ep) (ks.map ent).toArray).toList = xs.map ent
  | .draw T ps => first = .ref T ∧ byText w = false ∧ h.get? T = some { cls := .type "tuple", data := .seq (ps.map fun (n : Nat) => rawInt n).toArray } ∧ xs.map some = ps.map (ks[·]?)
  | .place => byText w = false ∧ (t.plain = true ∨ ks.length ≤ 1) ∧ xs = ks ∧ ∃ slot : Nat, first = .int slot 0 ∧ SetTable.below t.place slot = i
section
variable {prog : Program} {w : World} {A : Around} {E : Value → Shared → Prop} {s : Shared}
theorem below_zero (xs : Array Nat) : SetTable.below xs 0 = 0 := by
  unfold SetTable.below
  have : ∀ fuel hi, SetTable.below.go xs 0 fuel 0 hi = 0 := by
    intro fuel
    induction fuel with
    | zero => intro hi; rfl
    | succ n ih =>
      intro hi
      rw [below_s, if_neg (Nat.not_lt_zero _), ih, ite_self]
  exact this _ _
theorem setState_at {S : Addr} {ks : List (Int × Tok)} {ep : Nat} {t : SetTable} {Q : (Array (Int × Value) × Nat × SetTable) → Shared → Prop} (ho : s.heap.get? S = some (setObj (ks.map ent).toArray ep t)) (hT : SetT w ks.length t)
    (h : Q ((ks.map ent).toArray, ep, t) s) : wpAny (model prog w) A (setState S) Q E s :=
  wpAny_setState_of ho rfl (by simpa using hT.fits) h
theorem lt_push (h : Heap) (o : Obj) : h.objs.size < (h.push o).objs.size := by rw [Heap.size_push]; exact Nat.lt_succ_self _
theorem pyIter_set {S : Addr} {ks : List (Int × Tok)} {ep : Nat} {t : SetTable} {Q : Value → Shared → Prop} (ho : s.heap.get? S = some (setObj (ks.map ent).toArray ep t)) (hT : SetT w ks.length t) (h2 : ks.length ≤ 2)
    (h : ∀ I h' d f xs, xs.Perm ks → SetIt w S I ks ep t f xs 0 h' → (∀ b o, s.heap.get? b = some o → h'.get? b = some o) → (∀ T ps, f = .draw T ps → T ≠ I) → I < h'.objs.size → s.heap.get? I = none → Q (.ref I) { s with heap := h', drawn := d }) : wpAny (model prog w) A (pyIter (.ref S)) Q E s := by
  have hty : s.TypeIs (.ref S) "set" := ⟨_, ho, rfl⟩
  have fresh : ∀ (h : Heap), h.get? h.objs.size = none := fun h => Heap.get?_none_of_le (Nat.le_refl _)
  refine wpAny_pyIter_slot hty PySem.F.slot_set_iter (wpAny_call_entry PySem.F.slot_set_iter hty entry_set_iter ?_ (PySem.F.args_set_iter_1 _))
  show wpAny _ _ (Builtin.Frozenset.sizeOf S >>= _) _ _ s
  refine wpAny_bind ?_
  unfold Builtin.Frozenset.sizeOf setEntries
  refine wpAny_bind (wpAny_bind (setState_at ho hT (wpAny_pure (wpAny_pure ?_))))
  dsimp only
  rw [show (ks.map ent).toArray.size = ks.length by simp]
  unfold setDrawn
  refine wpAny_bind (wpAny_bind (setState_at ho hT ?_))
  dsimp only
  unfold setsByText
  refine wpAny_bind (wpAny_bind (wpAny_askSetting (wpAny_pure ?_)))
  show wpAny _ _ (pure (!byText w && (!t.plain && decide ((ks.map ent).toArray.size > 1)))) _ _ _
  refine wpAny_pure ?_
  rw [show (ks.map ent).toArray.size = ks.length by simp]
  by_cases hd : (!byText w && (!t.plain && decide (ks.length > 1))) = true
  · rw [if_pos hd]
    simp only [Bool.and_eq_true, Bool.not_eq_true'] at hd
    refine wpAny_bind (wpAny_drawOrder ks.length (List.range ks.length) s _ (List.length_range ..) fun l d hp => wpAny_bind ?_)
    have hlen : l.length = ks.length := by rw [hp.length_eq, List.length_range]
    refine wpAny_newTuple ?_ (by rw [List.length_map, hlen, sizeLine_eq]; omega)
    refine wpAny_bind ?_
    have ho' : (s.heap.push { cls := .type "tuple", data := .seq (l.map fun (i : Nat) => rawInt i).toArray }).get? S = some (setObj (ks.map ent).toArray ep t) := Heap.get?_push_of_some _ ho
    refine wpAny_setEpoch_of ho' rfl (by simpa using hT.fits) ?_
    refine wpAny_bind (wpAny_newObj_type (wpAny_pure ⟨_, rfl, "set_iterator", _, ⟨_, Heap.get?_push_size _ rfl, rfl⟩, slot_si_next.lookup, ?_⟩))
    obtain ⟨xs, hxp, hxe⟩ : ∃ xs : List (Int × Tok), xs.Perm ks ∧ l.map (ks[·]?) = xs.map some := by
      refine perm_map (f := some) (l := l.map (ks[·]?)) (l' := (List.range ks.length).map (ks[·]?)) (hp.map _) ks ?_
      apply List.ext_getElem?
      intro i
      simp only [List.getElem?_map, List.getElem?_range]
      by_cases hi : i < ks.length
      · simp [hi]
      · simp [hi]
    have hne : s.heap.objs.size ≠ (s.heap.push { cls := .type "tuple", data := .seq (l.map fun (i : Nat) => rawInt i).toArray }).objs.size := by rw [Heap.size_push]; exact Nat.ne_of_lt (Nat.lt_succ_self _)
    refine h _ _ d (.draw s.heap.objs.size l) xs hxp ⟨Heap.get?_push_of_some _ ho', .ref s.heap.objs.size, Heap.get?_push_size _ rfl, rfl, hd.1, ?_, hxe.symm⟩ (fun b o e => Heap.get?_push_of_some _ (Heap.get?_push_of_some _ e)) (fun T ps e => by cases e; exact hne) (lt_push _ _) ?_
    · exact Heap.get?_push_of_some _ (Heap.get?_push_size _ rfl)
    · exact Heap.get?_none_of_le (by rw [Heap.size_push]; exact Nat.le_succ _)
  · rw [if_neg hd]
    refine wpAny_bind (wpAny_pure (wpAny_bind ?_))
    show wpAny _ _ (setEpoch S) _ _ _
    refine wpAny_setEpoch_of ho rfl (by simpa using hT.fits) ?_
    refine wpAny_bind (wpAny_newObj_type (wpAny_pure ⟨_, rfl, "set_iterator", _, ⟨_, Heap.get?_push_size _ rfl, rfl⟩, slot_si_next.lookup, ?_⟩))
    cases hb : byText w with
    | true =>
      obtain ⟨xs, hxp, hxe⟩ := perm_map (f := ent) (pickOrder_perm (w.params.setOrder S ep) (ks.map ent).toArray) ks rfl
      exact h _ _ s.drawn .pick xs hxp ⟨Heap.get?_push_of_some _ ho, .int 0 0, Heap.get?_push_size _ rfl, rfl, hb, hxe⟩ (fun b o e => Heap.get?_push_of_some _ e) (fun T ps e => by cases e) (lt_push _ _) (fresh _)
    | false =>
      refine h _ _ s.drawn .place ks (.refl _) ⟨Heap.get?_push_of_some _ ho, .int 0 0, Heap.get?_push_size _ rfl, hb, ?_, rfl, 0, rfl, below_zero _⟩ (fun b o e => Heap.get?_push_of_some _ e) (fun T ps e => by cases e) (lt_push _ _) (fresh _)
      rw [hb] at hd
      cases hp : t.plain with
      | true => exact .inl rfl
      | false => rw [hp] at hd; simp at hd; exact .inr (by omega)
end
end
section
noncomputable def SForm.extra : SForm → List Addr
  | .draw T _ => [T]
  | _ => []
theorem SetIt.frame {w : World} {S I : Addr} {ks : List (Int × Tok)} {ep : Nat} {t : SetTable} {f : SForm} {xs : List (Int × Tok)} {i : Nat} {h h' : Heap} (x : SetIt w S I ks ep t f xs i h) (k : ∀ b ∈ I :: S :: f.extra, ∀ o, h.get? b = some o → h'.get? b = some o) : SetIt w S I ks ep t f xs i h' := by
  obtain ⟨a, first, b, c⟩ := x
  refine ⟨k _ (by simp) _ a, first, k _ (by simp) _ b, ?_⟩
  cases f with
  | pick => exact c
  | place => exact c
  | draw T ps => exact ⟨c.1, c.2.1, k T (by simp [SForm.extra]) _ c.2.2.1, c.2.2.2⟩
theorem below_next {place : Array Nat} (hr : place.toList.Pairwise (· < ·)) (h2 : place.size ≤ 2) {i j : Nat} (hj : place[i]? = some j) : SetTable.below place (j + 1) = i + 1 := by
  obtain ⟨l⟩ := place
  rcases l with _ | ⟨a, _ | ⟨b, _ | ⟨c, l⟩⟩⟩
  · cases hj
  · cases i with
    | zero => have hj : a = j := Option.some.inj hj; subst hj; rw [below1, if_pos (Nat.lt_succ_self _)]
    | succ i => cases hj
  ·
    have hab : a < b := by simpa using hr
    have e : ∀ j, SetTable.below #[a, b] j = if b < j then 2 else if a < j then 1 else 0 := fun j => by
      show SetTable.below.go #[a, b] j 2 0 2 = _
      rw [below_s, if_pos (by decide)]
      show (if b < j then SetTable.below.go #[a, b] j 1 2 2 else SetTable.below.go #[a, b] j 1 0 1) = _
      rw [below_s, below_s, if_neg (show ¬ 2 < 2 by decide), if_pos (show 0 < 1 by decide)]
      rfl
    rcases i with _ | _ | i
    · have hj : a = j := Option.some.inj hj; subst hj; rw [e, if_neg (by omega), if_pos (by omega)]
    · have hj : b = j := Option.some.inj hj; subst hj; rw [e, if_pos (by omega)]
    · cases hj
  · exact absurd h2 (by show ¬ l.length + 1 + 1 + 1 ≤ 2; omega)
section
variable {prog : Program} {w : World} {A : Around} {E : Value → Shared → Prop} {s : Shared} {S I : Addr} {ks : List (Int × Tok)} {ep : Nat} {t : SetTable} {f : SForm} {xs : List (Int × Tok)} {i : Nat}
theorem SetIt.typeIs (x : SetIt w S I ks ep t f xs i s.heap) : s.TypeIs (.ref I) "set_iterator" := by obtain ⟨_, _, b, _⟩ := x; exact ⟨_, b, rfl⟩
theorem pyIter_si {Q : Value → Shared → Prop} (x : SetIt w S I ks ep t f xs i s.heap) (h : Q (.ref I) s) : wpAny (model prog w) A (pyIter (.ref I)) Q E s := by
  refine wpAny_pyIter_slot x.typeIs slot_si_iter (wpAny_call_entry slot_si_iter x.typeIs entry_si_iter ?_ (args_si_iter _))
  show wpAny _ _ (ret (.ref I)) _ _ s
  exact wpAny_pure ⟨_, rfl, "set_iterator", _, x.typeIs, slot_si_next.lookup, h⟩
theorem stop_next {P : PySem.Fin → Shared → Prop} {Q : Option Value → Shared → Prop} {A' : Around} (hh : A'.handled = none) {h1 : Heap} (hQ : ∀ h', (∀ b o, h1.get? b = some o → h'.get? b = some o) → Q none { s with heap := h' }) :
    wpAny (model prog w) A' (do raiseNew (← newExc (.type "StopIteration") [])) P (fun e s' => wpAny (model prog w) A (do if ← isInstance e (.type "StopIteration") then pure none else throw e) Q E s') { s with heap := h1 } := by
  show wpAny _ _ (newExc (.type "StopIteration") [] >>= _) _ _ _
  refine wpAny_bind ?_
  simp only [newExc, newTuple]
  refine wpAny_bind (wpAny_newObj_type ?_ (by size_fits))
  refine wpAny_bind (m := firstArgMember _ _) (wpAny_of_eq (a := Value.none) (by first | rfl | (simp only [firstArgMember]; rfl)) ?_)
  refine wpAny_newObj_type ?_ (by size_fits)
  refine wpAny_raiseNew_none hh ?_
  refine wpAny_bind (wpAny_isInstance (T := "StopIteration") (b := true) ⟨_, Heap.get?_push_size _ rfl, rfl⟩ isSubtype_stop ?_)
  exact wpAny_pure (hQ _ fun b o e => Heap.get?_push_of_some _ (Heap.get?_push_of_some _ e))
theorem si_set0 {h : Heap} {first : Value} {n : Nat} (hI : h.get? I = some (siObj first i S n ep)) (x : Value) : (h.update I (Obj.mapFields (·.setIfInBounds 0 x))).get? I = some (siObj x i S n ep) := Heap.get?_update_self _ hI rfl
theorem si_set1 {h : Heap} {first : Value} {n : Nat} (hI : h.get? I = some (siObj first i S n ep)) : (h.update I (Obj.mapFields (·.setIfInBounds 1 (rawInt ((i : Int) + 1))))).get? I = some (siObj first (i + 1) S n ep) := Heap.get?_update_self _ hI rfl
theorem ents_get {ks : List (Int × Tok)} {i : Nat} (hi : i < ks.length) : (ks.map ent).toArray[i]? = some (ent ks[i]) := by simp [hi]
theorem next_item {Q : Option Value → Shared → Prop} (hT : SetT w ks.length t) (h2 : ks.length ≤ 2) (hl : xs.length = ks.length) (hSI : S ≠ I) (hTI : ∀ T ps, f = .draw T ps → T ≠ I) (hi : i < ks.length) (x : SetIt w S I ks ep t f xs i s.heap)
    (hQ : ∀ v h' tk, (∃ p, xs[i]? = some p ∧ v = .int p.1 p.2) → SetIt w S I ks ep t f xs (i + 1) h' → (∀ b o, b ∉ [I] → s.heap.get? b = some o → h'.get? b = some o) → Q (some v) { s with heap := h', toks := tk }) : wpAny (model prog w) A (pyNext (.ref I)) Q E s := by
  have hty := x.typeIs
  obtain ⟨hS, first, hI, hf⟩ := x
  have hpl : t.place.size = ks.length := by
    have := hT.fits
    simp only [SetTable.fits, Bool.and_eq_true, beq_iff_eq] at this
    exact this.1
  unfold pyNext
  refine wpAny_bind (wpAny_attempt (wpAny_callSpecial?_slot (name := Str.ofString "__next__") hty slot_si_next (wpAny_call_entry slot_si_next hty entry_si_next ?_ (args_si_next _))))
  show wpAny _ _ (fieldsOf (.ref I) >>= _) _ _ s
  refine wpAny_bind (wpAny_fieldsOf hI rfl ?_)
  dsimp only
  show wpAny _ _ (setEntries S >>= _) _ _ s
  unfold setEntries
  refine wpAny_bind (wpAny_bind (setState_at hS hT (wpAny_pure ?_)))
  dsimp only
  rw [show (ks.map ent).toArray.size = ks.length by simp]
  rw [if_neg (by simp)]
  have hx : xs[i]? = some xs[i] := List.getElem?_eq_getElem (by omega)
  cases f with
  | pick =>
    obtain ⟨rfl, hb, hx2⟩ := hf
    dsimp only
    refine wpAny_bind ?_
    unfold setNext
    refine wpAny_bind (setState_at hS hT ?_)
    dsimp only
    unfold setsByText
    refine wpAny_bind (wpAny_bind (wpAny_askSetting (wpAny_pure ?_)))
    show wpAny _ _ (if byText w = true then _ else _) _ _ _
    rw [if_pos hb]
    have hpk : (pickOrder ((model prog w).w.params.setOrder S ep) (ks.map ent).toArray)[i]? = some (ent xs[i]) := by
      rw [← Array.getElem?_toList, show (pickOrder ((model prog w).w.params.setOrder S ep) (ks.map ent).toArray).toList = xs.map ent from hx2, List.getElem?_map, hx]; rfl
    rw [if_neg (by simp)]
    refine wpAny_bind ?_
    unfold setWalk
    refine wpAny_bind (setState_at hS hT ?_)
    dsimp only
    unfold setsByText
    refine wpAny_bind (wpAny_bind (wpAny_askSetting (wpAny_pure ?_)))
    show wpAny _ _ (if byText w = true then _ else _) _ _ _
    rw [if_pos hb]
    refine wpAny_bind (wpAny_askSetting (wpAny_pure ?_))
    refine wpAny_pure ?_
    dsimp only
    rw [show ((i : Int)).toNat = i from Int.toNat_natCast _, hpk]
    dsimp only [Option.map_some]
    refine wpAny_bind (wpAny_setField hI rfl (by show 0 < 5; decide) ?_)
    have hI1 := si_set0 hI (rawInt (0 : Nat))
    refine wpAny_bind (wpAny_setField hI1 rfl (by show 1 < 5; decide) ?_)
    have hI2 := si_set1 hI1
    have ex : ∀ b o, b ≠ I → s.heap.get? b = some o → ((s.heap.update I (Obj.mapFields (·.setIfInBounds 0 (rawInt (0 : Nat))))).update I (Obj.mapFields (·.setIfInBounds 1 (rawInt ((i : Int) + 1))))).get? b = some o := fun b o n e => by
      rw [Heap.get?_update_ne _ _ _ _ n, Heap.get?_update_ne _ _ _ _ n]; exact e
    exact wpAny_pure ⟨_, rfl, wpAny_pure (hQ _ _ s.toks ⟨_, hx, rfl⟩ ⟨ex _ _ hSI hS, _, hI2, rfl, hb, hx2⟩ fun b o n e => ex b o (fun q => n (by simp [q])) e)⟩
  | draw T ps =>
    obtain ⟨rfl, hb, hTt, hx2⟩ := hf
    have hpi : ps[i]? = some (ps[i]'(by have := congrArg List.length hx2; simp at this; omega)) := List.getElem?_eq_getElem _
    generalize ps[i]'(by have := congrArg List.length hx2; simp at this; omega) = q at hpi
    have hq : ks[q]? = some xs[i] := by
      have := congrArg (·[i]?) hx2
      simp only [List.getElem?_map, hx, hpi, Option.map_some] at this
      injection this with h
      exact h.symm
    dsimp only
    show wpAny _ _ (seqItems? (.ref T) >>= _) _ _ s
    refine wpAny_bind (wpAny_seqItems hTt rfl ?_)
    dsimp only
    rw [show (ps.map fun (n : Nat) => rawInt n).toArray[((i : Int)).toNat]? = some (rawInt q) by simp [hpi]]
    dsimp only [rawInt]
    refine wpAny_bind ?_
    unfold setNextDrawn
    refine wpAny_bind (setState_at hS hT ?_)
    dsimp only
    rw [if_neg (by simp)]
    rw [show (ks.map ent).toArray[((q : Int)).toNat]? = some (ent xs[i]) by simp [hq]]
    dsimp only [ent]
    refine wpAny_pure ?_
    refine wpAny_bind (wpAny_setField hI rfl (by show 1 < 5; decide) ?_)
    have hI2 := si_set1 hI
    have ex : ∀ b o, b ≠ I → s.heap.get? b = some o → (s.heap.update I (Obj.mapFields (·.setIfInBounds 1 (rawInt ((i : Int) + 1))))).get? b = some o := fun b o n e => by
      rw [Heap.get?_update_ne _ _ _ _ n]; exact e
    exact wpAny_pure ⟨_, rfl, wpAny_pure (hQ _ _ s.toks ⟨_, hx, rfl⟩ ⟨ex _ _ hSI hS, _, hI2, rfl, hb, ex _ _ (hTI T ps rfl) hTt, hx2⟩ fun b o n e => ex b o (fun q => n (by simp [q])) e)⟩
  | place =>
    obtain ⟨hb, hp, rfl, slot, rfl, hsl⟩ := hf
    dsimp only
    refine wpAny_bind ?_
    unfold setNext
    refine wpAny_bind (setState_at hS hT ?_)
    dsimp only
    unfold setsByText
    refine wpAny_bind (wpAny_bind (wpAny_askSetting (wpAny_pure ?_)))
    show wpAny _ _ (if byText w = true then _ else _) _ _ _
    rw [if_neg (by rw [hb]; decide)]
    show wpAny _ _ (if (!t.plain && decide ((xs.map ent).toArray.size > 1)) = true then _ else _) _ _ _
    rw [if_neg (by rcases hp with h | h <;> simp [h])]
    refine wpAny_bind ?_
    show wpAny _ _ (if (!t.led && !(xs.map ent).toArray.isEmpty) = true then _ else _) _ _ _
    rw [if_neg (by simp [hT.led hb])]
    refine wpAny_pure ?_
    rw [show ((slot : Int)).toNat = slot from Int.toNat_natCast _, hsl, ents_get hi]
    have hj : t.place[i]? = some (t.place[i]'(by omega)) := Array.getElem?_eq_getElem _
    generalize t.place[i]'(by omega) = j at hj
    rw [hj]
    dsimp only [ent]
    refine wpAny_pure ?_
    dsimp only
    refine wpAny_bind (wpAny_setField hI rfl (by show 0 < 5; decide) ?_)
    have hI1 := si_set0 hI (rawInt ((j + 1 : Nat) : Int))
    refine wpAny_bind (wpAny_setField hI1 rfl (by show 1 < 5; decide) ?_)
    have hI2 := si_set1 hI1
    have ex : ∀ b o, b ≠ I → s.heap.get? b = some o → ((s.heap.update I (Obj.mapFields (·.setIfInBounds 0 (rawInt ((j + 1 : Nat) : Int))))).update I (Obj.mapFields (·.setIfInBounds 1 (rawInt ((i : Int) + 1))))).get? b = some o := fun b o n e => by
      rw [Heap.get?_update_ne _ _ _ _ n, Heap.get?_update_ne _ _ _ _ n]; exact e
    exact wpAny_pure ⟨_, rfl, wpAny_pure (hQ _ _ s.toks ⟨_, hx, rfl⟩ ⟨ex _ _ hSI hS, _, hI2, hb, hp, rfl, j + 1, rfl, below_next hT.rise (by omega) hj⟩ fun b o n e => ex b o (fun q => n (by simp [q])) e)⟩
theorem next_done {Q : Option Value → Shared → Prop} (hh : A.handled = none) (hT : SetT w ks.length t) (h2 : ks.length ≤ 2) (hl : xs.length = ks.length) (hSI : S ≠ I) (hTI : ∀ T ps, f = .draw T ps → T ≠ I) (x : SetIt w S I ks ep t f xs ks.length s.heap)
    (hQ : ∀ h' tk, (∀ b o, b ∉ [I] → s.heap.get? b = some o → h'.get? b = some o) → Q none { s with heap := h', toks := tk }) : wpAny (model prog w) A (pyNext (.ref I)) Q E s := by
  have hty := x.typeIs
  obtain ⟨hS, first, hI, hf⟩ := x
  have hh1 : A.in1.handled = none := by simp [hh]
  unfold pyNext
  refine wpAny_bind (wpAny_attempt (wpAny_callSpecial?_slot (name := Str.ofString "__next__") hty slot_si_next (wpAny_call_entry slot_si_next hty entry_si_next ?_ (args_si_next _))))
  show wpAny _ _ (fieldsOf (.ref I) >>= _) _ _ s
  refine wpAny_bind (wpAny_fieldsOf hI rfl ?_)
  dsimp only
  show wpAny _ _ (setEntries S >>= _) _ _ s
  unfold setEntries
  refine wpAny_bind (wpAny_bind (setState_at hS hT (wpAny_pure ?_)))
  dsimp only
  rw [show (ks.map ent).toArray.size = ks.length by simp]
  rw [if_neg (by simp)]
  have hx : xs[ks.length]? = none := List.getElem?_eq_none (by omega)
  cases f with
  | pick =>
    obtain ⟨rfl, hb, hx2⟩ := hf
    dsimp only
    refine wpAny_bind ?_
    unfold setNext
    refine wpAny_bind (setState_at hS hT ?_)
    dsimp only
    unfold setsByText
    refine wpAny_bind (wpAny_bind (wpAny_askSetting (wpAny_pure ?_)))
    show wpAny _ _ (if byText w = true then _ else _) _ _ _
    rw [if_pos hb]
    have hpk : (pickOrder ((model prog w).w.params.setOrder S ep) (ks.map ent).toArray)[ks.length]? = none := by
      rw [← Array.getElem?_toList, show (pickOrder ((model prog w).w.params.setOrder S ep) (ks.map ent).toArray).toList = xs.map ent from hx2, List.getElem?_map, hx]; rfl
    rw [if_neg (by simp)]
    refine wpAny_bind ?_
    unfold setWalk
    refine wpAny_bind (setState_at hS hT ?_)
    dsimp only
    unfold setsByText
    refine wpAny_bind (wpAny_bind (wpAny_askSetting (wpAny_pure ?_)))
    show wpAny _ _ (if byText w = true then _ else _) _ _ _
    rw [if_pos hb]
    refine wpAny_bind (wpAny_askSetting (wpAny_pure ?_))
    refine wpAny_pure ?_
    dsimp only
    rw [show ((ks.length : Int)).toNat = ks.length from Int.toNat_natCast _, hpk]
    dsimp only [Option.map_none]
    refine wpAny_bind (wpAny_setField hI rfl (by show 2 < 5; decide) ?_)
    exact stop_next hh1 fun h' k => hQ h' s.toks fun b o n e => k b o (by rw [Heap.get?_update_ne _ _ _ _ (fun q => n (by simp [q]))]; exact e)
  | draw T ps =>
    obtain ⟨rfl, hb, hTt, hx2⟩ := hf
    have hpi : ps[ks.length]? = none := List.getElem?_eq_none (by have := congrArg List.length hx2; simp at this; omega)
    dsimp only
    show wpAny _ _ (seqItems? (.ref T) >>= _) _ _ s
    refine wpAny_bind (wpAny_seqItems hTt rfl ?_)
    dsimp only
    rw [show (ps.map fun (n : Nat) => rawInt n).toArray[((ks.length : Int)).toNat]? = none by simp only [Int.toNat_natCast, List.getElem?_toArray, List.getElem?_map, hpi]; rfl]
    dsimp only
    refine wpAny_bind (wpAny_setField hI rfl (by show 0 < 5; decide) ?_)
    have hI1 := si_set0 hI (rawInt 0)
    refine wpAny_bind (wpAny_setField hI1 rfl (by show 2 < 5; decide) ?_)
    exact stop_next hh1 fun h' k => hQ h' s.toks fun b o n e => k b o (by rw [Heap.get?_update_ne _ _ _ _ (fun q => n (by simp [q])), Heap.get?_update_ne _ _ _ _ (fun q => n (by simp [q]))]; exact e)
  | place =>
    obtain ⟨hb, hp, rfl, slot, rfl, hsl⟩ := hf
    dsimp only
    refine wpAny_bind ?_
    unfold setNext
    refine wpAny_bind (setState_at hS hT ?_)
    dsimp only
    unfold setsByText
    refine wpAny_bind (wpAny_bind (wpAny_askSetting (wpAny_pure ?_)))
    show wpAny _ _ (if byText w = true then _ else _) _ _ _
    rw [if_neg (by rw [hb]; decide)]
    show wpAny _ _ (if (!t.plain && decide ((xs.map ent).toArray.size > 1)) = true then _ else _) _ _ _
    rw [if_neg (by rcases hp with h | h <;> simp [h])]
    refine wpAny_bind ?_
    show wpAny _ _ (if (!t.led && !(xs.map ent).toArray.isEmpty) = true then _ else _) _ _ _
    rw [if_neg (by simp [hT.led hb])]
    refine wpAny_pure ?_
    rw [show ((slot : Int)).toNat = slot from Int.toNat_natCast _, hsl, show (xs.map ent).toArray[xs.length]? = none by simp]
    dsimp only
    refine wpAny_pure ?_
    dsimp only
    refine wpAny_bind (wpAny_setField hI rfl (by show 2 < 5; decide) ?_)
    exact stop_next hh1 fun h' k => hQ h' s.toks fun b o n e => k b o (by rw [Heap.get?_update_ne _ _ _ _ (fun q => n (by simp [q]))]; exact e)
theorem SetIt.walks (hh : A.handled = none) (hT : SetT w ks.length t) (h2 : ks.length ≤ 2) (hl : xs.length = ks.length) (hSI : S ≠ I) (hTI : ∀ T ps, f = .draw T ps → T ≠ I) :
    Walks prog w A I (I :: S :: f.extra) [I] ks.length (fun i v => ∃ p, xs[i]? = some p ∧ v = .int p.1 p.2) (fun i h => SetIt w S I ks ep t f xs i h) where
  sub := fun b hb => by simp at hb; simp [hb]
  frame := fun i h h' x k => x.frame k
  item := fun i s Q E hi x hQ => next_item hT h2 hl hSI hTI hi x fun v h' tk hp hx hk => hQ v h' tk hp hx hk
  done := fun s Q E x hQ => next_done hh hT h2 hl hSI hTI x fun h' tk hk => hQ h' tk hk
  self := fun i s Q E x hQ => pyIter_si x hQ
end
end
section
section
variable {prog : Program} {w : World} {A : Around} {E : Value → Shared → Prop} {s : Shared} {S I : Addr} {ks : List (Int × Tok)} {ep : Nat} {t : SetTable}
theorem items_ints {xs : List (Int × Tok)} {acc : Array Value} {n : Nat} (h : ItemsOf (fun i v => ∃ p, xs[i]? = some p ∧ v = .int p.1 p.2) acc n) (hn : xs.length = n) : IntsAre acc.toList (xs.map (·.1)) := by
  refine ints_of (by rw [Array.length_toList, h.1, List.length_map, hn]) fun j v e => ?_
  obtain ⟨p, hp, rfl⟩ := h.2 j v (by rw [← Array.getElem?_toList]; exact e)
  exact ⟨p.1, by rw [List.getElem?_map, hp]; rfl, p.2, rfl⟩
theorem hint_set {r : Addr} {Q : Bool → Shared → Prop} (hT : s.TypeIs (.ref r) "set") (h : Q false s) : wpAny (model prog w) A (Builtin.List.listLengthHint (.ref r)) Q E s := by
  unfold Builtin.List.listLengthHint
  refine wpAny_bind (wpAny_specialOf hT PySem.F.slot_set_len.lookup ?_)
  generalize hid : ("set.__len__" : String) = id0
  wp_delta
  rw [show splitId id0 = some ("set", "__len__") from by subst hid; decide +kernel]
  subst hid
  refine wpAny_bind (wpAny_isInstance (T := "set") (b := true) hT (by rw [isSubtype_type]; kernel_rfl) ?_)
  refine wpAny_ite_split (fun hab => absurd hab (by decide)) (fun _ => ?_)
  refine wpAny_ite_split (fun _ => ?_) (fun hab => absurd (by decide +kernel) hab)
  refine wpAny_bind (wpAny_typeOf hT ?_)
  exact wpAny_pure h
theorem collect_set {Q : List Value → Shared → Prop} (hh : A.handled = none) (ho : s.heap.get? S = some (setObj (ks.map ent).toArray ep t)) (hT : SetT w ks.length t) (h2 : ks.length ≤ 2)
    (hQ : ∀ acc ns h' d tk, IntsAre acc ns → ns.Perm (ks.map (·.1)) → (∀ b o, s.heap.get? b = some o → h'.get? b = some o) → Q acc { s with heap := h', drawn := d, toks := tk }) : wpAny (model prog w) A (collect (.ref S)) Q E s := by
  have hty : s.TypeIs (.ref S) "set" := ⟨_, ho, rfl⟩
  unfold collect
  refine wpAny_bind (wpAny_runValue (codeAny_builtin PySem.F.entry_proto_collect ?_))
  rw [Around.under_plainId PySem.F.plain_proto_collect _]
  show wpAny _ A.in1 (newList [] >>= fun l => again (.builtin "list.__iadd__" ⟨[l, .ref S], []⟩)) _ _ s
  refine wpAny_bind (wpAny_newObj_type ?_)
  refine wpAny_pure ⟨plainId_quiet PySem.F.plain_list_iadd _, codeAny_builtin PySem.F.entry_list_iadd ?_⟩
  rw [Around.under_plainId PySem.F.plain_list_iadd _]
  have k1 : ∀ b o, s.heap.get? b = some o → (s.heap.push { cls := .type "list", data := .seq ([] : List Value).toArray }).get? b = some o := fun b o e => Heap.get?_push_of_some _ e
  have hS₁ : (s.heap.push { cls := .type "list", data := .seq ([] : List Value).toArray }).get? s.heap.objs.size = some { cls := .type "list", data := .seq ([] : List Value).toArray } := Heap.get?_push_size _ rfl
  have hlt : S < s.heap.objs.size := Heap.lt_size ho
  have h1 : Builtin.List.listSameRef (.ref s.heap.objs.size) (.ref S) = false := by simp [Builtin.List.listSameRef]; exact Nat.ne_of_gt hlt
  show wpAny _ A.in1 (Builtin.List.listExtendWith (.ref s.heap.objs.size) (.ref S) (.ref s.heap.objs.size)) _ _ _
  unfold Builtin.List.listExtendWith
  refine wpAny_bind (wpAny_typeOf (T := "set") ⟨_, k1 _ _ ho, rfl⟩ ?_)
  rw [if_neg (by rw [h1]; decide)]
  refine wpAny_bind (pyIter_set (k1 _ _ ho) hT h2 fun I h' d f xs hp hit keep hTI hIlt hIn => ?_)
  refine wpAny_bind (wpAny_holding (hint_set (s := { s with heap := h', drawn := d }) ⟨_, keep _ _ (k1 _ _ ho), rfl⟩ ?_))
  rw [if_pos (by decide +kernel)]
  refine wpAny_bind (wpAny_rule ?_)
  refine wpAny_bind ?_
  have hS₂ := keep _ _ hS₁
  show wpAny _ A.in1 (updateSeq s.heap.objs.size (·.push .none) >>= fun _ => updateSeq s.heap.objs.size (·.pop)) _ _ _
  refine wpAny_bind (wpAny_updateSeq hS₂ rfl ?_)
  have hS₃ := Heap.get?_update_self (Obj.mapSeq (·.push Value.none)) hS₂ rfl
  refine wpAny_updateSeq hS₃ rfl ?_
  have hS₄ := Heap.get?_update_self (Obj.mapSeq (·.pop)) hS₃ rfl
  have oth : ∀ b o, b ≠ s.heap.objs.size → h'.get? b = some o → ((h'.update s.heap.objs.size (Obj.mapSeq (·.push Value.none))).update s.heap.objs.size (Obj.mapSeq (·.pop))).get? b = some o :=
    fun b o hb e => (Heap.get?_update_other _ _ (Ne.symm hb)).trans ((Heap.get?_update_other _ _ (Ne.symm hb)).trans e)
  have hSI : S ≠ I := fun e => by rw [← e, k1 _ _ ho] at hIn; cases hIn
  have hLI : s.heap.objs.size ≠ I := fun e => by rw [← e, hS₁] at hIn; cases hIn
  have hLT : ∀ T ps, f = .draw T ps → s.heap.objs.size ≠ T := fun T ps ef e => by
    subst ef
    obtain ⟨_, _, _, _, _, c, _⟩ := hit
    rw [← e, hS₂] at c
    have q : Value.type "list" = Value.type "tuple" := congrArg Obj.cls (Option.some.inj c)
    injection q with q
    exact absurd q (by decide)
  have hSf : s.heap.objs.size ∉ I :: S :: f.extra := by
    simp only [List.mem_cons, not_or]
    refine ⟨hLI, Nat.ne_of_gt hlt, ?_⟩
    cases f with
    | draw T ps => simpa [SForm.extra] using hLT T ps rfl
    | pick => simp [SForm.extra]
    | place => simp [SForm.extra]
  have W := (SetIt.walks (prog := prog) (A := A.in1) (ep := ep) (by simp [hh]) hT h2 hp.length_eq hSI hTI).toS
  refine wpAny_pure ⟨plainId_quiet PySem.F.plain_extend_loop _, codeAny_extend_loopS W (by rw [sizeLine_eq]; omega) _ hSf _ ks.length 0 _ _ _ rfl (Nat.zero_le _) ?_ hS₄ (ItemsOf.nil _) fun s' acc' c' hm hS' hacc => ?_⟩
  · exact hit.frame fun b hb o e => oth b o (fun x => hSf (x ▸ hb)) e
  show wpAny _ A (load s.heap.objs.size >>= _) _ _ s'
  refine wpAny_bind (wpAny_load hS' ?_)
  refine wpAny_pure ?_
  obtain ⟨h2', g2, d2, tk2, os2⟩ := s'
  have eg : g2 = s.gens := hm.gens
  have eo : os2 = s.os := hm.os
  subst eg; subst eo
  refine hQ _ _ h2' d2 tk2 (items_ints hacc hp.length_eq) (hp.map _) fun b o e => ?_
  have hb1 : b ≠ s.heap.objs.size := Nat.ne_of_lt (Heap.lt_size e)
  refine hm.heap b o ?_ (oth b o hb1 (keep b o (k1 b o e)))
  simp only [List.mem_cons, List.not_mem_nil, or_false, not_or]
  exact ⟨hb1, fun x => by rw [← x, k1 b o e] at hIn; cases hIn⟩
end
section
variable {C : Cx} {X : AS} {Q : V → AS → Prop}
theorem OpL.set {ns : List Int} (hnd : ns.Nodup) (h2 : ns.length ≤ 2) (q : ∀ a, Q (.raw (.ref a)) { X with mem := (a, .obj (SetO C.G.w ns)) :: X.mem }) : OpL C X (fun vs => PySem.call (.type "set") vs) [.lst (ns.map .int)] RV Q := fun s S vs r => by
  obtain ⟨_, _, hv9, r1, r2⟩ := RepL.cons_inv r; clear r; cases (hv9); cases r2; obtain ⟨a, vs, n, hv9, e, hN, rl⟩ := Rep.lst_inv r1; clear r1; cases (hv9)
  · refine call_set S.hand ⟨_, e, rfl, n, rfl⟩ (by simpa using rl.ints) hnd h2 fun h' tk o ho hSo hk => ?_
    have hnone : s.heap.get? s.heap.objs.size = none := Heap.get?_none_of_le (Nat.le_refl _)
    obtain ⟨H, mo⟩ := S.H.new (a := s.heap.objs.size) (mo := .obj (SetO C.G.w ns)) hk hnone S.H.big3 ⟨o, ho, hSo⟩
    exact ⟨_, _, q _, ⟨H, S.gens, S.os⟩, .raw _, mo⟩
theorem OpL.sortedS {ns : List Int} {a : Addr} (k : Nat) (hi : X.mem[k]? = some (a, .obj (SetO C.G.w ns))) (q : ∀ ns' : List Int, ns'.Perm ns → ns'.Pairwise (· ≤ ·) → Q (.lst (ns'.map .int)) X) : OpL C X (fun vs => PySem.call (.builtin "sorted") vs) [.raw (.ref a)] RV Q := fun s S vs r => by
  obtain ⟨_, _, ⟨⟩, r1, r2⟩ := r
  ·
    cases r1; cases r2
    obtain ⟨o, ho, ks, ep, t, rfl, hT, hp, h2⟩ := S.at hi
    refine call_function_entry kind_sorted plain_sorted entry_sorted (args_sorted1 _) ?_
    unfold Builtin.«sorted»
    refine wpAny_bind (m := checkCount "sorted" 1 1 _) (wpAny_pure ?_)
    refine wpAny_bind (collect_set (by simp [S.hand]) ho hT h2 fun acc ms h' d tk hI hms hk => ?_)
    have hl : acc.length = ks.length := by rw [IntsAre.length hI, hms.length_eq, List.length_map]
    refine wpAny_bind (wpAny_newList ?_ (by rw [hl, sizeLine_eq]; omega))
    have hDo : (h'.push { cls := .type "list", data := .seq acc.toArray }).get? h'.objs.size = some (seqObj "list" acc.toArray 0) := Heap.get?_push_size _ rfl
    have hk1 : ∀ b o, s.heap.get? b = some o → (h'.push { cls := .type "list", data := .seq acc.toArray }).get? b = some o := fun b o e => Heap.get?_push_of_some _ (hk b o e)
    refine wpAny_bind (wpAny_holding (wpAny_call_entry PyProof.Rows.slot_list_sort ⟨_, hDo, rfl⟩ PyProof.Rows.entry_list_sort (list_sort_tree (n := 0) (vs := acc) (ns := ms) hDo hI (by omega) fun out ns' hO hpp hord => ⟨.none, rfl, ?_⟩) (PyProof.Rows.args_list_sort _)))
    obtain ⟨ext, c, hDo2⟩ := sortedHeap_ext (out := out) hDo
    have hbn : ∀ b o, s.heap.get? b = some o → b ≠ h'.objs.size := fun b o e => Nat.ne_of_lt (Heap.lt_size (hk b o e))
    have kk : ∀ b o, s.heap.get? b = some o → (sortedHeap (h'.push { cls := .type "list", data := .seq acc.toArray }) h'.objs.size acc out).get? b = some o := fun b o e => ext b o (hbn b o e) (hk1 b o e)
    have hDX : h'.objs.size ∉ X.N := fun hm => by
      obtain ⟨o, eo⟩ := S.H.live _ (List.mem_cons_of_mem _ (List.mem_append_right _ hm))
      exact hbn _ o eo rfl
    exact wpAny_pure ⟨_, rfl, _, X, q ns' (hpp.trans (hms.trans hp)) hord, ⟨S.H.keeps kk, S.gens, S.os⟩, .lst (vs := out.toList) (by simpa [seqObj] using hDo2) hDX (RepL.ofInts hO), Mono.keeps kk⟩
end
end
section
noncomputable def keepZ (kept : List (Int × Bool)) : Tv → Option (List (Int × Bool))
  | .tt true => some kept
  | .tt false => none
  | .bit x s => if (x, !s) ∈ kept then none else if (x, s) ∈ kept then some kept else some (kept ++ [(x, s)])
theorem bit_eqb (p q : Int × Bool) : (bitV p).eqb (bitV q) = decide (p = q) := by
  obtain ⟨x, s⟩ := p; obtain ⟨y, t⟩ := q
  show PyData.eqv _ _ = _
  simp only [bitV, pyC, pyN, pyT, pyS, pyI, pyB, eqvI, eqvB, eqvS, eqvT, eqvN, eqvC, Prod.mk.injEq, Bool.and_true]
  by_cases h : x = y <;> by_cases h' : s = t <;> simp [h, h']
theorem bit_tt (p : Int × Bool) (b : Bool) : (bitV p).eqb (V.bool b) = false := by
  obtain ⟨x, s⟩ := p
  rfl
theorem any_bit (l : List (Int × Bool)) (x : Int) (s : Bool) : ((l.map bitV).any fun z => z.eqb (bitV (x, s))) = decide ((x, s) ∈ l) := by
  induction l with
  | nil => simp
  | cons a l ih => rw [List.map_cons, List.any_cons, ih, bit_eqb]; by_cases h : a = (x, s) <;> simp [h, eq_comm]
theorem any_tt (l : List (Int × Bool)) (b : Bool) : ((l.map bitV).any fun z => z.eqb (V.bool b)) = false := by
  induction l with
  | nil => rfl
  | cons a l ih => rw [List.map_cons, List.any_cons, ih, bit_tt]; rfl
theorem datas_bits (l : List (Int × Bool)) : V.datas (l.map bitV) = true := by
  induction l with
  | nil => rfl
  | cons a l ih => exact Bool.and_eq_true_iff.mpr ⟨bitV_data _, ih⟩
noncomputable def allK (ts : List Tv) : Option (List (Int × Bool)) := ts.foldlM keepZ []
noncomputable def clauseV (ups downs : List Int) : V := .tup [.str "clause", intsV ups, intsV downs]
noncomputable def ups (so : List (Int × Bool)) : List Int := so.filterMap fun p => if p.2 then some p.1 else none
noncomputable def downs (so : List (Int × Bool)) : List Int := so.filterMap fun p => if p.2 then none else some p.1
theorem perm_asc {a b : List Int} (h : a.Perm b) (ha : a.Pairwise (· ≤ ·)) (hb : b.Pairwise (· < ·)) : a = b :=
  h.eq_of_pairwise (fun x y _ _ h1 h2 => Int.le_antisymm h1 h2) ha (hb.imp fun h => Int.le_of_lt h)
theorem asc_nodup {a : List Int} (h : a.Pairwise (· < ·)) : a.Nodup := h.imp fun h => Int.ne_of_lt h
section
variable {C : Cx} {ρ : List Sl} {n : Nat} {Q : V → AS → Prop} {σ : Sg} {g : G} {P T : List (Addr × MO)}
theorem require_spec {bs so : List (Int × Bool)} (hz0 : bs.length ≤ 10) (hno : ∀ p ∈ bs, (p.1, !p.2) ∉ bs) (hso : ∀ (C : Cx) (X : AS) (Q : V → AS → Prop), Q (.lst (so.map bitV)) X → OpL C X (fun vs => call (.builtin "sorted") vs) [.lst (bs.map bitV)] RV Q) (hsz : so.length ≤ 10)
    (hu : (ups so).Pairwise (· < ·)) (hu2 : (ups so).length ≤ 2) (hd : (downs so).Pairwise (· < ·)) (hd2 : (downs so).length ≤ 2) (hG : HG C) (hlv : C.lv = n+2) (hS : Self C.Kp σ) (hz : g.tolds.length ≤ 100000)
    (q : Q .none ⟨ρ, P ++ gmem σ { g with tolds := g.tolds ++ [clauseV (ups so) (downs so)] } T⟩) :
    OpL C ⟨ρ, P ++ gmem σ g T⟩ (fun vs => call (.ref 266) vs) [.raw (.ref σ.x), .lst (bs.map bitV)] RV Q := by
  refine OpL.fnP (n := n+1) ((congrArg (fun K => List.lookup 266 K) hG).trans rfl) (by rw [hG]; rfl) hlv (len2 fun _ _ => rfl) rfl rfl rfl (by decide) rfl rfl rfl ?h
  intro L A Kp hK C'
  have hS' := hS.weaken hK
  have hdat := datas_bits bs
  walk_at "b0.6.Op2"
  refine Op2.inL (x := .bool true) rfl hdat (by decide) ?_
  rw [any_tt]
  walk_at "run.4.Ev"
  refine Ev.comp (gens1 rfl (fun _ _ => rfl)) ?_ rfl (by decide) rfl
  walk_at "e0.1.Exists"
  refine ⟨_, _, _, MkIter.lst, CompOK.fm (toV := bitV) (items := bs) (fun _ ρ => ∃ a b, ρ = [⟨".0", none, a⟩, ⟨"truth", none, b⟩, ⟨"truths", some (L + 1), some (.lst (bs.map bitV))⟩]) (fun _ => Option.none) (fun L' => ⟨_, _, rfl⟩) (by rw [sizeLine_eq]; omega) (fun _ _ => trivial) ?_ ?_⟩
  · intro L' Kp' hKp p hp ρ' M' hM hP ⟨b, c, hρ⟩
    subst hρ
    walk_at "a0.1.TW"
    refine Ifs.one ?_
    walk_at "t0.4.Op2"
    refine Op2.neD (x := bitV p) (y := .bool false) (bitV_data _) rfl (Nat.le_trans (bitV_dep _) (by decide)) ?_
    rw [bit_tt]
    walk_at "run.6.OpL"
    refine contrary_spec (t := .bit p.1 p.2) (by exact hG) (by rfl) ?_
    walk_at "run.1.Op2"
    refine Op2.inL (x := bitV (p.1, !p.2)) (bitV_data _) hdat (Nat.le_trans (bitV_dep _) (by decide)) ?_
    rw [any_bit, decide_eq_false (hno p hp)]
    walk_at "run.2.And"; refine ⟨rfl, ?_⟩; refine ⟨rfl, ?_⟩
    exact ⟨_, _, rfl⟩
  rw [show bs.filterMap (fun _ => (Option.none : Option V)) = [] by induction bs <;> simp_all]
  walk_at "run.0.Ev"
  refine Ev.lst ?_
  walk_at "l.1.Op2"
  refine Op2.neD (x := .lst []) (y := .lst []) rfl rfl (by decide) ?_
  rw [show (!(V.lst []).eqb (.lst [])) = false by decide +kernel]
  walk_at "run.8.Ev"
  refine Ev.comp (gens1 rfl (fun _ _ => rfl)) ?_ rfl (by decide) rfl
  walk_at "e0.1.Exists"
  refine ⟨_, _, _, MkIter.lst, CompOK.fm (toV := bitV) (items := bs) (fun _ ρ => ∃ a b, ρ = [⟨".0", none, a⟩, ⟨"truth", none, b⟩]) (fun p => some (bitV p)) (fun L' => ⟨_, _, rfl⟩) (by rw [sizeLine_eq]; omega) (fun _ _ => trivial) ?_ ?_⟩
  · intro L' Kp' hKp p hp ρ' M' hM hP ⟨b, c, hρ⟩
    subst hρ
    walk_at "a0.1.TW"
    refine Ifs.one ?_
    walk_at "t0.3.Op2"
    refine Op2.neD (x := bitV p) (y := .bool false) (bitV_data _) rfl (Nat.le_trans (bitV_dep _) (by decide)) ?_
    rw [bit_tt]
    walk_at "run.1.TW"; walk_at "e0.1.And"; refine ⟨rfl, ?_⟩; refine ⟨rfl, ?_⟩
    exact ⟨_, _, rfl⟩
  rw [show bs.filterMap (fun p => some (bitV p)) = bs.map bitV by rw [show (fun p => some (bitV p)) = some ∘ bitV from rfl, List.filterMap_eq_map]]
  walk_at "run.0.OpL"
  refine hso _ _ _ ?_
  walk_at "run.4.Ev"
  refine Ev.comp (gens1 rfl (fun _ _ => rfl)) ?_ rfl (by decide) rfl
  walk_at "e0.1.Exists"
  refine ⟨_, _, _, MkIter.lst, CompOK.fm (toV := bitV) (items := so) (fun _ ρ => ∃ a b, ρ = [⟨".0", none, a⟩, ⟨"truth", none, b⟩]) (fun p => (if p.2 then some p.1 else none).map V.int) (fun L' => ⟨_, _, rfl⟩) (by rw [sizeLine_eq]; omega) (fun _ _ => trivial) ?_ ?_⟩
  · intro L' Kp' hKp p hp ρ' M' hM hP ⟨b, c, hρ⟩
    subst hρ
    obtain ⟨x, s⟩ := p
    dsimp only [bitV]
    walk_at "a0.1.TW"
    refine Ifs.one ?_
    walk_at "t0.6."
    refine ifB (fun hs => ?_) fun hs => ?_
    · walk_at "e0.4.And"
      exact ⟨by rw [hs]; rfl, rfl, _, _, rfl⟩
    · exact ⟨by rw [hs]; rfl, rfl, _, _, rfl⟩
  rw [show so.filterMap (fun p => (if p.2 then some p.1 else none).map V.int) = (ups so).map V.int by rw [ups, List.map_filterMap]]
  walk_at "run.0.Ev"
  refine Ev.comp (gens1 rfl (fun _ _ => rfl)) ?_ rfl (by decide) rfl
  walk_at "e0.1.Exists"
  refine ⟨_, _, _, MkIter.lst, CompOK.fm (toV := bitV) (items := so) (fun _ ρ => ∃ a b, ρ = [⟨".0", none, a⟩, ⟨"truth", none, b⟩]) (fun p => (if p.2 then none else some p.1).map V.int) (fun L' => ⟨_, _, rfl⟩) (by rw [sizeLine_eq]; omega) (fun _ _ => trivial) ?_ ?_⟩
  · intro L' Kp' hKp p hp ρ' M' hM hP ⟨b, c, hρ⟩
    subst hρ
    obtain ⟨x, s⟩ := p
    dsimp only [bitV]
    walk_at "a0.1.TW"
    refine Ifs.one ?_
    walk_at "t0.8."
    refine ifB (fun hs => ?_) fun hs => ?_
    · simp only [Bool.not_eq_true'] at hs
      walk_at "e0.4.And"
      exact ⟨by rw [hs]; rfl, rfl, _, _, rfl⟩
    · simp only [Bool.not_eq_false'] at hs
      exact ⟨by rw [hs]; rfl, rfl, _, _, rfl⟩
  rw [show so.filterMap (fun p => (if p.2 then none else some p.1).map V.int) = (downs so).map V.int by rw [downs, List.map_filterMap]]
  walk_at "run.7.Exists"; refine ⟨_, at_flat (by assumption) (by assumption), ?_⟩; walk_at "run.0.Exists"
  refine ⟨_, m_post (by exact hG) (by exact hS'), ?_⟩
  walk_at "m.6.OpL"
  refine OpL.set (asc_nodup hu) hu2 fun a1 => ?_
  walk_at "run.0.OpL"
  refine OpL.sortedS 0 (by rfl) fun ns' hp ho => ?_
  obtain rfl := perm_asc hp ho hu
  walk_at "run.0.OpL"
  refine OpL.tuple (by rw [List.length_map, sizeLine_eq]; omega) ?_
  walk_at "run.4.OpL"
  refine OpL.set (asc_nodup hd) hd2 fun a2 => ?_
  walk_at "run.0.OpL"
  refine OpL.sortedS 0 (by rfl) fun ns' hp ho => ?_
  obtain rfl := perm_asc hp ho hd
  walk_at "run.0.OpL"
  refine OpL.tuple (by rw [List.length_map, sizeLine_eq]; omega) ?_
  walk_at "run.1.OpL"
  refine post_spec (P := (a2, .obj _) :: (a1, .obj _) :: P) (by exact hG) (by rfl) (by exact hS') (by omega) ?_
  walk_at "run.2.Out"
  refine retNone ((List.sublist_cons_self _ _).trans (List.sublist_cons_self _ _)) ?_
  exact q
end
end
section
noncomputable def orV (xs : List Int) (b : Int) : V := .tup [.str "or", intsV xs, .int b]
noncomputable def andV (xs : List Int) (b : Int) : V := .tup [.str "and", intsV xs, .int b]
noncomputable def clauseB (so : List (Int × Bool)) : V := clauseV (ups so) (downs so)
noncomputable def mixV (p q : Int × Bool) (b : Int) : List V := [clauseB [p, (b, false)], clauseB [q, (b, false)], clauseB [(p.1, !p.2), (q.1, !q.2), (b, true)]]
noncomputable def pairZ (g : G) (p q : Int × Bool) : Tv × G :=
  if p.2 = false ∧ q.2 = false then (.bit (g.put (.or [p.1, q.1]) fun b => [orV [p.1, q.1] b]).2 false, (g.put (.or [p.1, q.1]) fun b => [orV [p.1, q.1] b]).1)
  else (.bit (g.put (.all [p, q]) fun b => if p.2 && q.2 then [andV [p.1, q.1] b] else mixV p q b).2 true, (g.put (.all [p, q]) fun b => if p.2 && q.2 then [andV [p.1, q.1] b] else mixV p q b).1)
noncomputable def allZ (g : G) (ts : List Tv) : Tv × G := match allK ts with
  | none => (.tt false, g)
  | some [] => (.tt true, g)
  | some [p] => (.bit p.1 p.2, g)
  | some (p :: q :: _) => if p.1 < q.1 then pairZ g p q else pairZ g q p
set_option tactic.hygienic true in
theorem keepZ_inv {k k' : List (Int × Bool)} {t : Tv} (h : keepZ k t = some k') (hk : k.Pairwise fun a b => a.1 ≠ b.1) : (k'.Pairwise fun a b => a.1 ≠ b.1) ∧ ∀ p ∈ k', p ∈ k ∨ t = .bit p.1 p.2 := by
  cases t with
  | tt b => cases b with
    | true => cases h; exact ⟨hk, fun p hp => .inl hp⟩
    | false => cases h
  | bit x s =>
    simp only [keepZ] at h
    split at h
    · cases h
    · rename_i h1
      split at h
      · cases h; exact ⟨hk, fun p hp => .inl hp⟩
      · rename_i h2
        cases h
        refine ⟨List.pairwise_append.mpr ⟨hk, .cons (fun _ h => nomatch h) .nil, fun a ha b hb => ?_⟩, fun p hp => ?_⟩
        · rw [List.mem_singleton.mp hb]
          intro e
          obtain ⟨y, u⟩ := a
          simp only at e; subst e
          by_cases hu : u = s
          · subst hu; exact h2 ha
          · have : u = !s := by cases u <;> cases s <;> simp_all
            subst this; exact h1 ha
        · rcases List.mem_append.mp hp with hp | hp
          · exact .inl hp
          · rw [List.mem_singleton.mp hp]; exact .inr rfl
theorem foldK_inv : ∀ {ts : List Tv} {k k' : List (Int × Bool)}, ts.foldlM keepZ k = some k' → (k.Pairwise fun a b => a.1 ≠ b.1) → (k'.Pairwise fun a b => a.1 ≠ b.1) ∧ ∀ p ∈ k', p ∈ k ∨ Tv.bit p.1 p.2 ∈ ts
  | [], k, k', h, hk => by cases h; exact ⟨hk, fun p hp => .inl hp⟩
  | t :: ts, k, k', h, hk => by
    rw [List.foldlM_cons] at h
    obtain ⟨k1, h1, h2⟩ := Option.bind_eq_some_iff.mp h
    obtain ⟨a, b⟩ := keepZ_inv h1 hk
    obtain ⟨c, d⟩ := foldK_inv h2 a
    refine ⟨c, fun p hp => ?_⟩
    rcases d p hp with hp | hp
    · rcases b p hp with hp | e
      · exact .inl hp
      · exact .inr (by rw [e]; exact List.mem_cons_self ..)
    · exact .inr (List.mem_cons_of_mem _ hp)
theorem foldK_none : ∀ (ts : List Tv) (j : Nat) (k kept : List (Int × Bool)) (t : Tv), (ts.take j).foldlM keepZ k = some kept → ts[j]? = some t → keepZ kept t = none → ts.foldlM keepZ k = none
  | [], j, k, kept, t, _, h, _ => by simp at h
  | t' :: ts, 0, k, kept, t, hk, h, hn => by
    simp at h hk; subst h hk
    rw [List.foldlM_cons, hn]; rfl
  | t' :: ts, j + 1, k, kept, t, hk, h, hn => by
    rw [List.take_succ_cons, List.foldlM_cons] at hk
    obtain ⟨k1, h1, h2⟩ := Option.bind_eq_some_iff.mp hk
    rw [List.foldlM_cons, h1]
    exact foldK_none ts j k1 kept t h2 (by simpa using h) hn
section
variable {C : Cx} {ρ : List Sl} {n : Nat} {Q : V → AS → Prop} {σ : Sg} {g : G} {P T : List (Addr × MO)} {D : Int → List (Int × Int)}
theorem pz1 {x y i : Int} (hm : getM g.made (.or [x, y]) = some i) : pairZ g (x, false) (y, false) = (.bit i false, g) := by simp [pairZ, G.put, hm]
theorem pz2 {x y : Int} (hm : getM g.made (.or [x, y]) = none) : pairZ g (x, false) (y, false) = (.bit g.vars.length false, { g.add (.or [x, y]) with tolds := g.tolds ++ [orV [x, y] g.vars.length] }) := by simp [pairZ, G.put, hm]
theorem pz3 {x y i : Int} {s u : Bool} (hff : ¬(s = false ∧ u = false)) (hm : getM g.made (.all [(x, s), (y, u)]) = some i) : pairZ g (x, s) (y, u) = (.bit i true, g) := by simp only [pairZ]; rw [if_neg hff]; simp [G.put, hm]
theorem pz4 {x y : Int} (hm : getM g.made (.all [(x, true), (y, true)]) = none) : pairZ g (x, true) (y, true) = (.bit g.vars.length true, { g.add (.all [(x, true), (y, true)]) with tolds := g.tolds ++ [andV [x, y] g.vars.length] }) := by simp [pairZ, G.put, hm]
theorem pz5 {x y : Int} {s : Bool} (hm : getM g.made (.all [(x, s), (y, !s)]) = none) : pairZ g (x, s) (y, !s) = (.bit g.vars.length true, { g.add (.all [(x, s), (y, !s)]) with tolds := g.tolds ++ mixV (x, s) (y, !s) g.vars.length }) := by simp [pairZ, G.put, hm]
theorem req2 {vs ts : List V} {ms : List (Key × Int)} {b z : Int} {r : Bool} (hzl : z < b) (hG : HG C) (hlv : C.lv = n + 2) (hS : Self C.Kp σ) (hts : ts.length ≤ 95000) (q : Q .none ⟨ρ, P ++ gmem σ ⟨vs, ts ++ [clauseB [(z, r), (b, false)]], ms⟩ T⟩) :
    OpL C ⟨ρ, P ++ gmem σ ⟨vs, ts, ms⟩ T⟩ (fun vs => call (.ref 266) vs) [.raw (.ref σ.x), .lst [bitV (b, false), bitV (z, r)]] RV Q :=
  require_spec (bs := [(b, false), (z, r)]) (so := [(z, r), (b, false)]) (g := ⟨vs, ts, ms⟩) (by show 2 ≤ 10; decide) (by
      intro p hp
      have hzn : b ≠ z := Int.ne_of_gt hzl
      simp only [List.mem_cons, List.not_mem_nil, or_false] at hp
      rcases hp with rfl | rfl <;> simp [hzn, Ne.symm hzn]) (fun C X Q q => OpL.sorted2 hzl q) (by show 2 ≤ 10; decide)
    (by cases r <;> simp [ups]) (by cases r <;> simp [ups]) (by cases r <;> simp [downs, hzl]) (by cases r <;> simp [downs]) hG hlv hS (Nat.le_trans hts (by decide)) q
theorem req3 {vs ts : List V} {ms : List (Key × Int)} {b x y : Int} {s : Bool} (hxy : x < y) (hyb : y < b) (hG : HG C) (hlv : C.lv = n + 2) (hS : Self C.Kp σ) (hts : ts.length ≤ 95000) (q : Q .none ⟨ρ, P ++ gmem σ ⟨vs, ts ++ [clauseB [(x, !s), (y, !!s), (b, true)]], ms⟩ T⟩) :
    OpL C ⟨ρ, P ++ gmem σ ⟨vs, ts, ms⟩ T⟩ (fun vs => call (.ref 266) vs) [.raw (.ref σ.x), .lst [bitV (b, true), bitV (x, !s), bitV (y, !!s)]] RV Q :=
  require_spec (bs := [(b, true), (x, !s), (y, !!s)]) (so := [(x, !s), (y, !!s), (b, true)]) (g := ⟨vs, ts, ms⟩) (by show 3 ≤ 10; decide) (by
      intro p hp
      simp only [List.mem_cons, List.not_mem_nil, or_false] at hp
      have h1 : x ≠ y := Int.ne_of_lt hxy
      have h2 : b ≠ y := Int.ne_of_gt hyb
      have h3 : b ≠ x := Int.ne_of_gt (Int.lt_trans hxy hyb)
      rcases hp with rfl | rfl | rfl <;> simp [h1, h2, h3, Ne.symm h1, Ne.symm h2, Ne.symm h3]) (fun C X Q q => OpL.sorted3 hxy hyb q) (by show 3 ≤ 10; decide)
    (by cases s <;> simp [ups] <;> omega) (by cases s <;> simp [ups]) (by cases s <;> simp [downs] <;> omega) (by cases s <;> simp [downs]) hG hlv hS (Nat.le_trans hts (by decide)) q
noncomputable def frA (x d : Addr) (ts : List Tv) (tv sv gv bv nv : Option V) : List Sl := [⟨"self", none, some (.raw (.ref x))⟩, ⟨"truths", none, some (.lst (ts.map Tv.v))⟩, ⟨"kept", none, some (.raw (.ref d))⟩, ⟨"truth", none, tv⟩, ⟨"some", none, sv⟩, ⟨"signs", none, gv⟩, ⟨"b", none, bv⟩, ⟨"is_new", none, nv⟩]
inductive A1 (x d : Addr) (ts : List Tv) (M : List (Addr × MO)) (j : Nat) (Z : AS) : Prop where
  | mk (kept : List (Int × Bool)) (tv sv gv bv nv : Option V) : (ts.take j).foldlM keepZ [] = some kept → kept.length ≤ j → Z = ⟨frA x d ts tv sv gv bv nv, (d, .lst (kept.map bitV)) :: M⟩ → A1 x d ts M j Z
noncomputable def cl2 (g : G) (x y : Int) (s : Bool) (j : Nat) : List V := ([(x, s), (y, !s)].take j).map fun p => clauseB [p, ((g.vars.length : Int), false)]
theorem cl2_len (g : G) (x y : Int) (s : Bool) (j : Nat) : (cl2 g x y s j).length ≤ 2 := by rw [cl2, List.length_map]; exact List.length_take_le' ..
theorem mix_eq (g : G) (x y : Int) (s : Bool) : (g.tolds ++ cl2 g x y s 2) ++ [clauseB [(x, !s), (y, !!s), ((g.vars.length : Int), true)]] = g.tolds ++ mixV (x, s) (y, !s) g.vars.length := by simp [cl2, mixV, clauseB]
inductive A2 (σ : Sg) (d : Addr) (ts : List Tv) (g : G) (P T : List (Addr × MO)) (x y : Int) (s : Bool) (j : Nat) (Z : AS) : Prop where
  | mk (tv : Option V) : Z = ⟨frA σ.x d ts tv (some (intsV [x, y])) (some (.lst [.bool s, .bool (!s)])) (some (.int g.vars.length)) (some (.bool true)), (d, .lst [bitV (x, s), bitV (y, !s)]) :: (P ++ gmem σ ⟨(g.add (.all [(x, s), (y, !s)])).vars, g.tolds ++ cl2 g x y s j, (g.add (.all [(x, s), (y, !s)])).made⟩ T)⟩ → A2 σ d ts g P T x y s j Z
noncomputable def KTr (_ : Addr) (ρ : List Sl) : Prop := ∃ a b : Option V, ρ = [⟨".0", none, a⟩, ⟨"truth", none, b⟩]
theorem all_spec {ts : List Tv} (h2 : ts.length ≤ 2) (hb : ∀ x s, Tv.bit x s ∈ ts → x < g.vars.length) (hG : HG C) (hlv : C.lv = n+3) (hS : Self C.Kp σ) (hz : g.vars.length ≤ 100000) (hz' : g.made.length ≤ 100000) (hz'' : g.tolds.length ≤ 90000) (q : Q (allZ g ts).1.v ⟨ρ, P ++ gmem σ (allZ g ts).2 T⟩) :
    OpL C ⟨ρ, P ++ gmem σ g T⟩ (fun vs => call (.ref 249) vs) [.raw (.ref σ.x), .lst (ts.map Tv.v)] RV Q := by
  refine OpL.fnP (n := n+2) ((congrArg (fun K => List.lookup 249 K) hG).trans rfl) (by rw [hG]; rfl) hlv (len2 fun _ _ => rfl) rfl rfl rfl (by decide) rfl rfl rfl ?h
  intro L A Kp hK C'
  have hS' := hS.weaken hK
  walk_at "b0.2.Ev"
  refine Ev.mlst ?_
  walk_at "ml.1."
  intro d
  walk_at "run.1.Exs"
  refine Exs.cons ?_
  refine Ex.for (l := ts.map Tv.v) (ok := fun _ => True) (A1 σ.x d ts (P ++ gmem σ g T)) ?_ (fun _ _ _ => trivial) ?_ ?_
  · walk_at "e0.1.Exists"
    refine ⟨_, MkIter.lst, [], _, _, _, _, _, rfl, Nat.le_refl _, rfl⟩
  · rintro j x Z F hx ⟨kept, tv, sv, gv, bv, nv, hk, hl, rfl⟩
    rw [List.getElem?_map] at hx
    obtain ⟨t, ht, rfl⟩ := Option.map_eq_some_iff.mp hx
    have htake : (ts.take (j + 1)).foldlM keepZ [] = keepZ kept t := by rw [List.take_add_one, ht, List.foldlM_append, hk]; simp
    walk_at "a0.1.TW"; walk_at "b0.6.Op2"
    have hi : ∀ (y : MO) (r : List (Addr × MO)), (F ++ (d, y) :: r)[F.length]? = some (d, y) := fun y r => mid_get F r _
    have hdat : V.datas (kept.map bitV) = true := datas_bits kept
    refine Op2.eqD (x := t.v) (y := .bool false) t.data rfl (Nat.le_trans t.dep (by decide)) ?_
    cases t with
    | tt b =>
      cases b with
      | false =>
        rw [show (Tv.tt false).v.eqb (.bool false) = true from rfl]
        walk_at "run.6.Out"
        refine retOK ((List.sublist_cons_self _ _).trans (List.sublist_append_right _ _)) ?_
        have hn : allK ts = none := foldK_none ts j [] kept _ hk ht rfl
        unfold allZ at q; rw [hn] at q
        exact q
      | true =>
        rw [show (Tv.tt true).v.eqb (.bool false) = false from rfl]
        walk_at "run.6.OpL"
        refine contrary_spec (by exact hG) (by rfl) ?_
        walk_at "run.1.Op2"
        refine Op2.inM _ (hi _ _) (Tv.data _) hdat (Nat.le_trans (Tv.dep _) (by decide)) ?_
        rw [show (Tv.tt true).not.v = V.bool false from rfl, any_tt]
        walk_at "run.11.Op2"
        refine Op2.neD (x := (Tv.tt true).v) (y := .bool true) rfl rfl (by decide) ?_
        rw [show (!(Tv.tt true).v.eqb (.bool true)) = false from rfl]
        walk_at "run.5.Back"
        exact turnOK ⟨kept, _, _, _, _, _, htake, by omega, rfl⟩
    | bit y s =>
      rw [show (Tv.bit y s).v.eqb (.bool false) = false from rfl]
      walk_at "run.6.OpL"
      refine contrary_spec (by exact hG) (by rfl) ?_
      walk_at "run.1.Op2"
      refine Op2.inM _ (hi _ _) (Tv.data _) hdat (Nat.le_trans (Tv.dep _) (by decide)) ?_
      rw [show (Tv.bit y s).not.v = bitV (y, !s) from rfl, any_bit]
      refine ⟨_, rfl, ifB (fun h1 => ?_) fun h1 => ?_⟩
      · walk_at "run.4.Out"
        refine retOK ((List.sublist_cons_self _ _).trans (List.sublist_append_right _ _)) ?_
        have hn : allK ts = none := foldK_none ts j [] kept _ hk ht (by simp [keepZ, of_decide_eq_true h1])
        unfold allZ at q; rw [hn] at q
        exact q
      · have h1' : (y, !s) ∉ kept := of_decide_eq_false h1
        walk_at "t.9.Op2"
        refine Op2.neD (x := (Tv.bit y s).v) (y := .bool true) (Tv.data _) rfl (Nat.le_trans (Tv.dep _) (by decide)) ?_
        rw [show (!(Tv.bit y s).v.eqb (.bool true)) = true from rfl]
        walk_at "run.6.Op2"
        refine Op2.ninM _ (hi _ _) (Tv.data _) hdat (Nat.le_trans (Tv.dep _) (by decide)) ?_
        rw [show (Tv.bit y s).v = bitV (y, s) from rfl, any_bit]
        refine ⟨_, rfl, ifB (fun h3 => ?_) fun h3 => ?_⟩
        · have h3' : (y, s) ∉ kept := by simpa using h3
          walk_at "t.6.Exists"
          refine ⟨_, IsMeth.append _ (hi _ _), ?_⟩
          walk_at "m.1.OpL"
          refine OpL.append _ (hi _ _) (by rw [sizeLine_eq, List.length_map]; have := (List.getElem?_eq_some_iff.mp ht).1; omega) ?_
          rw [show ∀ (y z : MO) (r : List (Addr × MO)), (F ++ (d, y) :: r).set F.length (d, z) = F ++ (d, z) :: r from fun y z r => mid_set F r _ _]
          walk_at "run.3.Back"
          exact turnOK ⟨kept ++ [(y, s)], _, _, _, _, _, by rw [htake]; simp [keepZ, h1', h3'], by rw [List.length_append]; exact Nat.succ_le_succ hl, by rw [List.map_append]; rfl⟩
        · have h3' : (y, s) ∈ kept := by simpa using h3
          walk_at "run.3.Back"
          exact turnOK ⟨kept, _, _, _, _, _, by rw [htake]; simp [keepZ, h1', h3'], by omega, rfl⟩
  · rintro Z ⟨kept, tv, sv, gv, bv, nv, hk, hl, rfl⟩
    rw [List.length_map] at hk hl
    rw [List.take_length] at hk
    show Exs _ _ _ _
    obtain ⟨hpw, hmem⟩ := foldK_inv hk .nil
    rcases kept with _ | ⟨p, _ | ⟨p', _ | ⟨c, r⟩⟩⟩
    ·
      have hq : allZ g ts = (.tt true, g) := by unfold allZ; rw [show allK ts = some [] from hk]
      rw [hq] at q
      walk_at "b.5.OpL"
      refine OpL.lenM (l := []) (a := d) 0 (by rfl) (by decide) ?_
      walk_at "run.9.Ev"
      refine Ev.lst ?_
      walk_at "l.1.Op2"
      refine Op2.neM (l := []) (y := .lst []) 0 (by rfl) rfl rfl (by decide) ?_
      rw [show (!(V.lst []).eqb (.lst [])) = false by decide +kernel]
      walk_at "run.3.Out"
      refine retOK (List.sublist_cons_self _ _) ?_
      exact q
    ·
      have hq : allZ g ts = (.bit p.1 p.2, g) := by unfold allZ; rw [show allK ts = some [p] from hk]
      rw [hq] at q
      walk_at "b.5.OpL"
      refine OpL.lenM (l := [bitV p]) (a := d) 0 (by rfl) (by show 1 < 2 ^ 63; decide) ?_
      walk_at "run.9.Ev"
      refine Ev.lst ?_
      walk_at "l.1.Op2"
      refine Op2.neM (l := [bitV p]) (y := .lst []) 0 (by rfl) rfl (Bool.and_eq_true_iff.mpr ⟨bitV_data p, rfl⟩) (by decide) ?_
      rw [show (!(V.lst [bitV p]).eqb (.lst [])) = true from rfl]
      walk_at "run.5.Op2"
      refine Op2.iM (l := [bitV p]) (a := d) 0 (by rfl) 0 rfl ?_
      walk_at "run.0.Out"
      refine retOK (List.sublist_cons_self _ _) ?_
      exact q
    ·
      refine Exs.seq (fun Y => ∃ tv, Y = ⟨frA σ.x d ts tv sv gv bv nv, (d, .lst [bitV p, bitV p']) :: (P ++ gmem σ g T)⟩) ?_ ?_
      · walk_at "s0.4.OpL"
        refine OpL.lenM (l := [bitV p, bitV p']) (a := d) 0 (by rfl) (by show 2 < 2 ^ 63; decide) ?_
        walk_at "run.5.Exists"
        exact ⟨_, rfl⟩
      · rintro _ ⟨tv, rfl⟩
        have hne : p.1 ≠ p'.1 := by simpa using hpw
        have hvp : p.1 < g.vars.length := (hmem p (by simp)).elim (fun h => nomatch h) fun h => hb _ _ h
        have hvp' : p'.1 < g.vars.length := (hmem p' (by simp)).elim (fun h => nomatch h) fun h => hb _ _ h
        refine Exs.seq (fun Y => ∃ a b : Int × Bool, a.1 < b.1 ∧ b.1 < (g.vars.length : Int) ∧ Y = ⟨frA σ.x d ts tv sv gv bv nv, (d, .lst [bitV a, bitV b]) :: (P ++ gmem σ g T)⟩ ∧ allZ g ts = pairZ g a b) ?_ ?_
        · walk_at "s0.3.Exists"
          refine ⟨_, IsMeth.sort (l := [bitV p, bitV p']) (a := d) 0 (by rfl), ?_⟩
          walk_at "m.0.OpL"
          by_cases hlt : p.1 < p'.1
          · refine OpL.sortM2a 0 (by rfl) hlt ?_
            refine ⟨.none, ?_⟩
            exact ⟨p, p', hlt, hvp', rfl, by unfold allZ; rw [show allK ts = some [p, p'] from hk]; simp [hlt]⟩
          · refine OpL.sortM2b 0 (by rfl) (by omega) ?_
            refine ⟨.none, ?_⟩
            exact ⟨p', p, by omega, hvp, rfl, by unfold allZ; rw [show allK ts = some [p, p'] from hk]; simp [hlt]⟩
        · rintro _ ⟨a, b, hlt, hbv, rfl, hq⟩
          rw [hq] at q
          walk_at "b.4.Ev"
          refine Ev.comp (gens1 rfl (fun _ _ => rfl)) ?_ rfl (by decide) rfl
          walk_at "e0.1.Exists"
          refine ⟨_, _, _, MkIter.mlst (l := [a, b].map bitV) (List.mem_cons_self ..), CompOK.map (toV := bitV) (items := [a, b]) KTr (fun p => .int p.1) (fun L' => ⟨_, _, rfl⟩) (by rw [sizeLine_eq]; show 2 ≤ 16777216; decide) (fun _ _ => List.mem_cons_of_mem _ (List.mem_cons_self ..)) ?_ ?_⟩
          · intro L' Kp' hKp p hp ρ' M' hM hP ⟨b, c, hρ⟩
            subst hρ
            dsimp only [bitV]
            walk_at "a0.1.TW"; walk_at "e0.4.And"; refine ⟨rfl, ?_⟩; refine ⟨rfl, ?_⟩
            first | exact ⟨rfl, rfl, _, _, rfl⟩ | exact ⟨_, _, rfl⟩
          walk_at "run.0.OpL"
          refine OpL.tuple (by rw [sizeLine_eq]; show 2 ≤ _; decide) ?_
          walk_at "run.0.Ev"
          refine Ev.comp (gens1 rfl (fun _ _ => rfl)) ?_ rfl (by decide) rfl
          walk_at "e0.1.Exists"
          refine ⟨_, _, _, MkIter.mlst (l := [a, b].map bitV) (List.mem_cons_self ..), CompOK.map (toV := bitV) (items := [a, b]) KTr (fun p => .bool p.2) (fun L' => ⟨_, _, rfl⟩) (by rw [sizeLine_eq]; show 2 ≤ 16777216; decide) (fun _ _ => List.mem_cons_of_mem _ (List.mem_cons_self ..)) ?_ ?_⟩
          · intro L' Kp' hKp p hp ρ' M' hM hP ⟨b, c, hρ⟩
            subst hρ
            dsimp only [bitV]
            walk_at "a0.1.TW"; walk_at "e0.4.And"; refine ⟨rfl, ?_⟩; refine ⟨rfl, ?_⟩
            first | exact ⟨rfl, rfl, _, _, rfl⟩ | exact ⟨_, _, rfl⟩
          walk_at "run.7.Op2"
          obtain ⟨x, s⟩ := a
          obtain ⟨y, u⟩ := b
          have hgl : ((g.vars.length : Int)) = g.vars.length := rfl
          refine Op2.ninL (x := .bool true) (l := [.bool s, .bool u]) rfl rfl (by decide) ?_
          by_cases hff : s = false ∧ u = false
          · obtain ⟨rfl, rfl⟩ := hff
            rw [show (![V.bool false, V.bool false].any fun z => z.eqb (.bool true)) = true from rfl]
            walk_at "run.6.Exists"
            refine ⟨_, m_once (by exact hG) (by exact hS'), ?_⟩
            walk_at "m.4.Ev"; refine Ev.truths (by assumption) ?_ (by rfl); walk_at "run.0.OpL"
            cases hm : getM g.made (.or [x, y]) with
            | some i =>
              rw [pz1 hm] at q
              refine once_old (key := .or [x, y]) (P := (d, .lst [bitV (x, false), bitV (y, false)]) :: P) (by exact hG) (by rfl) (by exact hS') hm ?_
              walk_at "run.17.Out"
              refine retOK (List.sublist_cons_self _ _) ?_
              exact q
            | none =>
              rw [pz2 hm] at q
              refine once_new (key := .or [x, y]) (P := (d, .lst [bitV (x, false), bitV (y, false)]) :: P) (by exact hG) (by rfl) (by exact hS') hm (by omega) (by omega) ?_
              walk_at "run.14.Exists"; refine ⟨_, at_flat (by assumption) (by assumption), ?_⟩; walk_at "run.0.Exists"
              refine ⟨_, m_post (by exact hG) (by exact hS'), ?_⟩
              walk_at "m.5.OpL"
              refine post_spec (g := g.add (.or [x, y])) (P := (d, .lst [bitV (x, false), bitV (y, false)]) :: P) (by exact hG) (by rfl) (by exact hS') (by show g.tolds.length ≤ _; omega) ?_
              walk_at "run.9.Out"
              refine retOK (List.sublist_cons_self _ _) ?_
              exact q
          · rw [show (![V.bool s, V.bool u].any fun z => z.eqb (.bool true)) = false by revert hff; cases s <;> cases u <;> first | (intro _; rfl) | (intro h; exact absurd ⟨rfl, rfl⟩ h)]
            walk_at "run.7.Exists"
            refine ⟨_, m_once (by exact hG) (by exact hS'), ?_⟩
            walk_at "m.4.OpL"
            refine OpL.tupleM (l := [bitV (x, s), bitV (y, u)]) (a := d) 0 (by rfl) (by rw [sizeLine_eq]; show 2 ≤ _; decide) ?_
            walk_at "run.1.Ev"; refine Ev.truths (by assumption) ?_ (by rfl); walk_at "run.0.OpL"
            cases hm : getM g.made (.all [(x, s), (y, u)]) with
            | some i =>
              rw [pz3 hff hm] at q
              refine once_old (key := .all [(x, s), (y, u)]) (P := (d, .lst [bitV (x, s), bitV (y, u)]) :: P) (by exact hG) (by rfl) (by exact hS') hm ?_
              walk_at "run.26.Out"
              refine retOK (List.sublist_cons_self _ _) ?_
              exact q
            | none =>
              refine once_new (key := .all [(x, s), (y, u)]) (P := (d, .lst [bitV (x, s), bitV (y, u)]) :: P) (by exact hG) (by rfl) (by exact hS') hm (by omega) (by omega) ?_
              walk_at "run.14.Op2"
              refine Op2.ninL (x := .bool false) (l := [.bool s, .bool u]) rfl rfl (by decide) ?_
              by_cases htt : s = true ∧ u = true
              · obtain ⟨rfl, rfl⟩ := htt
                rw [show (![V.bool true, V.bool true].any fun z => z.eqb (.bool false)) = true from rfl]
                rw [pz4 hm] at q
                walk_at "run.9.Exists"; refine ⟨_, at_flat (by assumption) (by assumption), ?_⟩; walk_at "run.0.Exists"
                refine ⟨_, m_post (by exact hG) (by exact hS'), ?_⟩
                walk_at "m.5.OpL"
                refine post_spec (g := g.add (.all [(x, true), (y, true)])) (P := (d, .lst [bitV (x, true), bitV (y, true)]) :: P) (by exact hG) (by rfl) (by exact hS') (by show g.tolds.length ≤ _; omega) ?_
                walk_at "run.9.Out"
                refine retOK (List.sublist_cons_self _ _) ?_
                exact q
              · rw [show (![V.bool s, V.bool u].any fun z => z.eqb (.bool false)) = false by revert htt; cases s <;> cases u <;> first | (intro _; rfl) | (intro h; exact absurd ⟨rfl, rfl⟩ h)]
                have hsu : u = !s := by revert hff htt; cases s <;> cases u <;> simp
                subst hsu
                rw [pz5 hm] at q
                walk_at "run.10.Ex"
                refine Ex.for (l := [(x, s), (y, !s)].map bitV) (ok := fun M => (d, .lst [bitV (x, s), bitV (y, !s)]) ∈ M) (A2 σ d ts g P T x y s) ?_ ?_ ?_ ?_
                · walk_at "e0.1.Exists"
                  refine ⟨_, MkIter.mlst (l := [(x, s), (y, !s)].map bitV) (List.mem_cons_self ..), tv, ?_⟩
                  show (⟨_, _⟩ : AS) = ⟨_, _⟩
                  rw [show cl2 g x y s 0 = [] from rfl, List.append_nil]; rfl
                · rintro j _ ⟨tv, rfl⟩; exact List.mem_cons_self ..
                · rintro j z _ F hz ⟨tv, rfl⟩
                  rw [List.getElem?_map] at hz
                  obtain ⟨p, hp, rfl⟩ := Option.map_eq_some_iff.mp hz
                  have hpm : p ∈ [(x, s), (y, !s)] := List.mem_of_getElem? hp
                  have hpl : p.1 < (g.vars.length : Int) := by
                    simp only [List.mem_cons, List.not_mem_nil, or_false] at hpm
                    rcases hpm with rfl | rfl
                    · show x < _; omega
                    · exact hbv
                  have htk : cl2 g x y s (j + 1) = cl2 g x y s j ++ [clauseB [p, ((g.vars.length : Int), false)]] := by
                    rw [cl2, List.take_add_one, hp, List.map_append]; rfl
                  dsimp only
                  have hlen5 : (g.tolds ++ cl2 g x y s j).length ≤ 95000 := by
                    have := cl2_len g x y s j; rw [List.length_append]; omega
                  rw [show ∀ (m : MO) (g : G), F ++ (d, m) :: (P ++ gmem σ g T) = (F ++ (d, m) :: P) ++ gmem σ g T from fun m g => (List.append_assoc F ((d, m) :: P) _).symm]
                  walk_at "a0.1.TW"; walk_at "b0.4.Exists"
                  refine ⟨_, m_require_some (by exact hG) (by exact hS'), ?_⟩
                  walk_at "m.0.Ev"
                  refine Ev.lst ?_
                  walk_at "l.7.OpL"
                  refine req2 (P := F ++ (d, _) :: P) hpl (by exact hG) (by rfl) (by exact hS') hlen5 ?_
                  walk_at "run.2.Back"
                  rw [show ∀ (m : MO) (g : G), (F ++ (d, m) :: P) ++ gmem σ g T = F ++ ((d, m) :: (P ++ gmem σ g T)) from fun m g => List.append_assoc F ((d, m) :: P) _]
                  refine turnOK ⟨some (bitV p), ?_⟩
                  rw [htk, ← List.append_assoc]; rfl
                · rintro _ ⟨tv, rfl⟩
                  walk_at "run.4.Exists"
                  refine ⟨_, m_require_some (by exact hG) (by exact hS'), ?_⟩
                  walk_at "m.1.Ev"
                  refine Ev.lst ?_
                  walk_at "l.6.Ev"
                  refine Ev.comp (gens1 rfl (fun _ _ => rfl)) ?_ rfl (by decide) rfl
                  walk_at "e0.1.Exists"
                  refine ⟨_, _, _, MkIter.mlst (l := [(x, s), (y, !s)].map bitV) (List.mem_cons_self ..), CompOK.map (toV := bitV) (items := [(x, s), (y, !s)]) KTr (fun p => bitV (p.1, !p.2)) (fun L' => ⟨_, _, rfl⟩) (by rw [sizeLine_eq]; show 2 ≤ 16777216; decide) (fun _ _ => List.mem_cons_of_mem _ (List.mem_cons_self ..)) ?_ ?_⟩
                  · intro L' Kp' hKp p hp ρ' M' hM hP ⟨b, c, hρ⟩
                    subst hρ
                    walk_at "a0.1.TW"; walk_at "e0.2.OpL"
                    refine contrary_spec (t := .bit p.1 p.2) (by exact hG) (by rfl) ?_
                    first | exact ⟨rfl, rfl, _, _, rfl⟩ | exact ⟨_, _, rfl⟩
                  walk_at "run.0.Op2"
                  refine Op2.addL (by rw [sizeLine_eq]; show 1 + 2 ≤ 16777216; decide) ?_
                  walk_at "run.0.OpL"
                  refine req3 (P := (d, .lst [bitV (x, s), bitV (y, !s)]) :: P) hlt hbv (by exact hG) (by rfl) (by exact hS') (by have := cl2_len g x y s [(x, s), (y, !s)].length; rw [List.length_append]; simp only [List.length_map] at this ⊢; omega) ?_
                  walk_at "run.10.Out"
                  refine retOK (List.sublist_cons_self _ _) ?_
                  refine (?_ : Q (Tv.bit (g.vars.length : Int) true).v ⟨_, P ++ gmem σ ⟨_, (g.tolds ++ cl2 g x y s 2) ++ _, _⟩ T⟩)
                  rw [mix_eq]
                  exact q
    · exact absurd hl (by simp only [List.length_cons]; omega)
end
end
section
noncomputable def anyZ (g : G) (ts : List Tv) : Tv × G := ((allZ g (ts.map Tv.not)).1.not, (allZ g (ts.map Tv.not)).2)
noncomputable def tellsK (b : Int) : Key → List V
  | .reif r => [reifV b r]
  | .or xs => [orV xs b]
  | .all [p, q] => if p.2 && q.2 then [andV [p.1, q.1] b] else mixV p q b
  | .all _ => []
noncomputable def tellsL : Nat → List Key → List V
  | _, [] => []
  | i, k :: ks => tellsK (i : Int) k ++ tellsL (i + 1) ks
noncomputable def madeL : Nat → List Key → List (Key × Int)
  | _, [] => []
  | i, k :: ks => (k, (i : Int)) :: madeL (i + 1) ks
noncomputable def varsL : Nat → List Key → List V
  | _, [] => []
  | i, _ :: ks => .tup [nameV i, TR] :: varsL (i + 1) ks
theorem tellsL_c (i : Nat) (k : Key) (ks : List Key) : tellsL i (k :: ks) = tellsK (i : Int) k ++ tellsL (i + 1) ks := rfl
theorem madeL_c (i : Nat) (k : Key) (ks : List Key) : madeL i (k :: ks) = (k, (i : Int)) :: madeL (i + 1) ks := rfl
theorem madeL_n (i : Nat) : madeL i [] = [] := rfl
theorem varsL_c (i : Nat) (k : Key) (ks : List Key) : varsL i (k :: ks) = .tup [nameV i, TR] :: varsL (i + 1) ks := rfl
theorem varsL_n (i : Nat) : varsL i [] = [] := rfl
noncomputable def stG (V0 : List V) (ks : List Key) : G := ⟨V0 ++ varsL 3 ks, tellsL 3 ks, madeL 3 ks⟩
noncomputable def addK (ks : List Key) (k : Key) : List Key := if k ∈ ks then ks else ks ++ [k]
noncomputable def idxK (ks : List Key) (k : Key) : Int := ((3 + ks.idxOf k : Nat) : Int)
theorem varsL_len : ∀ (i : Nat) (ks : List Key), (varsL i ks).length = ks.length
  | _, [] => rfl
  | i, _ :: ks => by simp [varsL_c, varsL_n, varsL_len (i + 1) ks]
theorem madeL_len : ∀ (i : Nat) (ks : List Key), (madeL i ks).length = ks.length
  | _, [] => rfl
  | i, _ :: ks => by simp [madeL_c, madeL_n, madeL_len (i + 1) ks]
theorem tellsK_len (b : Int) (k : Key) : (tellsK b k).length ≤ 3 := by
  cases k with
  | reif r => exact (by decide : 1 ≤ 3)
  | or xs => exact (by decide : 1 ≤ 3)
  | all bs =>
    match bs with
    | [] | [_] | _ :: _ :: _ :: _ => exact Nat.zero_le _
    | [p, q] => show (if (p.2 && q.2) = true then [andV [p.1, q.1] b] else mixV p q b).length ≤ 3; split <;> simp [mixV]
theorem tellsL_len : ∀ (i : Nat) (ks : List Key), (tellsL i ks).length ≤ 3 * ks.length
  | _, [] => Nat.le_refl _
  | i, k :: ks => by have := tellsL_len (i + 1) ks; have := tellsK_len (i : Int) k; simp only [tellsL_c, List.length_append, List.length_cons]; omega
theorem varsL_snoc (k : Key) : ∀ (i : Nat) (ks : List Key), varsL i (ks ++ [k]) = varsL i ks ++ [.tup [nameV (i + ks.length), TR]]
  | i, [] => rfl
  | i, _ :: ks => by simp [varsL_c, varsL_n, varsL_snoc k (i + 1) ks]; congr 1; omega
theorem madeL_snoc (k : Key) : ∀ (i : Nat) (ks : List Key), madeL i (ks ++ [k]) = madeL i ks ++ [(k, ((i + ks.length : Nat) : Int))]
  | i, [] => rfl
  | i, _ :: ks => by simp [madeL_c, madeL_n, madeL_snoc k (i + 1) ks]; omega
theorem tellsL_snoc (k : Key) : ∀ (i : Nat) (ks : List Key), tellsL i (ks ++ [k]) = tellsL i ks ++ tellsK ((i + ks.length : Nat) : Int) k
  | i, [] => List.append_nil _
  | i, _ :: ks => by
    simp only [List.cons_append, tellsL_c, tellsL_snoc k (i + 1) ks, List.append_assoc, List.length_cons]
    rw [show i + 1 + ks.length = i + (ks.length + 1) by omega]
theorem getM_L (k : Key) : ∀ (i : Nat) (ks : List Key), getM (madeL i ks) k = if k ∈ ks then some ((i + ks.idxOf k : Nat) : Int) else none
  | i, [] => rfl
  | i, k' :: ks => by
    have ih := getM_L k (i + 1) ks
    unfold getM at ih ⊢
    by_cases h : k' = k
    · subst h; simp [madeL_c, madeL_n]
    · have h' : k ≠ k' := fun e => h e.symm
      have hb : (k' == k) = false := by simpa using h
      rw [madeL_c, List.find?_cons_of_neg (by simp [h]), ih]
      by_cases hm : k ∈ ks
      · rw [if_pos hm, if_pos (List.mem_cons_of_mem _ hm), List.idxOf_cons, hb]
        simp only [cond_false]
        congr 2; omega
      · rw [if_neg hm, if_neg (by simp [h', hm])]
theorem put_st {V0 : List V} (h0 : V0.length = 3) (ks : List Key) (k : Key) : (stG V0 ks).put k (fun b => tellsK b k) = (stG V0 (addK ks k), idxK ks k) := by
  unfold G.put
  rw [show getM (stG V0 ks).made k = _ from getM_L k 3 ks]
  unfold addK idxK
  by_cases h : k ∈ ks
  · rw [if_pos h, if_pos h]
  · rw [if_neg h, if_neg h]
    have hv : (stG V0 ks).vars.length = 3 + ks.length := by simp [stG, varsL_len, h0]
    dsimp only
    rw [hv, List.idxOf_eq_length h]
    have hv' : (V0 ++ varsL 3 ks).length = 3 + ks.length := hv
    simp only [G.add, stG, varsL_snoc, madeL_snoc, tellsL_snoc, List.append_assoc, hv']
noncomputable def tellK (D : Int → List (Int × Int)) (ks : List Key) (r : Row) : Tv × List Key :=
  if isDirect D r then (.bit (r.xs.headD 0) (!r.le && r.c == 1), ks) else (.bit (idxK ks (.reif r)) true, addK ks (.reif r))
noncomputable def truthK (D : Int → List (Int × Int)) (le : Bool) (e : Lin) (ks : List Key) : Tv × List Key := match rowZ D le e with
  | .inl b => (.tt b, ks)
  | .inr r => if r.co.headD 0 < 0 then (if r.le then ((tellK D ks ⟨true, r.co.map (- ·), r.xs, -r.c - 1⟩).1.not, (tellK D ks ⟨true, r.co.map (- ·), r.xs, -r.c - 1⟩).2) else tellK D ks ⟨false, r.co.map (- ·), r.xs, -r.c⟩)
    else tellK D ks r
noncomputable def pairK (p q : Int × Bool) (ks : List Key) : Tv × List Key :=
  if p.2 = false ∧ q.2 = false then (.bit (idxK ks (.or [p.1, q.1])) false, addK ks (.or [p.1, q.1])) else (.bit (idxK ks (.all [p, q])) true, addK ks (.all [p, q]))
noncomputable def allL (ts : List Tv) (ks : List Key) : Tv × List Key := match allK ts with
  | none => (.tt false, ks)
  | some [] => (.tt true, ks)
  | some [p] => (.bit p.1 p.2, ks)
  | some (p :: q :: _) => if p.1 < q.1 then pairK p q ks else pairK q p ks
noncomputable def anyL (ts : List Tv) (ks : List Key) : Tv × List Key := ((allL (ts.map Tv.not) ks).1.not, (allL (ts.map Tv.not) ks).2)
section
variable {V0 : List V} (h0 : V0.length = 3) {D : Int → List (Int × Int)} {ks : List Key}
include h0
theorem tell_st (r : Row) : tellZ D (stG V0 ks) r = ((tellK D ks r).1, stG V0 (tellK D ks r).2) := by
  unfold tellZ tellK
  split
  · rfl
  · rw [show (fun b => [reifV b r]) = fun b => tellsK b (.reif r) from rfl, put_st h0 ks (.reif r)]
theorem truth_st (le : Bool) (e : Lin) : truthZ D (stG V0 ks) le e = ((truthK D le e ks).1, stG V0 (truthK D le e ks).2) := by
  unfold truthZ truthK
  cases rowZ D le e with
  | inl b => rfl
  | inr r =>
    dsimp only
    split
    · split
      · rw [tell_st h0]
      · rw [tell_st h0]
    · rw [tell_st h0]
theorem pair_st (p q : Int × Bool) : pairZ (stG V0 ks) p q = ((pairK p q ks).1, stG V0 (pairK p q ks).2) := by
  unfold pairZ pairK
  split
  · rw [show (fun b => [orV [p.1, q.1] b]) = fun b => tellsK b (.or [p.1, q.1]) from rfl, put_st h0 ks (.or [p.1, q.1])]
  · rw [show (fun b => if (p.2 && q.2) = true then [andV [p.1, q.1] b] else mixV p q b) = fun b => tellsK b (.all [p, q]) from rfl, put_st h0 ks (.all [p, q])]
theorem all_st (ts : List Tv) : allZ (stG V0 ks) ts = ((allL ts ks).1, stG V0 (allL ts ks).2) := by
  unfold allZ allL
  cases allK ts with
  | none => rfl
  | some l =>
    match l with
    | [] => rfl
    | [p] => rfl
    | p :: q :: r => dsimp only; split <;> rw [pair_st h0]
theorem any_st (ts : List Tv) : anyZ (stG V0 ks) ts = ((anyL ts ks).1, stG V0 (anyL ts ks).2) := by
  unfold anyZ anyL
  rw [all_st h0]
end
end
section
noncomputable def itT (k : Bool) : String := if k then "list_iterator" else "tuple_iterator"
noncomputable def sqT (k : Bool) : String := if k then "list" else "tuple"
noncomputable def ItAt (h : Heap) (k : Bool) (it src : Addr) (j : Nat) : Prop := ∃ o, h.get? it = some o ∧ atIt (itT k) src j o
noncomputable def SqAt (h : Heap) (k : Bool) (a : Addr) (xs : Array Value) : Prop := ∃ o n, h.get? a = some o ∧ o.cls = .type (sqT k) ∧ o.data = .seq xs n
theorem ItAt.keep {h h' : Heap} {k : Bool} {it src : Addr} {j : Nat} (x : ItAt h k it src j) (hk : ∀ o, h.get? it = some o → h'.get? it = some o) : ItAt h' k it src j := let ⟨o, a, b⟩ := x; ⟨o, hk o a, b⟩
theorem SqAt.keep {h h' : Heap} {k : Bool} {a : Addr} {xs : Array Value} (x : SqAt h k a xs) (hk : ∀ o, h.get? a = some o → h'.get? a = some o) : SqAt h' k a xs := let ⟨o, n, e, b⟩ := x; ⟨o, n, hk o e, b⟩
section
variable {prog : Program} {w : World} {A : Around} {E : Value → Shared → Prop} {s : Shared}
theorem nextOf_item {k : Bool} {it src : Addr} {j : Nat} {xs : Array Value} {x : Value} {Q : Value → Shared → Prop} (hit : ItAt s.heap k it src j) (hs : SqAt s.heap k src xs) (hx : xs[j]? = some x)
    (hQ : ∀ h', ItAt h' k it src (j + 1) → Heap.SameBut it s.heap h' → Q x { s with heap := h' }) : wpAny (model prog w) A (Builtin.SmallTypes.nextOf (.ref it)) Q E s := by
  cases k with
  | true =>
    obtain ⟨o, n, e, c, d⟩ := hs
    exact wpAny_nextOf_list_item hit ⟨o, e, c, n, d⟩ hx hQ
  | false =>
    obtain ⟨o, ho, hc, hd⟩ := id hit
    obtain ⟨ol, nl, hol, _, hdl⟩ := hs
    have hty : s.TypeIs (.ref it) "tuple_iterator" := ⟨o, ho, hc⟩
    unfold Builtin.SmallTypes.nextOf
    refine wpAny_bind (wpAny_callSpecial?_slot (name := Str.ofString "__next__") hty PySem.F.slot_tuple_iterator_next
      (wpAny_call_entry PySem.F.slot_tuple_iterator_next hty PySem.F.entry_tuple_iterator_next ?_ (PySem.F.args_tuple_iterator_next_1 _)))
    show wpAny _ _ (field (.ref it) 0 >>= _) _ _ s
    refine wpAny_bind (wpAny_field ho hd (x := .ref src) rfl ?_)
    show wpAny _ _ (if (Value.ref src == Value.none) = true then _ else _) _ _ s
    rw [if_neg (show ¬ ((Value.ref src == Value.none) = true) from Bool.false_ne_true)]
    show wpAny _ _ (field (.ref it) 1 >>= _) _ _ s
    refine wpAny_bind (wpAny_field ho hd (x := .int j 0) rfl ?_)
    show wpAny _ _ (seqItems? (.ref src) >>= _) _ _ s
    refine wpAny_bind (wpAny_seqItems hol hdl ?_)
    simp only [Int.toNat_natCast, hx]
    refine wpAny_bind (wpAny_setField ho hd (by simp) (wpAny_pure ⟨x, rfl, wpAny_pure (hQ _ ?_ (Heap.SameBut.update ..))⟩))
    exact ⟨_, Heap.get?_update_self _ ho (Obj.isFreed_of_fields (Obj.data_mapFields hd _)), (Obj.cls_mapFields ..).trans hc, by
      rw [Obj.data_mapFields hd]; simp [rawInt]⟩
theorem nextOf_end {k : Bool} {it src : Addr} {j : Nat} {xs : Array Value} {Q : Value → Shared → Prop} (hh : A.handled = none) (hit : ItAt s.heap k it src j) (hs : SqAt s.heap k src xs) (hx : xs[j]? = none)
    (hE : ∀ h' e, Heap.ExtBut it s.heap h' → (∃ o, h'.get? e = some o ∧ o.cls = .type "StopIteration") → E (.ref e) { s with heap := h' }) : wpAny (model prog w) A (Builtin.SmallTypes.nextOf (.ref it)) Q E s := by
  cases k with
  | true =>
    obtain ⟨o, n, e, c, d⟩ := hs
    exact wpAny_nextOf_list_end hh hit ⟨o, e, c, n, d⟩ hx hE
  | false =>
    obtain ⟨o, ho, hc, hd⟩ := id hit
    obtain ⟨ol, nl, hol, _, hdl⟩ := hs
    have hty : s.TypeIs (.ref it) "tuple_iterator" := ⟨o, ho, hc⟩
    unfold Builtin.SmallTypes.nextOf
    refine wpAny_bind (wpAny_callSpecial?_slot (name := Str.ofString "__next__") hty PySem.F.slot_tuple_iterator_next
      (wpAny_call_entry PySem.F.slot_tuple_iterator_next hty PySem.F.entry_tuple_iterator_next ?_ (PySem.F.args_tuple_iterator_next_1 _)))
    show wpAny _ _ (field (.ref it) 0 >>= _) _ _ s
    refine wpAny_bind (wpAny_field ho hd (x := .ref src) rfl ?_)
    show wpAny _ _ (if (Value.ref src == Value.none) = true then _ else _) _ _ s
    rw [if_neg (show ¬ ((Value.ref src == Value.none) = true) from Bool.false_ne_true)]
    show wpAny _ _ (field (.ref it) 1 >>= _) _ _ s
    refine wpAny_bind (wpAny_field ho hd (x := .int j 0) rfl ?_)
    show wpAny _ _ (seqItems? (.ref src) >>= _) _ _ s
    refine wpAny_bind (wpAny_seqItems hol hdl ?_)
    simp only [Int.toNat_natCast, hx]
    refine wpAny_bind (wpAny_rule (wpAny_bind (wpAny_setField ho hd (by simp) ?_)))
    show wpAny _ _ (newExc (.type "StopIteration") [] >>= _) _ _ _
    refine wpAny_bind ?_
    simp only [newExc, newTuple]
    refine wpAny_bind (wpAny_newObj_type ?_ (by size_fits))
    refine wpAny_bind (m := firstArgMember _ _) (wpAny_of_eq (a := Value.none) (by first | rfl | (simp only [firstArgMember]; rfl)) ?_)
    refine wpAny_newObj_type ?_ (by size_fits)
    refine wpAny_raiseNew_none (by simp [hh]) ?_
    exact hE _ _ (((Heap.SameBut.update ..).extBut.push _).push _) ⟨_, Heap.get?_push_size _ rfl, rfl⟩
noncomputable def zipO (f0 f1 : Value) (TI TO : Addr) : Obj := { cls := .type "zip", dict := none, data := .fields #[f0, f1, .bool false, .ref TI, .ref TO], slots := #[] }
noncomputable def pairO (a b : Value) : Obj := { cls := .type "tuple", data := .seq #[a, b] }
noncomputable def OkF (f0 : Value) : Prop := f0 = .none ∨ ∃ T : Nat, f0 = .int T 0
structure ZAp (z TI TO i1 i2 l1 l2 : Addr) : Prop where
  nd : [z, TO, i1, i2].Nodup
  TI : TI ∉ [z, TO, i1, i2]
  l1 : l1 ∉ [z, TO, i1, i2]
  l2 : l2 ∉ [z, TO, i1, i2]
theorem wpAny_loadIfAlive {M : Model} {a : Addr} {Q : Option Obj → Shared → Prop} (h : Q (s.heap.get? a) s) : wpAny M A (loadIfAlive a) Q E s := fun Γ p _ => by
  show Sem.wp M Γ (.loadIfAlive a .pure) _ _ p s
  rw [Sem.wp_loadIfAlive]; exact h
theorem zip_free {z TI TO : Addr} {f0 f1 : Value} {Q : Bool → Shared → Prop} (hz : s.heap.get? z = some (zipO f0 f1 TI TO)) (hf : OkF f0)
    (hQ : ∀ b h' f1', h'.get? z = some (zipO f0 f1' TI TO) → Heap.SameBut z s.heap h' → Q b { s with heap := h' }) : wpAny (model prog w) A (Builtin.SmallTypes.ownedTupleIsFree (.ref z)) Q E s := by
  unfold Builtin.SmallTypes.ownedTupleIsFree
  rcases hf with rfl | ⟨T, rfl⟩
  · exact wpAny_bind (wpAny_field hz rfl (x := .none) rfl (wpAny_pure (hQ true s.heap f1 hz (Heap.SameBut.refl ..))))
  · refine wpAny_bind (wpAny_field hz rfl (x := .int T 0) rfl ?_)
    dsimp only
    refine wpAny_bind (wpAny_loadIfAlive ?_)
    cases s.heap.get? (T : Int).toNat with
    | none => exact wpAny_pure (hQ true s.heap f1 hz (Heap.SameBut.refl ..))
    | some o =>
      rw [if_neg (by simp)]
      refine wpAny_bind (wpAny_field hz rfl (x := f1) rfl ?_)
      by_cases hb : (f1 != .bool true) = true
      · rw [if_pos hb]
        exact wpAny_bind (wpAny_setField_rec hz (by show 1 < 5; decide) fun h' hz' hs => wpAny_pure (hQ false h' (.bool true) hz' hs))
      · rw [if_neg hb]
        exact wpAny_pure (hQ false s.heap f1 hz (Heap.SameBut.refl ..))
theorem updPair {T : Addr} {a b x : Value} {k : Nat} {Q : Unit → Shared → Prop} (hT : s.heap.get? T = some (pairO a b))
    (h : ∀ h', h'.get? T = some { cls := .type "tuple", data := .seq ((#[a, b] : Array Value).setIfInBounds k x) } → Heap.SameBut T s.heap h' → Q () { s with heap := h' }) :
    wpAny (model prog w) A (updateSeq T (·.setIfInBounds k x)) Q E s := wpAny_updateSeq_pair hT h
theorem zip_item {z TI TO i1 i2 l1 l2 : Addr} {k1 k2 : Bool} {j : Nat} {xs ys : Array Value} {x y f0 f1 : Value} {Q : Value → Shared → Prop} (D : ZAp z TI TO i1 i2 l1 l2)
    (hz : s.heap.get? z = some (zipO f0 f1 TI TO)) (hf : OkF f0) (hTI : s.heap.get? TI = some (pairO (.ref i1) (.ref i2))) (hTO : ∃ a b, s.heap.get? TO = some (pairO a b))
    (h1 : ItAt s.heap k1 i1 l1 j) (h2 : ItAt s.heap k2 i2 l2 j) (s1 : SqAt s.heap k1 l1 xs) (s2 : SqAt s.heap k2 l2 ys) (hx : xs[j]? = some x) (hy : ys[j]? = some y)
    (hQ : ∀ h' T f0' f1', h'.get? z = some (zipO f0' f1' TI TO) → OkF f0' → (∃ a b, h'.get? TO = some (pairO a b)) → ItAt h' k1 i1 l1 (j + 1) → ItAt h' k2 i2 l2 (j + 1) → h'.get? T = some (pairO x y) → s.heap.get? T = none →
      (∀ c o, c ∉ [z, TO, i1, i2] → s.heap.get? c = some o → h'.get? c = some o) → Q (.ref T) { s with heap := h' }) :
    wpAny (model prog w) A (Builtin.«zip.__next__» ⟨[.ref z], []⟩) (fun fin s' => ∃ v, fin = .done (.ret v) ∧ Q v s') E s := by
  have nd := D.nd
  simp only [List.nodup_cons, List.mem_cons, List.not_mem_nil, or_false, not_or, not_false_eq_true, List.nodup_nil, and_true] at nd
  obtain ⟨⟨zTO, zi1, zi2⟩, ⟨TOi1, TOi2⟩, i12⟩ := nd
  have dTI := D.TI; have d1 := D.l1; have d2 := D.l2
  simp only [List.mem_cons, List.not_mem_nil, or_false, not_or] at dTI d1 d2
  obtain ⟨TIz, TITO, TIi1, TIi2⟩ := dTI
  obtain ⟨l1z, l1TO, l1i1, l1i2⟩ := d1
  obtain ⟨l2z, l2TO, l2i1, l2i2⟩ := d2
  show wpAny _ _ (field (.ref z) 2 >>= _) _ _ _
  refine wpAny_bind (wpAny_field hz rfl (x := .bool false) rfl ?_)
  show wpAny _ _ (field (.ref z) 3 >>= _) _ _ _
  refine wpAny_bind (wpAny_field hz rfl (x := .ref TI) rfl ?_)
  refine wpAny_bind (wpAny_seqItems hTI rfl ?_)
  show wpAny _ _ (Builtin.SmallTypes.ownedTupleIsFree (.ref z) >>= _) _ _ _
  refine wpAny_bind (zip_free hz hf fun b h₀ f1' hz₀ hs₀ => ?_)
  obtain ⟨a, b', hTO⟩ := hTO
  have hTO₀ : h₀.get? TO = some (pairO a b') := hs₀.extBut _ _ (Ne.symm zTO) hTO
  have h1₀ := h1.keep fun o e => hs₀.extBut i1 o (Ne.symm zi1) e
  have h2₀ := h2.keep fun o e => hs₀.extBut i2 o (Ne.symm zi2) e
  have s1₀ := s1.keep fun o e => hs₀.extBut l1 o l1z e
  have s2₀ := s2.keep fun o e => hs₀.extBut l2 o l2z e
  cases b with
  | true =>
    rw [if_pos rfl]
    refine wpAny_bind (wpAny_rule ?_)
    refine wpAny_bind (wpAny_field hz₀ rfl (x := .ref TO) rfl ?_)
    refine wpAny_bind (wpAny_setField_rec hz₀ (by show 0 < 5; decide) fun h₁ hz₁ hs₁ => ?_)
    replace hz₁ : h₁.get? z = some (zipO .ellipsis f1' TI TO) := hz₁
    refine wpAny_bind ?_
    simp only [List.zipIdx_cons, List.zipIdx_nil, List.forIn_cons, List.forIn_nil]
    refine wpAny_bind (wpAny_bind (wpAny_onRaise ?_))
    show wpAny _ _ (Builtin.SmallTypes.nextOf (.ref i1) >>= _) _ _ _
    refine wpAny_bind (nextOf_item (h1₀.keep fun o e => hs₁.extBut i1 o (Ne.symm zi1) e) (s1₀.keep fun o e => hs₁.extBut l1 o l1z e) hx fun h₂ h1₂ hs₂ => wpAny_pure ?_)
    have hTO₂ : h₂.get? TO = some (pairO a b') := hs₂.extBut _ _ TOi1 (hs₁.extBut _ _ (Ne.symm zTO) hTO₀)
    refine wpAny_bind (wpAny_seqItems hTO₂ rfl ?_)
    refine wpAny_bind (updPair hTO₂ fun h₃ hTO₃ hs₃ => ?_)
    replace hTO₃ : h₃.get? TO = some (pairO x b') := hTO₃
    refine wpAny_bind (wpAny_letGo (wpAny_pure ?_))
    refine wpAny_bind (wpAny_bind (wpAny_onRaise ?_))
    show wpAny _ _ (Builtin.SmallTypes.nextOf (.ref i2) >>= _) _ _ _
    refine wpAny_bind (nextOf_item (h2₀.keep fun o e => hs₃.extBut i2 o (Ne.symm TOi2) (hs₂.extBut i2 o (Ne.symm i12) (hs₁.extBut i2 o (Ne.symm zi2) e))) (s2₀.keep fun o e => hs₃.extBut l2 o l2TO (hs₂.extBut l2 o l2i1 (hs₁.extBut l2 o l2z e))) hy fun h₄ h2₄ hs₄ => wpAny_pure ?_)
    have hTO₄ : h₄.get? TO = some (pairO x b') := hs₄.extBut _ _ TOi2 hTO₃
    refine wpAny_bind (wpAny_seqItems hTO₄ rfl ?_)
    refine wpAny_bind (updPair hTO₄ fun h₅ hTO₅ hs₅ => ?_)
    replace hTO₅ : h₅.get? TO = some (pairO x y) := hTO₅
    refine wpAny_bind (wpAny_letGo (wpAny_pure (wpAny_pure ?_)))
    refine wpAny_bind (wpAny_seqItems hTO₅ rfl ?_)
    refine wpAny_bind (wpAny_newTuple ?_)
    have hsz : h₅.objs.size = s.heap.objs.size := by rw [hs₅.1, hs₄.1, hs₃.1, hs₂.1, hs₁.1, hs₀.1]
    have hz₅ : h₅.get? z = some (zipO .ellipsis f1' TI TO) := hs₅.extBut _ _ zTO (hs₄.extBut _ _ zi2 (hs₃.extBut _ _ zTO (hs₂.extBut _ _ zi1 hz₁)))
    have hk₅ : ∀ c o, c ∉ [z, TO, i1, i2] → s.heap.get? c = some o → h₅.get? c = some o := fun c o n e => by
      simp only [List.mem_cons, List.not_mem_nil, or_false, not_or] at n
      exact hs₅.extBut _ _ n.2.1 (hs₄.extBut _ _ n.2.2.2 (hs₃.extBut _ _ n.2.1 (hs₂.extBut _ _ n.2.2.1 (hs₁.extBut _ _ n.1 (hs₀.extBut _ _ n.1 e)))))
    have h1₅ := h1₂.keep fun o e => hs₅.extBut i1 o (Ne.symm TOi1) (hs₄.extBut i1 o i12 (hs₃.extBut i1 o (Ne.symm TOi1) e))
    have h2₅ := h2₄.keep fun o e => hs₅.extBut i2 o (Ne.symm TOi2) e
    have hzlt : z < h₅.objs.size := Heap.lt_size hz₅
    show wpAny _ _ (Builtin.SmallTypes.ownedTupleHandOut (.ref z) (.ref h₅.objs.size) >>= _) _ _ _
    refine wpAny_bind ?_
    unfold Builtin.SmallTypes.ownedTupleHandOut
    have hz₆ : (h₅.push { cls := .type "tuple", data := .seq (#[x, y] : Array Value).toList.toArray }).get? z = some (zipO .ellipsis f1' TI TO) := Heap.get?_push_of_some _ hz₅
    refine wpAny_bind (wpAny_setField_rec hz₆ (by show 0 < 5; decide) fun h₇ hz₇ hs₇ => ?_)
    replace hz₇ : h₇.get? z = some (zipO (rawInt h₅.objs.size) f1' TI TO) := hz₇
    refine wpAny_setField_rec hz₇ (by show 1 < 5; decide) fun h₈ hz₈ hs₈ => ?_
    replace hz₈ : h₈.get? z = some (zipO (rawInt h₅.objs.size) (.bool false) TI TO) := hz₈
    have up : ∀ c o, c ≠ z → h₅.get? c = some o → h₈.get? c = some o := fun c o c1 e => hs₈.extBut _ _ c1 (hs₇.extBut _ _ c1 (Heap.get?_push_of_some _ e))
    have hT₈ : h₈.get? h₅.objs.size = some (pairO x y) := hs₈.extBut _ _ (Nat.ne_of_gt hzlt) (hs₇.extBut _ _ (Nat.ne_of_gt hzlt) (Heap.get?_push_size _ rfl))
    refine wpAny_pure ⟨_, rfl, hQ h₈ h₅.objs.size _ _ hz₈ (.inr ⟨_, rfl⟩) ⟨x, y, up _ _ (Ne.symm zTO) hTO₅⟩ (h1₅.keep fun o e => up _ o (Ne.symm zi1) e) (h2₅.keep fun o e => up _ o (Ne.symm zi2) e) hT₈ (Heap.get?_none_of_le (by rw [hsz]; exact Nat.le_refl _)) fun c o n e => up c o (fun q => n (by simp [q])) (hk₅ c o n e)⟩
  | false =>
    rw [if_neg (by simp)]
    dsimp only
    refine wpAny_bind ?_
    rw [← Array.forIn_toList]
    show wpAny _ _ (forIn [Value.ref i1, .ref i2] _ _) _ _ _
    simp only [List.forIn_cons, List.forIn_nil]
    refine wpAny_bind (wpAny_bind (wpAny_holding ?_))
    show wpAny _ _ (Builtin.SmallTypes.nextOf (.ref i1) >>= _) _ _ _
    refine wpAny_bind (nextOf_item h1₀ s1₀ hx fun h₂ h1₂ hs₂ => wpAny_pure (wpAny_pure ?_))
    refine wpAny_bind (wpAny_bind (wpAny_holding ?_))
    show wpAny _ _ (Builtin.SmallTypes.nextOf (.ref i2) >>= _) _ _ _
    refine wpAny_bind (nextOf_item (h2₀.keep fun o e => hs₂.extBut i2 o (Ne.symm i12) e) (s2₀.keep fun o e => hs₂.extBut l2 o l2i1 e) hy fun h₄ h2₄ hs₄ => wpAny_pure (wpAny_pure (wpAny_pure ?_)))
    refine wpAny_bind (wpAny_newTuple ?_ (by show 2 ≤ _; rw [sizeLine_eq]; decide))
    have hsz : h₄.objs.size = s.heap.objs.size := by rw [hs₄.1, hs₂.1, hs₀.1]
    have up : ∀ c o, h₄.get? c = some o → (h₄.push (pairO x y)).get? c = some o := fun c o e => Heap.get?_push_of_some _ e
    have hz₄ : h₄.get? z = some (zipO f0 f1' TI TO) := hs₄.extBut _ _ zi2 (hs₂.extBut _ _ zi1 hz₀)
    refine wpAny_pure ⟨_, rfl, hQ _ h₄.objs.size f0 f1' (up _ _ hz₄) hf ⟨a, b', up _ _ (hs₄.extBut _ _ TOi2 (hs₂.extBut _ _ TOi1 hTO₀))⟩ (h1₂.keep fun o e => up _ o (hs₄.extBut i1 o i12 e)) (h2₄.keep fun o e => up _ o e) (Heap.get?_push_size _ rfl) (Heap.get?_none_of_le (by rw [hsz]; exact Nat.le_refl _)) fun c o n e => ?_⟩
    simp only [List.mem_cons, List.not_mem_nil, or_false, not_or] at n
    exact up c o (hs₄.extBut _ _ n.2.2.2 (hs₂.extBut _ _ n.2.2.1 (hs₀.extBut _ _ n.1 e)))
theorem zip_end {z TI TO i1 i2 l1 l2 : Addr} {k1 k2 : Bool} {j : Nat} {xs ys : Array Value} {f0 f1 : Value} {Q : PySem.Fin → Shared → Prop} (hh : A.handled = none) (D : ZAp z TI TO i1 i2 l1 l2)
    (hz : s.heap.get? z = some (zipO f0 f1 TI TO)) (hf : OkF f0) (hTI : s.heap.get? TI = some (pairO (.ref i1) (.ref i2))) (hTO : ∃ a b, s.heap.get? TO = some (pairO a b))
    (h1 : ItAt s.heap k1 i1 l1 j) (h2 : ItAt s.heap k2 i2 l2 j) (s1 : SqAt s.heap k1 l1 xs) (s2 : SqAt s.heap k2 l2 ys) (hend : xs[j]? = none ∨ ys[j]? = none)
    (hE : ∀ h' e, (∀ c o, c ∉ [z, TO, i1, i2] → s.heap.get? c = some o → h'.get? c = some o) → (∃ o, h'.get? e = some o ∧ o.cls = .type "StopIteration") → E (.ref e) { s with heap := h' }) :
    wpAny (model prog w) A (Builtin.«zip.__next__» ⟨[.ref z], []⟩) Q E s := by
  have nd := D.nd
  simp only [List.nodup_cons, List.mem_cons, List.not_mem_nil, or_false, not_or, not_false_eq_true, List.nodup_nil, and_true] at nd
  obtain ⟨⟨zTO, zi1, zi2⟩, ⟨TOi1, TOi2⟩, i12⟩ := nd
  have dTI := D.TI; have d1 := D.l1; have d2 := D.l2
  simp only [List.mem_cons, List.not_mem_nil, or_false, not_or] at dTI d1 d2
  obtain ⟨TIz, TITO, TIi1, TIi2⟩ := dTI
  obtain ⟨l1z, l1TO, l1i1, l1i2⟩ := d1
  obtain ⟨l2z, l2TO, l2i1, l2i2⟩ := d2
  show wpAny _ _ (field (.ref z) 2 >>= _) _ _ _
  refine wpAny_bind (wpAny_field hz rfl (x := .bool false) rfl ?_)
  show wpAny _ _ (field (.ref z) 3 >>= _) _ _ _
  refine wpAny_bind (wpAny_field hz rfl (x := .ref TI) rfl ?_)
  refine wpAny_bind (wpAny_seqItems hTI rfl ?_)
  show wpAny _ _ (Builtin.SmallTypes.ownedTupleIsFree (.ref z) >>= _) _ _ _
  refine wpAny_bind (zip_free hz hf fun b h₀ f1' hz₀ hs₀ => ?_)
  obtain ⟨a, b', hTO⟩ := hTO
  have hTO₀ : h₀.get? TO = some (pairO a b') := hs₀.extBut _ _ (Ne.symm zTO) hTO
  have h1₀ := h1.keep fun o e => hs₀.extBut i1 o (Ne.symm zi1) e
  have h2₀ := h2.keep fun o e => hs₀.extBut i2 o (Ne.symm zi2) e
  have s1₀ := s1.keep fun o e => hs₀.extBut l1 o l1z e
  have s2₀ := s2.keep fun o e => hs₀.extBut l2 o l2z e
  cases b with
  | true =>
    rw [if_pos rfl]
    refine wpAny_bind (wpAny_rule ?_)
    refine wpAny_bind (wpAny_field hz₀ rfl (x := .ref TO) rfl ?_)
    refine wpAny_bind (wpAny_setField_rec hz₀ (by show 0 < 5; decide) fun h₁ hz₁ hs₁ => ?_)
    replace hz₁ : h₁.get? z = some (zipO .ellipsis f1' TI TO) := hz₁
    refine wpAny_bind ?_
    simp only [List.zipIdx_cons, List.zipIdx_nil, List.forIn_cons, List.forIn_nil]
    refine wpAny_bind (wpAny_bind (wpAny_onRaise ?_))
    show wpAny _ _ (Builtin.SmallTypes.nextOf (.ref i1) >>= _) _ _ _
    have h1₁ := h1₀.keep fun o e => hs₁.extBut i1 o (Ne.symm zi1) e
    have s1₁ := s1₀.keep fun o e => hs₁.extBut l1 o l1z e
    cases hx : xs[j]? with
    | none =>
      refine wpAny_bind (nextOf_end hh h1₁ s1₁ hx fun h₂ e hs₂ he => ?_)
      obtain ⟨oe, hoe, hce⟩ := he
      have hz₂ : h₂.get? z = some (zipO .ellipsis f1' TI TO) := hs₂ _ _ zi1 hz₁
      have hez : e ≠ z := fun x => by subst x; rw [hz₂] at hoe; cases hoe; simp [zipO] at hce
      refine wpAny_setField_rec hz₂ (by show 0 < 5; decide) fun h₃ _ hs₃ => hE h₃ e (fun c o n x => ?_) ⟨oe, hs₃.extBut _ _ hez hoe, hce⟩
      simp only [List.mem_cons, List.not_mem_nil, or_false, not_or] at n
      exact hs₃.extBut _ _ n.1 (hs₂ _ _ n.2.2.1 (hs₁.extBut _ _ n.1 (hs₀.extBut _ _ n.1 x)))
    | some x =>
      have hy : ys[j]? = none := by rcases hend with h | h; rw [hx] at h; cases h; exact h
      refine wpAny_bind (nextOf_item h1₁ s1₁ hx fun h₂ h1₂ hs₂ => wpAny_pure ?_)
      have hTO₂ : h₂.get? TO = some (pairO a b') := hs₂.extBut _ _ TOi1 (hs₁.extBut _ _ (Ne.symm zTO) hTO₀)
      refine wpAny_bind (wpAny_seqItems hTO₂ rfl ?_)
      refine wpAny_bind (updPair hTO₂ fun h₃ hTO₃ hs₃ => ?_)
      refine wpAny_bind (wpAny_letGo (wpAny_pure ?_))
      refine wpAny_bind (wpAny_bind (wpAny_onRaise ?_))
      show wpAny _ _ (Builtin.SmallTypes.nextOf (.ref i2) >>= _) _ _ _
      refine wpAny_bind (nextOf_end hh (h2₀.keep fun o e => hs₃.extBut i2 o (Ne.symm TOi2) (hs₂.extBut i2 o (Ne.symm i12) (hs₁.extBut i2 o (Ne.symm zi2) e))) (s2₀.keep fun o e => hs₃.extBut l2 o l2TO (hs₂.extBut l2 o l2i1 (hs₁.extBut l2 o l2z e))) hy fun h₄ e hs₄ he => ?_)
      obtain ⟨oe, hoe, hce⟩ := he
      have hz₄ : h₄.get? z = some (zipO .ellipsis f1' TI TO) := hs₄ _ _ zi2 (hs₃.extBut _ _ zTO (hs₂.extBut _ _ zi1 hz₁))
      have hez : e ≠ z := fun x => by subst x; rw [hz₄] at hoe; cases hoe; simp [zipO] at hce
      refine wpAny_setField_rec hz₄ (by show 0 < 5; decide) fun h₅ _ hs₅ => hE h₅ e (fun c o n x => ?_) ⟨oe, hs₅.extBut _ _ hez hoe, hce⟩
      simp only [List.mem_cons, List.not_mem_nil, or_false, not_or] at n
      exact hs₅.extBut _ _ n.1 (hs₄ _ _ n.2.2.2 (hs₃.extBut _ _ n.2.1 (hs₂.extBut _ _ n.2.2.1 (hs₁.extBut _ _ n.1 (hs₀.extBut _ _ n.1 x)))))
  | false =>
    rw [if_neg (by simp)]
    dsimp only
    refine wpAny_bind ?_
    rw [← Array.forIn_toList]
    show wpAny _ _ (forIn [Value.ref i1, .ref i2] _ _) _ _ _
    simp only [List.forIn_cons, List.forIn_nil]
    refine wpAny_bind (wpAny_bind (wpAny_holding ?_))
    show wpAny _ _ (Builtin.SmallTypes.nextOf (.ref i1) >>= _) _ _ _
    cases hx : xs[j]? with
    | none =>
      refine wpAny_bind (nextOf_end hh h1₀ s1₀ hx fun h₂ e hs₂ he => hE h₂ e (fun c o n x => ?_) he)
      simp only [List.mem_cons, List.not_mem_nil, or_false, not_or] at n
      exact hs₂ _ _ n.2.2.1 (hs₀.extBut _ _ n.1 x)
    | some x =>
      have hy : ys[j]? = none := by rcases hend with h | h; rw [hx] at h; cases h; exact h
      refine wpAny_bind (nextOf_item h1₀ s1₀ hx fun h₂ h1₂ hs₂ => wpAny_pure (wpAny_pure ?_))
      refine wpAny_bind (wpAny_bind (wpAny_holding ?_))
      show wpAny _ _ (Builtin.SmallTypes.nextOf (.ref i2) >>= _) _ _ _
      refine wpAny_bind (nextOf_end hh (h2₀.keep fun o e => hs₂.extBut i2 o (Ne.symm i12) e) (s2₀.keep fun o e => hs₂.extBut l2 o l2i1 e) hy fun h₄ e hs₄ he => hE h₄ e (fun c o n x => ?_) he)
      simp only [List.mem_cons, List.not_mem_nil, or_false, not_or] at n
      exact hs₄ _ _ n.2.2.2 (hs₂.extBut _ _ n.2.2.1 (hs₀.extBut _ _ n.1 x))
end
end
section
noncomputable def sqV (k : Bool) (l : List V) : V := if k then .lst l else .tup l
structure ZA where
  (z TO TI i2 i1 l1 l2 : Addr)
noncomputable def zP (TI TO : Addr) (o : Obj) : Prop := ∃ f0 f1, o = zipO f0 f1 TI TO ∧ OkF f0
noncomputable def pP (o : Obj) : Prop := ∃ a b, o = pairO a b
noncomputable def zfront (a : ZA) (k1 k2 : Bool) (j : Nat) : List (Addr × MO) := [(a.z, .obj (zP a.TI a.TO)), (a.TO, .obj pP), (a.TI, .obj fun o => o = pairO (.ref a.i1) (.ref a.i2)), (a.i2, .obj (atIt (itT k2) a.l2 j)), (a.i1, .obj (atIt (itT k1) a.l1 j))]
noncomputable def zV (a : ZA) (x y : V) : V := .know (.ref a.z) [.ref a.l1, .ref a.l2] [x, y]
noncomputable def pairsZ (la lb : List V) : List V := (la.zip lb).map fun p => .tup [p.1, p.2]
section
variable {prog : Program} {w : World} {A : Around} {E : Value → Shared → Prop} {s : Shared}
noncomputable def itO (k : Bool) (a : Addr) : Obj := { cls := .type (itT k), data := .fields #[.ref a, .int 0 0] }
theorem pyIter_sq {k : Bool} {a : Addr} {xs : Array Value} {Q : Value → Shared → Prop} (hs : SqAt s.heap k a xs) (hQ : Q (.ref s.heap.objs.size) { s with heap := s.heap.push (itO k a) }) : wpAny (model prog w) A (pyIter (.ref a)) Q E s := by
  obtain ⟨o, n, e, c, d⟩ := hs
  cases k with
  | true => exact wpAny_pyIter_list ⟨o, e, c, n, d⟩ hQ
  | false => exact wpAny_pyIter_tuple ⟨o, e, c, n, d⟩ hQ
noncomputable abbrev zH1 (h : Heap) (k1 : Bool) (l1 : Addr) : Heap := h.push (itO k1 l1)
noncomputable abbrev zH2 (h : Heap) (k1 k2 : Bool) (l1 l2 : Addr) : Heap := (zH1 h k1 l1).push (itO k2 l2)
noncomputable abbrev zH3 (h : Heap) (k1 k2 : Bool) (l1 l2 : Addr) : Heap := (zH2 h k1 k2 l1 l2).push (pairO (.ref h.objs.size) (.ref (zH1 h k1 l1).objs.size))
noncomputable abbrev zH4 (h : Heap) (k1 k2 : Bool) (l1 l2 : Addr) : Heap := (zH3 h k1 k2 l1 l2).push (pairO .none .none)
noncomputable abbrev zH5 (h : Heap) (k1 k2 : Bool) (l1 l2 : Addr) : Heap := (zH4 h k1 k2 l1 l2).push (zipO .none (.bool false) (zH2 h k1 k2 l1 l2).objs.size (zH3 h k1 k2 l1 l2).objs.size)
theorem meets_zip (k1 k2 : Bool) (l1 l2 : Addr) (xs ys : Array Value) :
    Meets (Builtin.«zip.__new__» ⟨[.type "zip", .ref l1, .ref l2], []⟩) (fun _ R s => SqAt s.heap k1 l1 xs ∧ SqAt s.heap k2 l2 ys ∧
      R (.ok (.ret (.ref (zH4 s.heap k1 k2 l1 l2).objs.size))) { s with heap := zH5 s.heap k1 k2 l1 l2 }) :=
  .of_wp fun prog w A R s h => by
    obtain ⟨hp, g, d, tk, os⟩ := s; obtain ⟨hl1, hl2, h⟩ := h
    have hsub := sub_zip
    have hL1 : SqAt (Shared.heap ⟨hp, g, d, tk, os⟩) k1 l1 xs := hl1
    have hL2 : SqAt (Shared.heap ⟨hp.push (itO k1 l1), g, d, tk, os⟩) k2 l2 ys := hl2.keep fun o e => Heap.get?_push_of_some _ e
    wp_walk using pyIter_sq hL1, pyIter_sq hL2
    exact ⟨_, rfl, h⟩
theorem call_zip {k1 k2 : Bool} {l1 l2 : Addr} {xs ys : Array Value} {Q : Value → Shared → Prop} (h1 : SqAt s.heap k1 l1 xs) (h2 : SqAt s.heap k2 l2 ys)
    (h : Q (.ref (zH4 s.heap k1 k2 l1 l2).objs.size) { s with heap := zH5 s.heap k1 k2 l1 l2 }) : wpAny (model prog w) A (call (.type "zip") [.ref l1, .ref l2]) Q E s :=
  callType_new PySem.F.called_zip (by decide) (PySem.F.typeCall_zip_2 _ _) (PySem.F.newCall_zip_2 _ _) (fun obj => PySem.F.args_object_init_3 obj _ _) PySem.F.entry_zip_new
    (meets_zip k1 k2 l1 l2 xs ys) ⟨h1, h2, ⟨_, Heap.get?_push_size _ rfl, rfl⟩, h⟩
theorem pyIter_zip {z TI TO : Addr} {f0 f1 : Value} {Q : Value → Shared → Prop} (hz : s.heap.get? z = some (zipO f0 f1 TI TO)) (h : Q (.ref z) s) : wpAny (model prog w) A (pyIter (.ref z)) Q E s := by
  have hT : s.TypeIs (.ref z) "zip" := ⟨_, hz, rfl⟩
  refine wpAny_pyIter_slot hT PySem.F.slot_zip_iter (wpAny_call_entry PySem.F.slot_zip_iter hT PySem.F.entry_zip_iter ?_ (PySem.F.args_zip_iter_1 _))
  show wpAny _ _ (ret (.ref z)) _ _ s
  exact wpAny_pure ⟨_, rfl, "zip", _, hT, PySem.F.slot_zip_next.lookup, h⟩
theorem zip_letGo {tgt : Expr} {z TI TO : Addr} {f0 f1 v : Value} {Q : Unit → Shared → Prop} (hz : s.heap.get? z = some (zipO f0 f1 TI TO)) (hf : OkF f0)
    (hQ : ∀ h' f0', h'.get? z = some (zipO f0' f1 TI TO) → OkF f0' → Heap.SameBut z s.heap h' → Q () { s with heap := h' }) : wpAny (model prog w) A (letOwnedTupleGo tgt (.ref z) v) Q E s := by
  have h0 : Q () s := hQ s.heap f0 hz hf (Heap.SameBut.refl ..)
  have key : ∀ a : Addr, wpAny (model prog w) A (do
      let o ← load z
      match o.cls, o.data with
      | .type n, .fields vs =>
        if ["enumerate", "zip", "dict_itemiterator", "dict_reverseitemiterator", "odict_iterator", "itertools.zip_longest", "itertools.pairwise"].contains n && vs[0]? == some (rawInt a) then
          rule "for.unpacks-the-owned-tuple"
          updateField z 0 .none
      | _, _ => pure () : Sem Unit) Q E s := fun a => by
    refine wpAny_bind (wpAny_load hz ?_)
    dsimp only [zipO]
    split
    · refine wpAny_bind (wpAny_rule ?_)
      show wpAny _ _ (setField (.ref z) 0 .none) Q E s
      exact wpAny_setField_rec hz (by show 0 < 5; decide) fun h' hz' hs => hQ h' .none hz' (.inl rfl) hs
    · exact wpAny_pure h0
  cases tgt <;> first | exact wpAny_pure h0 | (cases v <;> first | exact wpAny_pure h0 | exact key _)
end
section
variable {C : Cx} {X : AS} {Q : V → AS → Prop}
theorem Rep.sq {h : Heap} {N : List Addr} {k : Bool} {l : List V} {v : Value} (r : Rep h N v (sqV k l)) : ∃ a vs, v = .ref a ∧ SqAt h k a (List.toArray vs) ∧ RepL h N vs l ∧ a ∉ N := by
  cases k with
  | true => obtain ⟨a, vs, n, hv9, e, hN, rl⟩ := Rep.lst_inv r; clear r; cases (hv9); exact ⟨a, vs, rfl, ⟨_, n, e, rfl, rfl⟩, rl, hN⟩
  | false => obtain ⟨a, vs, hv9, e, hN, rl⟩ := Rep.tup_inv r; clear r; cases (hv9); exact ⟨a, vs, rfl, ⟨_, 0, e, rfl, rfl⟩, rl, hN⟩
theorem OpL.zip {k1 k2 : Bool} {la lb : List V} (q : ∀ a : ZA, Q (zV a (sqV k1 la) (sqV k2 lb)) { X with mem := zfront a k1 k2 0 ++ X.mem }) : OpL C X (fun vs => PySem.call (.type "zip") vs) [sqV k1 la, sqV k2 lb] RV Q := fun s S vs r => by
  obtain ⟨_, _, ⟨⟩, ra, r2⟩ := r; obtain ⟨_, _, ⟨⟩, rb, r3⟩ := r2
  ·
    cases r3
    obtain ⟨l1, xs, rfl, s1, r1, n1⟩ := ra.sq
    obtain ⟨l2, ys, rfl, s2, r2, n2⟩ := rb.sq
    refine call_zip s1 s2 ?_
    have H1 := S.H.alloc (o := itO k1 l1) (mo := .obj (atIt (itT k1) l1 0)) ⟨_, Heap.get?_push_size _ rfl, rfl, rfl⟩
    have M1 := Mono.alloc (C := C) (X := X) (h := s.heap) (itO k1 l1) (.obj (atIt (itT k1) l1 0))
    have H2 := H1.alloc (o := itO k2 l2) (mo := .obj (atIt (itT k2) l2 0)) ⟨_, Heap.get?_push_size _ rfl, rfl, rfl⟩
    have M2 := M1.trans (Mono.alloc (itO k2 l2) (.obj (atIt (itT k2) l2 0)))
    have H3 := H2.alloc (o := pairO (.ref s.heap.objs.size) (.ref (zH1 s.heap k1 l1).objs.size)) (mo := .obj fun o => o = pairO (.ref s.heap.objs.size) (.ref (zH1 s.heap k1 l1).objs.size)) ⟨_, Heap.get?_push_size _ rfl, rfl⟩
    have M3 := M2.trans (Mono.alloc (pairO (.ref s.heap.objs.size) (.ref (zH1 s.heap k1 l1).objs.size)) (.obj fun o => o = pairO (.ref s.heap.objs.size) (.ref (zH1 s.heap k1 l1).objs.size)))
    have H4 := H3.alloc (o := pairO .none .none) (mo := .obj pP) ⟨_, Heap.get?_push_size _ rfl, _, _, rfl⟩
    have M4 := M3.trans (Mono.alloc (pairO .none .none) (.obj pP))
    have H5 := H4.alloc (o := zipO .none (.bool false) (zH2 s.heap k1 k2 l1 l2).objs.size (zH3 s.heap k1 k2 l1 l2).objs.size) (mo := .obj (zP (zH2 s.heap k1 k2 l1 l2).objs.size (zH3 s.heap k1 k2 l1 l2).objs.size)) ⟨_, Heap.get?_push_size _ rfl, _, _, rfl, .inl rfl⟩
    have M5 := M4.trans (Mono.alloc (zipO .none (.bool false) (zH2 s.heap k1 k2 l1 l2).objs.size (zH3 s.heap k1 k2 l1 l2).objs.size) (.obj (zP (zH2 s.heap k1 k2 l1 l2).objs.size (zH3 s.heap k1 k2 l1 l2).objs.size)))
    exact ⟨_, _, q ⟨(zH4 s.heap k1 k2 l1 l2).objs.size, (zH3 s.heap k1 k2 l1 l2).objs.size, (zH2 s.heap k1 k2 l1 l2).objs.size, (zH1 s.heap k1 l1).objs.size, s.heap.objs.size, l1, l2⟩, ⟨H5, S.gens, S.os⟩, .know _ (.cons (ra.mono S.H M5) (.cons (rb.mono S.H M5) .nil)), M5⟩
theorem pairsZ_get {la lb : List V} {j : Nat} {v : V} (h : (pairsZ la lb)[j]? = some v) : ∃ x y, la[j]? = some x ∧ lb[j]? = some y ∧ v = .tup [x, y] := by
  unfold pairsZ at h
  rw [List.getElem?_map] at h
  obtain ⟨p, hp, rfl⟩ := Option.map_eq_some_iff.mp h
  rw [List.getElem?_zip_eq_some] at hp
  exact ⟨p.1, p.2, hp.1, hp.2, rfl⟩
theorem zfront_addrs (a : ZA) (k1 k2 : Bool) (j : Nat) : (zfront a k1 k2 j).map (·.1) = [a.z, a.TO, a.TI, a.i2, a.i1] := rfl
theorem zap {a : ZA} {k1 k2 : Bool} {j : Nat} {ρ : List Sl} {M : List (Addr × MO)} {h : Heap} (S : StH C ⟨ρ, zfront a k1 k2 j ++ M⟩ h) (n1 : a.l1 ∉ (⟨ρ, zfront a k1 k2 j ++ M⟩ : AS).N) (n2 : a.l2 ∉ (⟨ρ, zfront a k1 k2 j ++ M⟩ : AS).N) : ZAp a.z a.TI a.TO a.i1 a.i2 a.l1 a.l2 := by
  have hN : (⟨ρ, zfront a k1 k2 j ++ M⟩ : AS).N = [a.z, a.TO, a.TI, a.i2, a.i1] ++ M.map (·.1) := List.map_append ..
  have nd := (List.nodup_append.mp (List.nodup_cons.mp S.nodup).2).2.1
  rw [hN] at nd n1 n2
  have nd' := (List.nodup_append.mp nd).1
  simp only [List.mem_append, not_or] at n1 n2
  have m1 := n1.1; have m2 := n2.1
  simp only [List.nodup_cons, List.mem_cons, List.not_mem_nil, or_false, not_or, not_false_eq_true, List.nodup_nil, and_true] at nd' m1 m2
  obtain ⟨⟨a1, a2, a3, a4⟩, ⟨b1, b2, b3⟩, ⟨c1, c2⟩, d1⟩ := nd'
  refine ⟨?_, ?_, ?_, ?_⟩
  · simp only [List.nodup_cons, List.mem_cons, List.not_mem_nil, or_false, not_or, not_false_eq_true, List.nodup_nil, and_true]
    exact ⟨⟨a1, a4, a3⟩, ⟨b3, b2⟩, Ne.symm d1⟩
  · simp only [List.mem_cons, List.not_mem_nil, or_false, not_or]
    exact ⟨Ne.symm a2, Ne.symm b1, c2, c1⟩
  · simp only [List.mem_cons, List.not_mem_nil, or_false, not_or]
    exact ⟨m1.1, m1.2.1, m1.2.2.2.2, m1.2.2.2.1⟩
  · simp only [List.mem_cons, List.not_mem_nil, or_false, not_or]
    exact ⟨m2.1, m2.2.1, m2.2.2.2.2, m2.2.2.2.1⟩
theorem zfront_mem {a : ZA} {k1 k2 : Bool} {j : Nat} {ρ : List Sl} {M : List (Addr × MO)} {h : Heap} (S : StH C ⟨ρ, zfront a k1 k2 j ++ M⟩ h) :
    (∃ f0 f1, h.get? a.z = some (zipO f0 f1 a.TI a.TO) ∧ OkF f0) ∧ (∃ x y, h.get? a.TO = some (pairO x y)) ∧ h.get? a.TI = some (pairO (.ref a.i1) (.ref a.i2)) ∧ ItAt h k2 a.i2 a.l2 j ∧ ItAt h k1 a.i1 a.l1 j := by
  obtain ⟨o1, e1, f0, f1, rfl, hf⟩ := S.mem (a.z, .obj (zP a.TI a.TO)) (by simp [zfront])
  obtain ⟨o2, e2, x, y, rfl⟩ := S.mem (a.TO, .obj pP) (by simp [zfront])
  obtain ⟨o3, e3, h3⟩ := S.mem (a.TI, .obj fun o => o = pairO (.ref a.i1) (.ref a.i2)) (by simp [zfront])
  have h3' : o3 = pairO (.ref a.i1) (.ref a.i2) := h3
  subst h3'
  obtain ⟨o4, e4, h4⟩ := S.mem (a.i2, .obj (atIt (itT k2) a.l2 j)) (by simp [zfront])
  obtain ⟨o5, e5, h5⟩ := S.mem (a.i1, .obj (atIt (itT k1) a.l1 j)) (by simp [zfront])
  exact ⟨⟨f0, f1, e1, hf⟩, ⟨x, y, e2⟩, e3, ⟨o4, e4, h4⟩, ⟨o5, e5, h5⟩⟩
theorem zip_nextA {A : Around} {E : Value → Shared → Prop} {a : ZA} {k1 k2 : Bool} {la lb : List V} {ρ : List Sl} {M : List (Addr × MO)} {j : Nat} {x : V} (hx : (pairsZ la lb)[j]? = some x) {s : Shared} (S' : St C ⟨ρ, zfront a k1 k2 j ++ M⟩ s) (k : RepL s.heap (⟨ρ, zfront a k1 k2 j ++ M⟩ : AS).N [.ref a.l1, .ref a.l2] [sqV k1 la, sqV k2 lb])
    {Q : Option Value → Shared → Prop} (hQ : ∀ v s2, St C ⟨ρ, zfront a k1 k2 (j + 1) ++ M⟩ s2 → Rep s2.heap (⟨ρ, zfront a k1 k2 (j + 1) ++ M⟩ : AS).N v x → Mono C ⟨ρ, zfront a k1 k2 j ++ M⟩ s.heap ⟨ρ, zfront a k1 k2 (j + 1) ++ M⟩ s2.heap → s2.gens = s.gens → s2.os = s.os → Q (some v) s2) : wpAny (model C.G.prog C.G.w) A (pyNext (.ref a.z)) Q E s := by
  obtain ⟨x1, y1, hx1, hy1, rfl⟩ := pairsZ_get hx
  obtain ⟨_, _, hv9, ra, k2'⟩ := RepL.cons_inv k; cases (hv9); obtain ⟨_, _, hv9, rb, _⟩ := RepL.cons_inv k2'; cases (hv9)
  obtain ⟨l1, xs, e1, s1, r1, n1⟩ := ra.sq
  obtain ⟨l2, ys, e2, s2, r2, n2⟩ := rb.sq
  cases e1; cases e2
  obtain ⟨⟨f0, f1, ez, hf⟩, eTO, eTI, it2, it1⟩ := zfront_mem S'.H
  have D := zap S'.H n1 n2
  obtain ⟨u, hu, ru⟩ := r1.get hx1
  obtain ⟨v, hv, rv⟩ := r2.get hy1
  have hT : s.TypeIs (.ref a.z) "zip" := ⟨_, ez, rfl⟩
  unfold pyNext
  refine wpAny_bind (wpAny_attempt (wpAny_callSpecial?_slot (name := Str.ofString "__next__") hT PySem.F.slot_zip_next (wpAny_call_entry PySem.F.slot_zip_next hT PySem.F.entry_zip_next
    (zip_item D ez hf eTI eTO it1 it2 s1 s2 (x := u) (y := v) (by simpa using hu) (by simpa using hv) fun h' T f0' f1' ez' hf' eTO' it1' it2' hT' hTn hk => wpAny_pure ?_) (PySem.F.args_zip_next_1 _))))
  have hk2 : ∀ c o, c ∉ (zfront a k1 k2 j).map (·.1) → s.heap.get? c = some o → h'.get? c = some o := fun c o n e => by
    rw [zfront_addrs] at n
    simp only [List.mem_cons, List.not_mem_nil, or_false, not_or] at n
    exact hk c o (by simp [n]) e
  obtain ⟨p, q, eTO'⟩ := eTO'
  have S2 : StH C ⟨ρ, zfront a k1 k2 (j + 1) ++ M⟩ h' := S'.H.front (F := zfront a k1 k2 j) (F' := zfront a k1 k2 (j + 1)) (.refl _) hk2 (by
    intro e he
    simp only [zfront, List.mem_cons, List.not_mem_nil, or_false] at he
    rcases he with rfl | rfl | rfl | rfl | rfl
    · exact ⟨_, ez', _, _, rfl, hf'⟩
    · exact ⟨_, eTO', _, _, rfl⟩
    · exact ⟨_, hk _ _ D.TI eTI, rfl⟩
    · obtain ⟨o, eo, ho⟩ := it2'; exact ⟨o, eo, ho⟩
    · obtain ⟨o, eo, ho⟩ := it1'; exact ⟨o, eo, ho⟩)
  have mo : Mono C ⟨ρ, zfront a k1 k2 j ++ M⟩ s.heap ⟨ρ, zfront a k1 k2 (j + 1) ++ M⟩ h' := Mono.front (F := zfront a k1 k2 j) (F' := zfront a k1 k2 (j + 1)) (.refl _) hk2
  have hTN : T ∉ (⟨ρ, zfront a k1 k2 (j + 1) ++ M⟩ : AS).N := fun hm => by
    obtain ⟨o, eo⟩ := S'.H.live T (List.mem_cons_of_mem _ (List.mem_append_right _ hm))
    rw [hTn] at eo; cases eo
  exact hQ _ { s with heap := h' } ⟨S2, S'.gens, S'.os⟩ (.tup (vs := [u, v]) hT' hTN (.cons (ru.mono S'.H mo) (.cons (rv.mono S'.H mo) .nil))) mo rfl rfl
theorem zip_stopA {A : Around} (hh : A.handled = none) {E : Value → Shared → Prop} {a : ZA} {k1 k2 : Bool} {la lb : List V} {ρ : List Sl} {M : List (Addr × MO)} {j : Nat} (hj : j = (pairsZ la lb).length) {s : Shared} (S' : St C ⟨ρ, zfront a k1 k2 j ++ M⟩ s) (k : RepL s.heap (⟨ρ, zfront a k1 k2 j ++ M⟩ : AS).N [.ref a.l1, .ref a.l2] [sqV k1 la, sqV k2 lb])
    {Q : Option Value → Shared → Prop} (hQ : ∀ s2, St C ⟨ρ, M⟩ s2 → Mono C ⟨ρ, zfront a k1 k2 j ++ M⟩ s.heap ⟨ρ, M⟩ s2.heap → Q none s2) : wpAny (model C.G.prog C.G.w) A (pyNext (.ref a.z)) Q E s := by
  obtain ⟨_, _, hv9, ra, k2'⟩ := RepL.cons_inv k; cases (hv9); obtain ⟨_, _, hv9, rb, _⟩ := RepL.cons_inv k2'; cases (hv9)
  obtain ⟨l1, xs, e1, s1, r1, n1⟩ := ra.sq
  obtain ⟨l2, ys, e2, s2, r2, n2⟩ := rb.sq
  cases e1; cases e2
  obtain ⟨⟨f0, f1, ez, hf⟩, eTO, eTI, it2, it1⟩ := zfront_mem S'.H
  have D := zap S'.H n1 n2
  have hT : s.TypeIs (.ref a.z) "zip" := ⟨_, ez, rfl⟩
  have hlen : (pairsZ la lb).length = min la.length lb.length := by simp [pairsZ]
  have hend : (List.toArray xs)[j]? = none ∨ (List.toArray ys)[j]? = none := by
    simp only [List.getElem?_toArray, List.getElem?_eq_none_iff, r1.length, r2.length]
    omega
  unfold pyNext
  refine wpAny_bind (wpAny_attempt (wpAny_callSpecial?_slot (name := Str.ofString "__next__") hT PySem.F.slot_zip_next (wpAny_call_entry PySem.F.slot_zip_next hT PySem.F.entry_zip_next
    (zip_end (by simp [hh]) D ez hf eTI eTO it1 it2 s1 s2 hend fun h' e hk he => ?_) (PySem.F.args_zip_next_1 _))))
  obtain ⟨o, ho, hc⟩ := he
  refine wpAny_bind (wpAny_isInstance (T := "StopIteration") (b := true) ⟨o, ho, hc⟩ isSubtype_stop ?_)
  have hk2 : ∀ c o, c ∉ (zfront a k1 k2 j).map (·.1) → s.heap.get? c = some o → h'.get? c = some o := fun c o n e => by
    rw [zfront_addrs] at n
    simp only [List.mem_cons, List.not_mem_nil, or_false, not_or] at n
    exact hk c o (by simp [n]) e
  exact wpAny_pure (hQ { s with heap := h' } (S'.heap (S'.H.front (F := zfront a k1 k2 j) (F' := []) (List.nil_sublist _) hk2 (by intro p hp; simp at hp))) (Mono.front (F := zfront a k1 k2 j) (F' := []) (List.nil_sublist _) hk2))
theorem MkIter.zip {tgt : Expr} {a : ZA} {k1 k2 : Bool} {la lb : List V} {M : List (Addr × MO)} (hm : X.mem = zfront a k1 k2 0 ++ M) : MkIter C tgt X (zV a (sqV k1 la) (sqV k2 lb)) (pairsZ la lb) M (fun _ => True) := fun s0 S v r => by
  obtain ⟨ρ, mem⟩ := X
  simp only at hm; subst hm
  obtain ⟨hv9, rl⟩ := Rep.know_inv r; subst hv9
  obtain ⟨⟨f0, f1, ez, hf⟩, _⟩ := zfront_mem S.H
  refine pyIter_zip ez ⟨a.z, zfront a k1 k2, fun h N => RepL h N [.ref a.l1, .ref a.l2] [sqV k1 la, sqV k2 lb], rfl, ?_, S, rl, Mono.refl _ _ _⟩
  intro C' hG hA
  refine ⟨fun j x ρ' M' hx _ s S' k => ?_, fun j ρ' M' hj _ s S' k => zip_stopA S'.hand hj S' k fun s2 S2 mo => ⟨rfl, S2, mo⟩, fun j ρ' M' s S' => ?_, fun Y h Z h' S m k => k.mono S m⟩
  · refine zip_nextA hx S' k fun v s2 S2 rv mo hg ho => ⟨_, rfl, ?_⟩
    obtain ⟨⟨f0, f1, ez, hf⟩, _⟩ := zfront_mem S2.H
    refine zip_letGo ez hf fun h2 f0' ez2 hf2 hb => ?_
    have m3 : Mono C' ⟨ρ', zfront a k1 k2 (j + 1) ++ M'⟩ s2.heap ⟨ρ', zfront a k1 k2 (j + 1) ++ M'⟩ h2 := Mono.write (i := 0) (mo' := .obj (zP a.TI a.TO)) rfl hb
    exact ⟨⟨S2.H.write (i := 0) (mo' := .obj (zP a.TI a.TO)) rfl hb ⟨_, ez2, _, _, rfl, hf2⟩, S2.gens, S2.os⟩, rv.mono S2.H m3, mo.trans m3⟩
  · obtain ⟨⟨f0, f1, ez, hf⟩, _⟩ := zfront_mem S'.H
    exact pyIter_zip ez ⟨rfl, rfl⟩
theorem zip_nolen : typeLookup (.type "zip") "__len__" = pure none := by rw [typeLookup_type, builtinLookup_eq_fast]; kernel_rfl
theorem zip_nohint : typeLookup (.type "zip") "__length_hint__" = pure none := by rw [typeLookup_type, builtinLookup_eq_fast]; kernel_rfl
theorem zip_loop {A : Around} (hh : A.handled = none) {R : Result → Shared → Prop} {a : ZA} {k1 k2 : Bool} {la lb : List V} {ρ : List Sl} {M : List (Addr × MO)} {L : Addr} {X0 : AS} {h0 : Heap} (hz : (pairsZ la lb).length ≤ 1000) (res : Value)
    (hR : ∀ s', St C ⟨ρ, (L, .lst (pairsZ la lb)) :: M⟩ s' → Mono C X0 h0 ⟨ρ, (L, .lst (pairsZ la lb)) :: M⟩ s'.heap → R (.ok (.ret res)) s') :
    ∀ (n j : Nat) (s : Shared), (pairsZ la lb).length - j = n → j ≤ (pairsZ la lb).length → St C ⟨ρ, zfront a k1 k2 j ++ (L, .lst ((pairsZ la lb).take j)) :: M⟩ s → RepL s.heap (⟨ρ, zfront a k1 k2 j ++ (L, .lst ((pairsZ la lb).take j)) :: M⟩ : AS).N [.ref a.l1, .ref a.l2] [sqV k1 la, sqV k2 lb] →
      Mono C X0 h0 ⟨ρ, zfront a k1 k2 j ++ (L, .lst ((pairsZ la lb).take j)) :: M⟩ s.heap →
      codeAny (model C.G.prog C.G.w) A (.builtin "list.extend.loop" ⟨[.ref L, .ref a.z, res], []⟩) R s := by
  intro n
  induction n with
  | zero =>
    intro j s hn hj S K mo
    obtain rfl : j = (pairsZ la lb).length := by omega
    refine codeAny_builtin PySem.F.entry_extend_loop ?_
    rw [Around.under_plainId PySem.F.plain_extend_loop _]
    show wpAny _ A.in1 (pyNext (.ref a.z) >>= _) _ _ s
    refine wpAny_bind (zip_stopA (by simp [hh]) rfl S K fun s2 S2 m2 => ?_)
    rw [List.take_length] at S2 m2
    exact wpAny_pure (hR s2 S2 (mo.trans (by rw [List.take_length]; exact m2)))
  | succ n ih =>
    intro j s hn hj S K mo
    have hlt : j < (pairsZ la lb).length := by omega
    refine codeAny_builtin PySem.F.entry_extend_loop ?_
    rw [Around.under_plainId PySem.F.plain_extend_loop _]
    show wpAny _ A.in1 (pyNext (.ref a.z) >>= _) _ _ s
    have hx := List.getElem?_eq_getElem hlt
    refine wpAny_bind (zip_nextA hx S K fun v s2 S2 rv m2 _ _ => ?_)
    show wpAny _ A.in1 (updateSeq L (·.push v) >>= _) _ _ _
    have hi : (⟨ρ, zfront a k1 k2 (j + 1) ++ (L, .lst ((pairsZ la lb).take j)) :: M⟩ : AS).mem[5]? = some (L, .lst ((pairsZ la lb).take j)) := rfl
    obtain ⟨vs, c, e, rl⟩ := S2.at hi
    have hb : Heap.SameBut L s2.heap (s2.heap.update L (Obj.mapSeq (·.push v))) := Heap.SameBut.update ..
    have hLN : L ∈ (⟨ρ, zfront a k1 k2 (j + 1) ++ (L, .lst ((pairsZ la lb).take j)) :: M⟩ : AS).N := List.mem_map.mpr ⟨_, List.mem_of_getElem? hi, rfl⟩
    have kk : ∀ (b : Addr) (o : Obj), s2.heap.get? b = some o → SeqObj o → b ∉ (⟨ρ, zfront a k1 k2 (j + 1) ++ (L, .lst ((pairsZ la lb).take j)) :: M⟩ : AS).N → (s2.heap.update L (Obj.mapSeq (·.push v))).get? b = some o ∧ b ∉ (⟨ρ, zfront a k1 k2 (j + 1) ++ (L, .lst ((pairsZ la lb).take j)) :: M⟩ : AS).N :=
      fun b o e _ n => ⟨(hb.2 b fun q => n (q ▸ hLN)).trans e, n⟩
    have ht : (pairsZ la lb).take (j + 1) = (pairsZ la lb).take j ++ [(pairsZ la lb)[j]] := by rw [List.take_add_one, hx]; rfl
    have H3 := S2.H.write (mo' := .lst ((pairsZ la lb).take j ++ [(pairsZ la lb)[j]])) hi hb ⟨vs ++ [v], _, by rw [Heap.get?_update_self _ e rfl]; simp [Obj.mapSeq]; rfl, (rl.map kk).append (.cons (rv.map kk) .nil)⟩
    have m3 := Mono.write (C := C) (h' := s2.heap.update L (Obj.mapSeq (·.push v))) (mo' := .lst ((pairsZ la lb).take j ++ [(pairsZ la lb)[j]])) hi hb
    rw [← ht] at H3 m3
    have eset : (zfront a k1 k2 (j + 1) ++ (L, MO.lst ((pairsZ la lb).take j)) :: M).set 5 (L, MO.lst ((pairsZ la lb).take (j + 1))) = zfront a k1 k2 (j + 1) ++ (L, MO.lst ((pairsZ la lb).take (j + 1))) :: M := rfl
    simp only [eset] at H3 m3
    have hlv := rl.length
    simp only [List.length_take] at hlv
    refine wpAny_bind (wpAny_updateSeq e rfl (wpAny_pure ⟨plainId_quiet PySem.F.plain_extend_loop _, ih (j + 1) _ (by omega) hlt (S2.heap H3) (K.mono S.H (m2.trans m3)) ((mo.trans m2).trans m3)⟩) (by simp; rw [sizeLine_eq]; omega) (by simp; rw [sizeLine_eq]; omega))
theorem OpL.listZ {a : ZA} {k1 k2 : Bool} {la lb : List V} {M : List (Addr × MO)} (hm : X.mem = zfront a k1 k2 0 ++ M) (hz : (pairsZ la lb).length ≤ 1000) (q : Q (.lst (pairsZ la lb)) ⟨X.ρ, M⟩) : OpL C X (fun vs => PySem.call (.type "list") vs) [zV a (sqV k1 la) (sqV k2 lb)] RV Q := fun s S vs r => by
  obtain ⟨ρ, mem⟩ := X
  simp only at hm q; subst hm
  obtain ⟨_, _, ⟨⟩, r1, r2⟩ := r
  ·
    cases r2
    obtain ⟨hv9, rl⟩ := Rep.know_inv r1; subst hv9
    · skip
      refine callType_codes (Q₁ := fun obj s₁ => obj = .ref s.heap.objs.size ∧ s₁ = { s with heap := s.heap.push { cls := .type "list", data := .seq #[] } }) PySem.F.called_list (PySem.F.typeCall_list_1 _) PySem.F.entry_list_init
        (code_list_new _ ⟨rfl, rfl⟩) fun obj s₁ h₁ => ?_
      obtain ⟨rfl, rfl⟩ := h₁
      have hS : (s.heap.push { cls := .type "list", data := .seq #[] }).get? s.heap.objs.size = some { cls := .type "list", data := .seq #[] } := Heap.get?_push_size _ rfl
      refine ⟨⟨_, hS, rfl⟩, PySem.F.args_list_init_2 _ _, ?_⟩
      have H1 := S.H.alloc (o := { cls := .type "list", data := .seq #[] }) (mo := .lst []) ⟨[], 0, hS, .nil⟩
      have M1 := Mono.alloc (C := C) (X := ⟨ρ, zfront a k1 k2 0 ++ M⟩) (h := s.heap) { cls := .type "list", data := .seq #[] } (.lst [])
      have pm : ((s.heap.objs.size, MO.lst []) :: (zfront a k1 k2 0 ++ M)).Perm (zfront a k1 k2 0 ++ (s.heap.objs.size, MO.lst []) :: M) := List.perm_middle.symm
      have H2 : StH C ⟨ρ, zfront a k1 k2 0 ++ (s.heap.objs.size, MO.lst []) :: M⟩ (s.heap.push { cls := .type "list", data := .seq #[] }) := StH.perm H1 pm
      have M2 : Mono C ⟨ρ, zfront a k1 k2 0 ++ M⟩ s.heap ⟨ρ, zfront a k1 k2 0 ++ (s.heap.objs.size, MO.lst []) :: M⟩ (s.heap.push { cls := .type "list", data := .seq #[] }) := M1.trans (Mono.perm pm)
      obtain ⟨⟨f0, f1, ez, hf⟩, _, _, _, _⟩ := zfront_mem S.H
      have hzL : s.heap.objs.size ≠ a.z := Nat.ne_of_gt (Heap.lt_size ez)
      have key : ∀ (h' : Heap) (c : Nat), (∀ b o, b ≠ s.heap.objs.size → (s.heap.push { cls := .type "list", data := .seq #[] }).get? b = some o → h'.get? b = some o) → Heap.SameBut s.heap.objs.size (s.heap.push { cls := .type "list", data := .seq #[] }) h' → h'.get? s.heap.objs.size = some { cls := .type "list", data := .seq #[] c } →
          StH C ⟨ρ, zfront a k1 k2 0 ++ (s.heap.objs.size, MO.lst []) :: M⟩ h' ∧ Mono C ⟨ρ, zfront a k1 k2 0 ++ M⟩ s.heap ⟨ρ, zfront a k1 k2 0 ++ (s.heap.objs.size, MO.lst []) :: M⟩ h' := fun h' c hk hb e => by
        have hi : (⟨ρ, zfront a k1 k2 0 ++ (s.heap.objs.size, MO.lst []) :: M⟩ : AS).mem[5]? = some (s.heap.objs.size, .lst []) := rfl
        have H3 := H2.write (mo' := .lst []) hi hb ⟨[], c, e, .nil⟩
        have M3 := Mono.write (C := C) (h := s.heap.push { cls := .type "list", data := .seq #[] }) (h' := h') (mo' := .lst []) hi hb
        exact ⟨H3, M2.trans M3⟩
      show wpAny _ _ (do let old ← Builtin.List.listItems (.ref s.heap.objs.size); Builtin.List.listUpdate (.ref s.heap.objs.size) (fun _ => #[]); letGo old.toList.reverse; Builtin.List.listExtendWith (.ref s.heap.objs.size) (.ref a.z) .none) _ _ _
      refine wpAny_bind ?_
      unfold Builtin.List.listItems
      refine wpAny_bind (wpAny_seqItems hS rfl (wpAny_pure ?_))
      show wpAny _ _ (updateSeq s.heap.objs.size (fun _ => #[]) >>= fun _ => letGo (#[] : Array Value).toList.reverse >>= fun _ => Builtin.List.listExtendWith (.ref s.heap.objs.size) (.ref a.z) .none) _ _ _
      refine wpAny_bind (wpAny_updateSeq hS rfl ?_)
      have hS₂ := Heap.get?_update_self (Obj.mapSeq (fun _ => (#[] : Array Value))) hS rfl
      refine wpAny_bind (wpAny_letGo ?_)
      have oth1 : ∀ b o, b ≠ s.heap.objs.size → (s.heap.push { cls := .type "list", data := .seq #[] }).get? b = some o → ((s.heap.push { cls := .type "list", data := .seq #[] }).update s.heap.objs.size (Obj.mapSeq (fun _ => (#[] : Array Value)))).get? b = some o :=
        fun b o hb e => (Heap.get?_update_other _ _ (Ne.symm hb)).trans e
      have ez1 := oth1 _ _ (Ne.symm hzL) (Heap.get?_push_of_some _ ez)
      unfold Builtin.List.listExtendWith
      refine wpAny_bind (wpAny_typeOf (T := "zip") ⟨_, ez1, rfl⟩ ?_)
      have h1 : Builtin.List.listSameRef (.ref s.heap.objs.size) (.ref a.z) = false := by simp [Builtin.List.listSameRef, hzL]
      rw [if_neg (by rw [h1]; decide)]
      refine wpAny_bind (pyIter_zip (s := { s with heap := (s.heap.push { cls := .type "list", data := .seq #[] }).update s.heap.objs.size (Obj.mapSeq (fun _ => (#[] : Array Value))) }) ez1 ?_)
      refine wpAny_bind (wpAny_holding ?_)
      unfold Builtin.List.listLengthHint
      refine wpAny_bind (wpAny_specialOf (T := "zip") ⟨_, ez1, rfl⟩ zip_nolen ?_)
      show wpAny _ _ (specialOf (Value.ref a.z) (Str.ofString "__length_hint__") >>= _) _ _ _
      refine wpAny_bind (wpAny_specialOf (T := "zip") ⟨_, ez1, rfl⟩ zip_nohint ?_)
      refine wpAny_pure ?_
      rw [if_pos (by decide +kernel)]
      refine wpAny_bind (wpAny_rule ?_)
      refine wpAny_bind ?_
      show wpAny _ _ (updateSeq s.heap.objs.size (·.push .none) >>= fun _ => updateSeq s.heap.objs.size (·.pop)) _ _ _
      refine wpAny_bind (wpAny_updateSeq hS₂ rfl ?_)
      have hS₃ := Heap.get?_update_self (Obj.mapSeq (·.push Value.none)) hS₂ rfl
      refine wpAny_updateSeq hS₃ rfl ?_
      have hS₄ := Heap.get?_update_self (Obj.mapSeq (·.pop)) hS₃ rfl
      obtain ⟨H3, M3⟩ := key _ _ (fun b o hb e => (Heap.get?_update_other _ _ (Ne.symm hb)).trans ((Heap.get?_update_other _ _ (Ne.symm hb)).trans (oth1 b o hb e))) (((Heap.SameBut.update ..).trans (Heap.SameBut.update ..)).trans (Heap.SameBut.update ..)) hS₄
      refine wpAny_pure ⟨plainId_quiet PySem.F.plain_extend_loop _, zip_loop (by simp [S.hand]) hz .none (X0 := ⟨ρ, zfront a k1 k2 0 ++ M⟩) (h0 := s.heap) (fun s' S' m' => ?_) _ 0 _ rfl (Nat.zero_le _) ⟨H3, S.gens, S.os⟩ (rl.mono S.H M3) M3⟩
      refine ⟨rfl, ?_⟩
      have hi : (⟨ρ, (s.heap.objs.size, MO.lst (pairsZ la lb)) :: M⟩ : AS).mem[0]? = some (s.heap.objs.size, .lst (pairsZ la lb)) := rfl
      obtain ⟨vs, c, e, rl'⟩ := S'.at hi
      have hnd := (List.nodup_append.mp (List.nodup_cons.mp S'.H.nodup).2).2.1
      have hLM : s.heap.objs.size ∉ (⟨ρ, M⟩ : AS).N := (List.nodup_cons.mp hnd).1
      exact ⟨_, _, q, ⟨S'.H.drop rfl (List.sublist_cons_self _ _), S'.gens, S'.os⟩, .lst e hLM (rl'.map fun b o e _ n => ⟨e, fun hm => n (List.mem_cons_of_mem _ hm)⟩), m'.trans (Mono.drop (List.sublist_cons_self _ _))⟩
end
end
section
section
variable {C : Cx} {X : AS} {Q : V → AS → Prop}
noncomputable def sliceP (lo hi st : Option Int) (o : Obj) : Prop := ∃ vl vu vs, o = { cls := .type "slice", data := .fields #[vl, vu, vs] } ∧ IsPart vl lo ∧ IsPart vu hi ∧ IsPart vs st
noncomputable def EvO (C : Cx) (X : AS) (e : Option Expr) (Q : Option Int → AS → Prop) : Prop := match e with
  | none => Q none X
  | some e => Ev C X e (fun v Y => ∃ i, v = .int i ∧ Q (some i) Y)
theorem EvO.run {e : Option Expr} {Q : Option Int → AS → Prop} (h : EvO C X e Q) {s : Shared} (S : St C X s) {P : Value → Shared → Prop} (k : ∀ v i Y s1, Q i Y → St C Y s1 → IsPart v i → Mono C X s.heap Y s1.heap → P v s1) : wpAny (model C.G.prog C.G.w) C.A (evalPart e C.env) P (fun _ _ => False) s := by
  cases e with
  | none => exact wpAny_evalPart_none (k _ _ _ _ h S .none (Mono.refl _ _ _))
  | some e => exact wpAny_evalPart_some ((show Ev C X e _ from h).run S fun a v Y s1 ⟨i, e, q⟩ S1 r m => by subst e; cases r; exact k _ _ _ _ q S1 (.int _ _) m)
theorem Ev.slice {lo hi st : Option Expr} {p : Pos} (h : EvO C X lo (fun l Y => EvO C Y hi (fun u Z => EvO C Z st (fun t W => ∀ a, Q (.raw (.ref a)) { W with mem := (a, .obj (sliceP l u t)) :: W.mem })))) : Ev C X (.Slice lo hi st p) Q := fun s S => by
  refine wpAny_Slice (h.run S fun vl l Y s1 q1 S1 p1 m1 => EvO.run q1 S1 fun vu u Z s2 q2 S2 p2 m2 => EvO.run q2 S2 fun vs t W s3 q3 S3 p3 m3 => ?_)
  have H := S3.H.alloc (o := { cls := .type "slice", data := .fields #[vl, vu, vs] }) (mo := .obj (sliceP l u t)) ⟨_, Heap.get?_push_size _ rfl, vl, vu, vs, rfl, p1, p2, p3⟩
  have M := Mono.alloc (C := C) (X := W) (h := s3.heap) { cls := .type "slice", data := .fields #[vl, vu, vs] } (.obj (sliceP l u t))
  exact ⟨_, _, q3 _, ⟨H, S3.gens, S3.os⟩, .raw _, ((m1.trans m2).trans m3).trans M⟩
theorem Op2.sliceL {e i : Expr} {l : List V} {sl : Addr} {lo hi st : Option Int} {M : List (Addr × MO)} (hm : X.mem = (sl, .obj (sliceP lo hi st)) :: M) (h0 : st ≠ some 0) (hz : l.length ≤ sizeLine) {l' : List V} (hp : ∀ (vs : List Value) (h : Heap) (N : List Addr), RepL h N vs l → ∃ ws, slicePick vs.toArray lo hi st = List.toArray ws ∧ RepL h N ws l')
    (q : Q (.lst l') ⟨X.ρ, M⟩) (hs : ∀ o v, ∃ ops, subscripted i false o v = operate ops (getItem o v) := by intros; exact ⟨_, rfl⟩) : Op2 C X (subscriptTail e i) (.lst l) (.raw (.ref sl)) RV Q := fun s S a b ra rb => by
  cases rb
  have ra0 := ra
  obtain ⟨a, vs, n, hv9, eh, hN, rl⟩ := Rep.lst_inv ra; clear ra; cases (hv9)
  · obtain ⟨o, eo, vl, vu, vs', rfl, p1, p2, p3⟩ := S.H.mem (sl, .obj (sliceP lo hi st)) (by rw [hm]; exact List.mem_cons_self ..)
    refine tail_any ⟨_, eh, rfl⟩ slot_list_getitem.lookup (wpAny_getItem_list_slice ⟨_, eh, rfl, _, rfl⟩ ⟨_, eo, rfl, rfl⟩ p1 p2 p3 h0 ?_ (by rw [List.size_toArray, rl.length]; exact hz)) (hs _ _).choose_spec
    obtain ⟨ws, hw, rw'⟩ := hp vs s.heap X.N rl
    rw [hw]
    have k : ∀ b o, s.heap.get? b = some o → (s.heap.push { cls := .type "list", data := .seq (List.toArray ws) }).get? b = some o := fun b o e => Heap.get?_push_of_some _ e
    have hsub : M.Sublist X.mem := by rw [hm]; exact List.sublist_cons_self _ _
    have hn : s.heap.objs.size ∉ (⟨X.ρ, M⟩ : AS).N := fun hm' => by
      obtain ⟨o, eo⟩ := S.H.live _ (List.mem_cons_of_mem _ (List.mem_append_right _ ((hsub.map _).subset hm')))
      exact absurd (Heap.lt_size eo) (Nat.lt_irrefl _)
    have H2 : StH C ⟨X.ρ, M⟩ (s.heap.push { cls := .type "list", data := .seq (List.toArray ws) }) := (S.H.keeps k).drop rfl hsub
    have M2 : Mono C X s.heap ⟨X.ρ, M⟩ (s.heap.push { cls := .type "list", data := .seq (List.toArray ws) }) := (Mono.keeps k).trans (Mono.drop hsub)
    exact ⟨_, _, q, ⟨H2, S.gens, S.os⟩, .lst (Heap.get?_push_size _ rfl) hn (rw'.mono S.H M2), M2⟩
theorem RepL.take {h : Heap} {N : List Addr} (n : Nat) {vs : List Value} {l : List V} (r : RepL h N vs l) : RepL h N (vs.take n) (l.take n) := by
  induction l generalizing vs n with
  | nil => rw [RepL.nil_inv r, List.take_nil, List.take_nil]; exact .nil
  | cons x l ih =>
    obtain ⟨_, _, ⟨⟩, a, r⟩ := r
    cases n with
    | zero => exact .nil
    | succ n => exact .cons a (ih n r)
theorem pick_take (items : Array Value) (b : Nat) : slicePick items none (some b) none = (items.toList.take b).toArray := by
  by_cases hb : b ≤ items.size
  · exact slicePick_upto items b hb
  · have e : sliceBounds none (some (b : Int)) none items.size = sliceBounds none none none items.size := by
      simp only [sliceBounds, Option.getD_none]
      have h2 : ¬ ((b : Int) < 0) := by omega
      simp only [h2, if_false, show (1 : Int) > 0 by decide, if_true]
      congr 1
      congr 1; omega
    have e2 : slicePick items none (some b) none = slicePick items none none none := by unfold slicePick; rw [e]
    rw [e2, slicePick_all, List.take_of_length_le (by rw [Array.length_toList]; omega)]
theorem Op2.slice_rev {e i : Expr} {l : List V} {sl : Addr} {M : List (Addr × MO)} (hm : X.mem = (sl, .obj (sliceP none none (some (-1)))) :: M) (hz : l.length ≤ sizeLine) (q : Q (.lst l.reverse) ⟨X.ρ, M⟩)
    (hs : ∀ o v, ∃ ops, subscripted i false o v = operate ops (getItem o v) := by intros; exact ⟨_, rfl⟩) : Op2 C X (subscriptTail e i) (.lst l) (.raw (.ref sl)) RV Q :=
  Op2.sliceL hm (by decide) hz (fun vs h N r => ⟨vs.reverse, by rw [krv_pick], r.reverse⟩) q hs
theorem Op2.slice_take {e i : Expr} {l : List V} {sl : Addr} {M : List (Addr × MO)} (n : Nat) (hm : X.mem = (sl, .obj (sliceP none (some (n : Int)) none)) :: M) (hz : l.length ≤ sizeLine) (q : Q (.lst (l.take n)) ⟨X.ρ, M⟩)
    (hs : ∀ o v, ∃ ops, subscripted i false o v = operate ops (getItem o v) := by intros; exact ⟨_, rfl⟩) : Op2 C X (subscriptTail e i) (.lst l) (.raw (.ref sl)) RV Q :=
  Op2.sliceL hm (by simp) hz (fun vs h N r => ⟨vs.take n, by rw [pick_take], r.take n⟩) q hs
end
end
section
noncomputable def TvB (n : Nat) (t : Tv) : Prop := ∀ x s, t = .bit x s → 0 ≤ x ∧ x < (n : Int)
structure Ext (ks : List Key) (r : Tv × List Key) : Prop where
  pre : ks <+: r.2
  len : r.2.length ≤ ks.length + 1
  bit : TvB (3 + r.2.length) r.1
theorem addK_pre (ks : List Key) (k : Key) : ks <+: addK ks k := by unfold addK; split; exact List.prefix_refl _; exact List.prefix_append _ _
theorem addK_len (ks : List Key) (k : Key) : (addK ks k).length ≤ ks.length + 1 := by unfold addK; split; omega; simp
set_option tactic.hygienic true in
theorem idxK_lt (ks : List Key) (k : Key) : 0 ≤ idxK ks k ∧ idxK ks k < ((3 + (addK ks k).length : Nat) : Int) := by
  unfold idxK addK
  split
  · rename_i h; have := List.idxOf_lt_length_of_mem h; omega
  · rename_i h; have := List.idxOf_eq_length h; simp only [List.length_append, List.length_cons, List.length_nil]; omega
theorem Ext.add {ks : List Key} (k : Key) (s : Bool) : Ext ks (.bit (idxK ks k) s, addK ks k) := ⟨addK_pre _ _, addK_len _ _, fun x s' h => by cases h; exact idxK_lt ks k⟩
theorem Ext.same {ks : List Key} {t : Tv} (h : TvB (3 + ks.length) t) : Ext ks (t, ks) := ⟨List.prefix_refl _, Nat.le_succ _, h⟩
theorem TvB.tt {n : Nat} {b : Bool} : TvB n (.tt b) := fun x s h => by cases h
theorem TvB.not {n : Nat} {t : Tv} (h : TvB n t) : TvB n t.not := fun x s e => by
  cases t with
  | tt b => cases e
  | bit y u => cases e; exact h _ _ rfl
theorem TvB.le {n m : Nat} {t : Tv} (h : TvB n t) (hm : n ≤ m) : TvB m t := fun x s e => by have := h x s e; omega
theorem Ext.not {ks : List Key} {r : Tv × List Key} (h : Ext ks r) : Ext ks (r.1.not, r.2) := ⟨h.pre, h.len, h.bit.not⟩
theorem tellK_ext {D : Int → List (Int × Int)} {ks : List Key} {r : Row} (h : ∀ x ∈ r.xs, 0 ≤ x ∧ x < 3) : Ext ks (tellK D ks r) := by
  unfold tellK
  split
  · refine Ext.same fun x s e => ?_
    cases e
    cases hx : r.xs with
    | nil => show (0 : Int) ≤ 0 ∧ (0 : Int) < _; omega
    | cons a l => have := h a (by rw [hx]; exact List.mem_cons_self ..); show 0 ≤ a ∧ a < _; omega
  · exact Ext.add _ _
theorem truthK_ext {D : Int → List (Int × Int)} {ks : List Key} {le : Bool} {e : Lin} (h : ∀ p ∈ e.ps, 0 ≤ p.1 ∧ p.1 < 3) : Ext ks (truthK D le e ks) := by
  unfold truthK
  cases hr : rowZ D le e with
  | inl b => exact Ext.same TvB.tt
  | inr r =>
    have hx : ∀ x ∈ r.xs, 0 ≤ x ∧ x < 3 := by
      obtain ⟨rfl, _⟩ := rowZ_inr hr
      intro x hx
      obtain ⟨p, hp, rfl⟩ := List.mem_map.mp hx
      exact h p hp
    dsimp only
    split
    · split
      · exact (tellK_ext (r := ⟨true, r.co.map (- ·), r.xs, -r.c - 1⟩) hx).not
      · exact tellK_ext (r := ⟨false, r.co.map (- ·), r.xs, -r.c⟩) hx
    · exact tellK_ext hx
theorem pairK_ext (p q : Int × Bool) (ks : List Key) : Ext ks (pairK p q ks) := by unfold pairK; split <;> exact Ext.add _ _
theorem allL_ext {ts : List Tv} {ks : List Key} (h : ∀ t ∈ ts, TvB (3 + ks.length) t) : Ext ks (allL ts ks) := by
  unfold allL
  cases hk : allK ts with
  | none => exact Ext.same TvB.tt
  | some l =>
    match l, hk with
    | [], _ => exact Ext.same TvB.tt
    | [p], hk =>
      obtain ⟨_, hm⟩ := foldK_inv hk .nil
      refine Ext.same fun x s e => ?_
      cases e
      rcases hm p (by simp) with h' | h'
      · cases h'
      · exact h _ h' _ _ rfl
    | p :: q :: r, _ => dsimp only; split <;> exact pairK_ext _ _ _
theorem anyL_ext {ts : List Tv} {ks : List Key} (h : ∀ t ∈ ts, TvB (3 + ks.length) t) : Ext ks (anyL ts ks) :=
  (allL_ext (ts := ts.map Tv.not) fun t ht => by obtain ⟨u, hu, rfl⟩ := List.mem_map.mp ht; exact (h u hu).not).not
noncomputable def ltL (p : Lin × Lin) : Lin := (p.1.plus p.2 (-1)).plus ⟨[], 1⟩ 1
noncomputable def eqL (p : Lin × Lin) : Lin := p.1.plus p.2 (-1)
noncomputable def stepL (D : Int → List (Int × Int)) (f : Tv × List Key) (p : Lin × Lin) : Tv × List Key :=
  anyL [(truthK D true (ltL p) f.2).1, (allL [(truthK D false (eqL p) (truthK D true (ltL p) f.2).2).1, f.1] (truthK D false (eqL p) (truthK D true (ltL p) f.2).2).2).1]
    (allL [(truthK D false (eqL p) (truthK D true (ltL p) f.2).2).1, f.1] (truthK D false (eqL p) (truthK D true (ltL p) f.2).2).2).2
noncomputable def start0 (some others : List Lin) (st : Bool) : Bool := decide ((some.length : Int) < others.length) || (decide ((some.length : Int) = others.length) && !st)
noncomputable def lessL (D : Int → List (Int × Int)) (some others : List Lin) (st : Bool) (ks : List Key) : Tv × List Key := ((some.zip others).reverse).foldl (stepL D) (.tt (start0 some others st), ks)
structure LinsOK (p : Lin × Lin) : Prop where
  o1 : p.1.OK
  o2 : p.2.OK
  e1 : (eqL p).OK
  e2 : (ltL p).OK
  nz1 : ∀ q ∈ (eqL p).ps, q.2 ≠ 0
  nz2 : ∀ q ∈ (ltL p).ps, q.2 ≠ 0
  v1 : ∀ q ∈ (eqL p).ps, 0 ≤ q.1 ∧ q.1 < 3
  v2 : ∀ q ∈ (ltL p).ps, 0 ≤ q.1 ∧ q.1 < 3
structure StepE (D : Int → List (Int × Int)) (f : Tv × List Key) (p : Lin × Lin) : Prop where
  a : Ext f.2 (truthK D true (ltL p) f.2)
  b : Ext (truthK D true (ltL p) f.2).2 (truthK D false (eqL p) (truthK D true (ltL p) f.2).2)
  c : Ext (truthK D false (eqL p) (truthK D true (ltL p) f.2).2).2 (allL [(truthK D false (eqL p) (truthK D true (ltL p) f.2).2).1, f.1] (truthK D false (eqL p) (truthK D true (ltL p) f.2).2).2)
  d : Ext (allL [(truthK D false (eqL p) (truthK D true (ltL p) f.2).2).1, f.1] (truthK D false (eqL p) (truthK D true (ltL p) f.2).2).2).2 (stepL D f p)
theorem stepE {D : Int → List (Int × Int)} {f : Tv × List Key} {p : Lin × Lin} (hp : LinsOK p) (hf : TvB (3 + f.2.length) f.1) : StepE D f p := by
  have a : Ext f.2 (truthK D true (ltL p) f.2) := truthK_ext hp.v2
  have b : Ext (truthK D true (ltL p) f.2).2 (truthK D false (eqL p) (truthK D true (ltL p) f.2).2) := truthK_ext hp.v1
  have la := a.pre.length_le
  have lb := b.pre.length_le
  have c := allL_ext (ts := [(truthK D false (eqL p) (truthK D true (ltL p) f.2).2).1, f.1]) (ks := (truthK D false (eqL p) (truthK D true (ltL p) f.2).2).2) (fun t ht => by
    simp only [List.mem_cons, List.not_mem_nil, or_false] at ht
    rcases ht with rfl | rfl
    · exact b.bit
    · exact hf.le (by omega))
  have lc := c.pre.length_le
  refine ⟨a, b, c, anyL_ext fun t ht => ?_⟩
  simp only [List.mem_cons, List.not_mem_nil, or_false] at ht
  rcases ht with rfl | rfl
  · exact a.bit.le (by omega)
  · exact c.bit
theorem stepE.out {D : Int → List (Int × Int)} {f : Tv × List Key} {p : Lin × Lin} (h : StepE D f p) : f.2 <+: (stepL D f p).2 ∧ (stepL D f p).2.length ≤ f.2.length + 4 ∧ TvB (3 + (stepL D f p).2.length) (stepL D f p).1 := by
  refine ⟨((h.a.pre.trans h.b.pre).trans h.c.pre).trans h.d.pre, ?_, h.d.bit⟩
  have := h.a.len; have := h.b.len; have := h.c.len; have := h.d.len
  omega
theorem foldE {D : Int → List (Int × Int)} : ∀ (l : List (Lin × Lin)) (f : Tv × List Key), (∀ p ∈ l, LinsOK p) → TvB (3 + f.2.length) f.1 → f.2 <+: (l.foldl (stepL D) f).2 ∧ (l.foldl (stepL D) f).2.length ≤ f.2.length + 4 * l.length ∧ TvB (3 + (l.foldl (stepL D) f).2.length) (l.foldl (stepL D) f).1
  | [], f, _, hf => ⟨List.prefix_refl _, by simp, hf⟩
  | p :: l, f, hl, hf => by
    obtain ⟨a, b, c⟩ := stepE.out (stepE (hl p (List.mem_cons_self ..)) hf)
    obtain ⟨a', b', c'⟩ := foldE l _ (fun q hq => hl q (List.mem_cons_of_mem _ hq)) c
    exact ⟨a.trans a', by simp only [List.foldl_cons, List.length_cons]; omega, c'⟩
section
variable {C : Cx} {ρ : List Sl} {n : Nat} {Q : V → AS → Prop} {σ : Sg} {g : G} {P T : List (Addr × MO)}
theorem any_spec {ts : List Tv} (h2 : ts.length ≤ 2) (hb : ∀ x s, Tv.bit x s ∈ ts → x < g.vars.length) (hG : HG C) (hlv : C.lv = n+4) (hS : Self C.Kp σ) (hz : g.vars.length ≤ 100000) (hz' : g.made.length ≤ 100000) (hz'' : g.tolds.length ≤ 90000) (q : Q (anyZ g ts).1.v ⟨ρ, P ++ gmem σ (anyZ g ts).2 T⟩) :
    OpL C ⟨ρ, P ++ gmem σ g T⟩ (fun vs => call (.ref 254) vs) [.raw (.ref σ.x), .lst (ts.map Tv.v)] RV Q := by
  refine OpL.fnP (n := n+3) ((congrArg (fun K => List.lookup 254 K) hG).trans rfl) (by rw [hG]; rfl) hlv (len2 fun _ _ => rfl) rfl rfl rfl (by decide) rfl rfl rfl ?h
  intro L A Kp hK C'
  have hS' := hS.weaken hK
  walk_at "b0.5.Exists"
  refine ⟨_, m_all_of (by exact hG) (by exact hS'), ?_⟩
  walk_at "m.0.Ev"
  refine Ev.comp (gens1 rfl (fun _ _ => rfl)) ?_ rfl (by decide) rfl
  walk_at "e0.1.Exists"
  refine ⟨_, _, _, MkIter.lst, CompOK.map (toV := Tv.v) (items := ts) (fun _ ρ => ∃ a b, ρ = [⟨".0", none, a⟩, ⟨"truth", none, b⟩]) (fun t => t.not.v) (fun L' => ⟨_, _, rfl⟩) (by rw [sizeLine_eq]; omega) (fun _ _ => trivial) ?_ ?_⟩
  · intro L' Kp' hKp t ht ρ' M' hM hP ⟨b, c, hρ⟩
    subst hρ
    walk_at "a0.1.TW"; walk_at "e0.2.OpL"
    refine contrary_spec (by exact hG) (by rfl) ?_
    first | exact ⟨rfl, rfl, _, _, rfl⟩ | exact ⟨_, _, rfl⟩
  walk_at "run.0.OpL"
  rw [show (ts.map fun t => t.not.v) = (ts.map Tv.not).map Tv.v by rw [List.map_map]; rfl]
  refine all_spec (by rw [List.length_map]; exact h2) ?_ (by exact hG) (by rfl) (by exact hS') hz hz' hz'' ?_
  · intro x s h
    obtain ⟨t, ht, e⟩ := List.mem_map.mp h
    cases t with
    | tt b => cases e
    | bit y u => cases e; exact hb _ _ ht
  walk_at "run.0.OpL"
  refine contrary_spec (by exact hG) (by rfl) ?_
  refine retR ?_
  exact q
end
end
section
theorem st_vars {V0 : List V} (h0 : V0.length = 3) (ks : List Key) : (stG V0 ks).vars.length = 3 + ks.length := by simp [stG, varsL_len, h0]
theorem st_made (V0 : List V) (ks : List Key) : (stG V0 ks).made.length = ks.length := madeL_len _ _
theorem st_tolds (V0 : List V) (ks : List Key) : (stG V0 ks).tolds.length ≤ 3 * ks.length := tellsL_len _ _
theorem domAt_st {V0 : List V} {D : Int → List (Int × Int)} {x : Int} (h : DomAt (stG V0 []) D x) (ks : List Key) : DomAt (stG V0 ks) D x :=
  ⟨h.lo, h.hi, let ⟨nm, e⟩ := h.var; ⟨nm, by
    have e' : V0[x.toNat]? = some (.tup [nm, pairsV (D x)]) := by simpa [stG, varsL_n] using e
    simp only [stG]
    rw [List.getElem?_append_left (List.getElem?_eq_some_iff.mp e').1]; exact e'⟩, h.ne, h.small⟩
noncomputable def pv (p : Lin × Lin) : V := .tup [p.1.v, p.2.v]
theorem pairsZ_lin (xs ys : List Lin) : pairsZ (xs.map Lin.v) (ys.map Lin.v) = (xs.zip ys).map pv := by
  unfold pairsZ
  rw [List.zip_map, List.map_map]
  rfl
section
variable {C : Cx} {ρ : List Sl} {n : Nat} {Q : V → AS → Prop} {σ : Sg} {P T : List (Addr × MO)} {D : Int → List (Int × Int)} {V0 : List V} {ks : List Key}
theorem isless_spec {xs ys : List Lin} {st : Bool} (h0 : V0.length = 3) (hD : ∀ x, 0 ≤ x → x < 3 → DomAt (stG V0 []) D x) (hl : ∀ p ∈ xs.zip ys, LinsOK p) (hx : xs.length ≤ 10) (hy : ys.length ≤ 10) (hks : ks.length ≤ 1000) (hG : HG C) (hlv : C.lv = n+7) (hS : Self C.Kp σ)
    (q : Q (lessL D xs ys st ks).1.v ⟨ρ, P ++ gmem σ (stG V0 (lessL D xs ys st ks).2) T⟩) :
    OpL C ⟨ρ, P ++ gmem σ (stG V0 ks) T⟩ (fun vs => call (.ref 413) vs) [.raw (.ref σ.x), .lst (xs.map Lin.v), .lst (ys.map Lin.v), .bool st] RV Q := by
  refine OpL.fnP (n := n+6) ((congrArg (fun K => List.lookup 413 K) hG).trans rfl) (by rw [hG]; rfl) hlv (len4 fun _ _ _ _ => rfl) rfl rfl rfl (by decide) rfl rfl rfl ?h
  intro L A Kp hK C'
  have hS' := hS.weaken hK
  have hzl : (xs.zip ys).length ≤ 10 := by rw [List.length_zip]; omega
  refine Exs.seq (fun Y => Y = ⟨[⟨"self", none, some (.raw (.ref σ.x))⟩, ⟨"some", none, some (.lst (xs.map Lin.v))⟩, ⟨"others", none, some (.lst (ys.map Lin.v))⟩, ⟨"is_strict", none, some (.bool st)⟩, ⟨"found", none, some (.bool (start0 xs ys st))⟩, ⟨"one", none, none⟩, ⟨"other", none, none⟩], P ++ gmem σ (stG V0 ks) T⟩) ?_ ?_
  · walk_at "s0.5.OpL"
    refine OpL.lenL (by rw [List.length_map]; omega) ?_
    walk_at "run.2.OpL"
    refine OpL.lenL (by rw [List.length_map]; omega) ?_
    walk_at "run.2."
    simp only [List.length_map]
    refine ifB (fun h1 => ?_) fun h1 => ?_
    · have e : start0 xs ys st = true := by unfold start0; rw [h1]; rfl
      rw [e]
      walk_at "run.1.Eq"; exact rfl
    · walk_at "e.5.OpL"
      refine OpL.lenL (by rw [List.length_map]; omega) ?_
      walk_at "run.2.OpL"
      refine OpL.lenL (by rw [List.length_map]; omega) ?_
      walk_at "run.2."
      simp only [List.length_map]
      refine ifB (fun h2 => ?_) fun h2 => ?_
      · have e : start0 xs ys st = !st := by unfold start0; rw [h1, show decide ((xs.length : Int) = ys.length) = true by simpa using h2]; simp
        rw [e]
        walk_at "e.3.Op1"
        refine Op1.not ?_
        walk_at "run.1.Eq"; exact rfl
      · have e : start0 xs ys st = false := by unfold start0; rw [h1, show decide ((xs.length : Int) = ys.length) = false by simpa using h2]; rfl
        rw [e]
        walk_at "run.1.Eq"; exact rfl
  · rintro _ rfl
    skip
    refine Exs.cons ?_
    refine Ex.for (l := ((xs.zip ys).reverse).map pv) (ok := fun _ => True) (fun j Z => ∃ ov tv, Z = ⟨[⟨"self", none, some (.raw (.ref σ.x))⟩, ⟨"some", none, some (.lst (xs.map Lin.v))⟩, ⟨"others", none, some (.lst (ys.map Lin.v))⟩, ⟨"is_strict", none, some (.bool st)⟩, ⟨"found", none, some ((((xs.zip ys).reverse.take j).foldl (stepL D) (.tt (start0 xs ys st), ks)).1.v)⟩, ⟨"one", none, ov⟩, ⟨"other", none, tv⟩], P ++ gmem σ (stG V0 (((xs.zip ys).reverse.take j).foldl (stepL D) (.tt (start0 xs ys st), ks)).2) T⟩) ?_ (fun _ _ _ => trivial) ?_ ?_
    · walk_at "e0.5.OpL"
      refine OpL.zip (k1 := true) (k2 := true) (la := xs.map Lin.v) (lb := ys.map Lin.v) fun a => ?_
      walk_at "run.0.OpL"
      refine OpL.listZ (a := a) (k1 := true) (k2 := true) (la := xs.map Lin.v) (lb := ys.map Lin.v) rfl (by rw [pairsZ_lin, List.length_map]; omega) ?_
      walk_at "run.0.Ev"
      refine Ev.slice ?_
      dsimp only [EvO]
      walk_at "e0.2.Op1"
      refine Op1.neg ?_
      walk_at "run.0.Exists"; refine ⟨_, rfl, ?_⟩
      intro sl
      refine Op2.slice_rev (sl := sl) (M := P ++ gmem σ (stG V0 ks) T) rfl (by rw [pairsZ_lin, List.length_map, sizeLine_eq]; omega) ?_
      walk_at "run.0.Exists"
      rw [pairsZ_lin, ← List.map_reverse]
      exact ⟨_, MkIter.lst, none, none, rfl⟩
    · rintro j x Z F hj ⟨ov, tv, rfl⟩
      rw [List.getElem?_map] at hj
      obtain ⟨p, hp, rfl⟩ := Option.map_eq_some_iff.mp hj
      have hpm : p ∈ xs.zip ys := List.mem_reverse.mp (List.mem_of_getElem? hp)
      have hjl : j < 10 := by
        have := (List.getElem?_eq_some_iff.mp hp).1
        rw [List.length_reverse] at this; omega
      have hpo := hl p hpm
      have htk : ((xs.zip ys).reverse.take (j + 1)).foldl (stepL D) (.tt (start0 xs ys st), ks) = stepL D (((xs.zip ys).reverse.take j).foldl (stepL D) (.tt (start0 xs ys st), ks)) p := by
        rw [List.take_add_one, hp, List.foldl_append]; rfl
      have hf := foldE (D := D) ((xs.zip ys).reverse.take j) (.tt (start0 xs ys st), ks) (fun q hq => hl q (List.mem_reverse.mp (List.mem_of_mem_take hq))) TvB.tt
      rw [htk]
      generalize ((xs.zip ys).reverse.take j).foldl (stepL D) (.tt (start0 xs ys st), ks) = f at hf
      obtain ⟨hf1, hf2, hf3⟩ := hf
      have hle : f.2.length ≤ 1040 := by simp only [List.length_take, List.length_reverse] at hf2; omega
      have E := stepE (D := D) hpo hf3
      dsimp only
      rw [← List.append_assoc]
      unfold pv
      walk_at "a0.3.TW"; walk_at "b0.4.Exists"
      have la := E.a.pre.length_le; have la' := E.a.len
      have lb := E.b.pre.length_le; have lb' := E.b.len
      have lc := E.c.pre.length_le; have lc' := E.c.len
      have sz : ∀ ks : List Key, ks.length ≤ 2000 → (stG V0 ks).vars.length ≤ 100000 ∧ (stG V0 ks).made.length ≤ 100000 ∧ (stG V0 ks).tolds.length ≤ 90000 := fun ks h => by
        have := st_vars h0 ks; have := st_made V0 ks; have := st_tolds V0 ks; omega
      have dm : ∀ ks : List Key, ∀ e : Lin, (∀ q ∈ e.ps, 0 ≤ q.1 ∧ q.1 < 3) → ∀ q ∈ e.ps, DomAt (stG V0 ks) D q.1 := fun ks e h q hq => domAt_st (hD q.1 (h q hq).1 (h q hq).2) ks
      refine ⟨_, m_any_of (by exact hG) (by exact hS'), ?_⟩
      walk_at "m.0.Ev"
      refine Ev.lst ?_
      walk_at "l.2.Exists"
      refine ⟨_, m_compared (by exact hG) (by exact hS'), ?_⟩
      walk_at "m.3.OpL"
      obtain ⟨z1, z2, z3⟩ := sz f.2 (by omega)
      refine less_spec (by exact hG) (by rfl) (by exact hS') hpo.o1 hpo.o2 hpo.e1 hpo.e2 hpo.nz2 (dm _ _ hpo.v2) z1 z2 (by omega) ?_
      rw [show truthZ D (stG V0 f.2) true ((p.1.plus p.2 (-1)).plus ⟨[], 1⟩ 1) = _ from truth_st h0 true (ltL p)]
      dsimp only
      walk_at "run.2.Exists"
      refine ⟨_, m_all_of (by exact hG) (by exact hS'), ?_⟩
      walk_at "m.0.Ev"
      refine Ev.lst ?_
      walk_at "l.2.Exists"
      refine ⟨_, m_equal (by exact hG) (by exact hS'), ?_⟩
      walk_at "m.2.OpL"
      obtain ⟨y1, y2, y3⟩ := sz (truthK D true (ltL p) f.2).2 (by omega)
      refine equal_spec (by exact hG) (by rfl) (by exact hS') hpo.o1 hpo.o2 hpo.e1 hpo.nz1 (dm _ _ hpo.v1) y1 y2 (by omega) ?_
      rw [show truthZ D (stG V0 (truthK D true (ltL p) f.2).2) false (p.1.plus p.2 (-1)) = _ from truth_st h0 false (eqL p)]
      dsimp only
      walk_at "run.2.OpL"
      obtain ⟨x1, x2, x3⟩ := sz (truthK D false (eqL p) (truthK D true (ltL p) f.2).2).2 (by omega)
      refine all_spec (ts := [(truthK D false (eqL p) (truthK D true (ltL p) f.2).2).1, f.1]) (Nat.le_refl 2) ?_ (by exact hG) (by rfl) (by exact hS') x1 x2 x3 ?_
      · intro x s hm
        rw [st_vars h0]
        simp only [List.mem_cons, List.not_mem_nil, or_false] at hm
        rcases hm with hm | hm
        · exact (E.b.bit x s hm.symm).2
        · have := (hf3 x s hm.symm).2; omega
      rw [all_st h0]
      dsimp only
      walk_at "run.1.OpL"
      obtain ⟨w1, w2, w3⟩ := sz (allL [(truthK D false (eqL p) (truthK D true (ltL p) f.2).2).1, f.1] (truthK D false (eqL p) (truthK D true (ltL p) f.2).2).2).2 (by omega)
      refine any_spec (ts := [(truthK D true (ltL p) f.2).1, (allL [(truthK D false (eqL p) (truthK D true (ltL p) f.2).2).1, f.1] (truthK D false (eqL p) (truthK D true (ltL p) f.2).2).2).1]) (Nat.le_refl 2) ?_ (by exact hG) (by rfl) (by exact hS') w1 w2 w3 ?_
      · intro x s hm
        rw [st_vars h0]
        simp only [List.mem_cons, List.not_mem_nil, or_false] at hm
        rcases hm with hm | hm
        · have := (E.a.bit x s hm.symm).2; omega
        · exact (E.c.bit x s hm.symm).2
      rw [any_st h0]
      dsimp only
      walk_at "run.2.Back"
      rw [List.append_assoc]
      exact turnOK ⟨_, _, rfl⟩
    · rintro _ ⟨ov, tv, rfl⟩
      rw [List.length_map, List.take_length]
      walk_at "b0.3.Out"
      refine retR ?_
      exact q
end
end
section
inductive EsIs : List DictEntry → List (Str × Option Value) → Prop where
  | nil : EsIs [] []
  | cons {h : Int} {k : Str} {t : Tok} {v : Value} {ov : Option Value} {es : List DictEntry} {kvs : List (Str × Option Value)} : (∀ v', ov = some v' → v = v') → EsIs es kvs → EsIs (⟨h, .str k t, v⟩ :: es) ((k, ov) :: kvs)
noncomputable def DictIs (kvs : List (Str × Option Value)) (o : Obj) : Prop := ∃ es n, o = dictOf es n ∧ EsIs es kvs
theorem isStr_str (k name : Str) (t : Tok) : (Value.str k t).isStr name = (k == name) := rfl
theorem EsIs.get {name : Str} : ∀ {es : List DictEntry} {kvs : List (Str × Option Value)}, EsIs es kvs → ∃ f : Str → Option Value, (∀ name, getL name es = some (f name)) ∧ (∀ name v, kvs.lookup name = some (some v) → f name = some v) ∧ ∀ name, kvs.lookup name = none → f name = none
  | _, _, .nil => ⟨fun _ => none, fun _ => rfl, fun _ _ h => by simp at h, fun _ _ => rfl⟩
  | _, _, .cons (k := k) (v := v) (es := es) (kvs := kvs) hv r => by
    obtain ⟨f, h1, h2, h3⟩ := EsIs.get (name := name) r
    refine ⟨fun n => if k = n then some v else f n, fun n => ?_, fun n v' e => ?_, fun n e => ?_⟩
    · have h := h1 n
      unfold getL at h ⊢
      rw [List.find?_cons]
      show _ = some (if k = n then some v else f n)
      by_cases q : k = n
      · rw [if_pos q]; simp [isStr_str, q]
      · rw [if_neg q]
        have : ∀ t, (Value.str k t).isStr n = false := fun _ => beq_false_of_ne q
        simp only [this, List.any_cons]
        simpa [DictEntry.refKey] using h
    · rw [List.lookup_cons] at e
      show (if k = n then some v else f n) = _
      by_cases q : n = k
      · rw [if_pos q.symm]; rw [q, beq_self_eq_true] at e; cases e; rw [hv _ rfl]
      · rw [if_neg (fun x => q x.symm)]; rw [beq_false_of_ne q] at e; exact h2 n v' e
    · rw [List.lookup_cons] at e
      show (if k = n then some v else f n) = _
      by_cases q : n = k
      · rw [q, beq_self_eq_true] at e; cases e
      · rw [if_neg (fun x => q x.symm)]; rw [beq_false_of_ne q] at e; exact h3 n e
theorem EsIs.put {name : Str} {h : Int} {t : Tok} {v : Value} {ov : Option Value} (hv : ∀ v', ov = some v' → v = v') : ∀ {es : List DictEntry} {kvs : List (Str × Option Value)}, EsIs es kvs → kvs.lookup name = none → EsIs (putL name h (.str name t) v es) (kvs ++ [(name, ov)])
  | _, _, .nil, _ => .cons hv .nil
  | _, _, .cons (k := k) hv' r, e => by
    rw [List.lookup_cons] at e
    by_cases q : name = k
    · rw [q, beq_self_eq_true] at e; cases e
    · rw [beq_false_of_ne q] at e
      have : ∀ t, (Value.str k t).isStr name = false := fun _ => beq_false_of_ne fun x => q x.symm
      unfold putL
      rw [if_neg (by simp only [this]; decide)]
      exact .cons hv' (EsIs.put hv r e)
theorem EsIs.length : ∀ {es : List DictEntry} {kvs : List (Str × Option Value)}, EsIs es kvs → es.length = kvs.length
  | _, _, .nil => rfl
  | _, _, .cons _ r => by simp [EsIs.length r]
section
variable {C : Cx} {X : AS}
theorem filterMap_keys {α : Type} {f : Nat → Option (Nat × α)} (hf : ∀ a p, f a = some p → p.1 = a) : ∀ l : List Nat, ((l.filterMap f).map (·.1)).Sublist l
  | [] => .slnil
  | a :: l => by
    rw [List.filterMap_cons]
    cases e : f a with
    | none => exact (filterMap_keys hf l).cons _
    | some p => simp only [List.map_cons]; rw [hf a p e]; exact (filterMap_keys hf l).cons_cons _
theorem all0_nodup (h : Heap) (L : Addr) : ((all0 h L).map (·.1)).Nodup := by
  refine List.Nodup.sublist (filterMap_keys (fun a p e => ?_) _) List.nodup_range
  split at e
  · cases e
  · cases q : h.get? a with
    | none => rw [q] at e; cases e
    | some o => rw [q] at e; cases e; rfl
theorem StH.writeL {h h' : Heap} {m : Str → Option Value} (S : StH C X h) (hm : ∀ e ∈ X.ρ, SlotRep C h X.N m e) {i : Nat} {a : Addr} {mo mo' : MO} (hi : X.mem[i]? = some (a, mo)) (hn : h'.Ns C.env.locals m)
    (k : ∀ b o, b ≠ C.env.locals → b ≠ a → h.get? b = some o → h'.get? b = some o) (r : MRep C.G.prog C.G.w h' X.N a mo') : StH C { X with mem := X.mem.set i (a, mo') } h' := by
  obtain ⟨m0, ⟨oL, esL, epL, hoL, hdL, _⟩, _⟩ := S.ns
  have ha : (a, mo) ∈ X.mem := List.mem_of_getElem? hi
  have haN : a ∈ X.N := List.mem_map.mpr ⟨_, ha, rfl⟩
  have ham : a ∈ muts C X := List.mem_cons_of_mem _ (List.mem_append_right _ haN)
  have ek : ({ X with mem := X.mem.set i (a, mo') } : AS).N = X.N := keys_set hi
  have em : muts C { X with mem := X.mem.set i (a, mo') } = muts C X := by simp only [muts, ek]
  have nd := List.nodup_cons.mp S.nodup
  have kk : ∀ (b : Addr) (o : Obj), h.get? b = some o → SeqObj o → b ∉ X.N → h'.get? b = some o ∧ b ∉ X.N := fun b o e q n => ⟨k b o (fun x => by
    subst x; obtain ⟨xs, j, hd⟩ := q
    rw [e] at hoL; cases hoL; rw [hdL] at hd; cases hd) (fun x => n (x ▸ haN)) e, n⟩
  refine ⟨S.std, fun b o e => k b o (fun x => S.apart _ (List.mem_cons_self ..) o (x ▸ e)) (fun x => S.apart _ ham o (x ▸ e)) (S.kept b o e), by rw [em]; exact S.apart, by rw [em]; exact S.big, by rw [em]; exact S.nodup,
    ⟨m, hn, fun e he => ?_⟩, fun c hc => ?_, S.names, S.cnodup, fun p hp => ?_⟩
  · rw [ek]; exact (hm e he).map kk fun c o n nl e' _ => ⟨k c o nl (fun x => n (x ▸ haN)) e', n⟩
  · obtain ⟨o, u, e1, e2⟩ := S.cells c hc
    exact ⟨o, u, k _ _ (fun x => nd.1 (List.mem_append_left _ (x ▸ hc))) (fun x => (List.nodup_append.mp nd.2).2.2 c hc a haN x) e1, e2⟩
  · rw [ek]
    rcases List.mem_or_eq_of_mem_set hp with hp | rfl
    · by_cases q : p.1 = a
      · obtain ⟨j, hj⟩ := List.getElem?_of_mem (show p ∈ X.mem.set i (a, mo') from by assumption)
        have hnN : (X.mem.map (·.1)).Nodup := (List.nodup_append.mp nd.2).2.1
        rw [List.getElem?_set] at hj
        by_cases hij : i = j
        · subst hij
          simp only [if_true] at hj
          split at hj
          · cases hj; exact r
          · cases hj
        · rw [if_neg hij] at hj
          exfalso
          have e1 : (X.mem.map (·.1))[j]? = some p.1 := by rw [List.getElem?_map, hj]; rfl
          have e2 : (X.mem.map (·.1))[i]? = some a := by rw [List.getElem?_map, hi]; rfl
          rw [q] at e1
          have l1 := (List.getElem?_eq_some_iff.mp e1).1
          exact hij ((List.getElem?_inj (List.getElem?_eq_some_iff.mp e2).1 hnN).mp (e2.trans e1.symm))
      · exact (S.mem p hp).map kk fun o e => k _ _ (fun x => nd.1 (List.mem_append_right _ (x ▸ List.mem_map.mpr ⟨p, hp, rfl⟩))) q e
    · exact r
noncomputable def V.known : V → Option Value
  | .raw v => some v
  | _ => Option.none
theorem Rep.known {h : Heap} {N : List Addr} {v : Value} {x : V} (r : Rep h N v x) : ∀ v', x.known = some v' → v = v' := by
  intro v' e
  cases x <;> first | (cases e; done) | (cases e; exact r)
noncomputable def atInst (K dx : Addr) : Obj → Prop := fun o => o = instObj K dx
theorem As.attr {o : Expr} {name : Str} {pos : Pos} {x dx K : Addr} {y : V} {kvs : List (Str × Option Value)} {Q : AS → Prop} (hs : findIn C.G.K (.ref K) "__setattr__" = some (some (.builtin "object.__setattr__"))) (hp : plainOver C.G.K K = true)
    (ht : takerIn C.G.K K name = some none) (hh : hasDictIn C.G.K K = true) (hnew : kvs.lookup name = none) (hz : kvs.length ≤ 60)
    (h : Ev C X o (fun z Y => z = .raw (.ref x) ∧ (x, .obj (atInst K dx)) ∈ Y.mem ∧ ∃ j, Y.mem[j]? = some (dx, .obj (DictIs kvs)) ∧ Q { Y with mem := Y.mem.set j (dx, .obj (DictIs (kvs ++ [(name, y.known)]))) })) : As C X (.Attribute o name pos) y Q := fun s S val r => by
  rw [assign_Attribute]
  refine wpAny_bind (wpAny_holding (h.run S fun a z Y s1 q S1 r1 m1 => ?_))
  obtain ⟨rfl, hx, j, hj, q⟩ := q
  cases r1
  refine wpAny_bind (wpAny_standAt (wpAny_bind (wpAny_holding ?_)))
  have ry := (r.mono S.H m1)
  obtain ⟨ox, hox, rfl⟩ := S1.H.mem _ hx
  obtain ⟨od, hod, es, n, rfl, he⟩ := S1.at hj
  obtain ⟨m, hm, F, N⟩ := S1.fr
  have hdN : dx ∈ Y.N := List.mem_map.mpr ⟨_, List.mem_of_getElem? hj, rfl⟩
  have hdL : dx ≠ C.env.locals := fun e => (List.nodup_cons.mp S1.H.nodup).1 (List.mem_append_right _ (e ▸ hdN))
  obtain ⟨pre, post, hpp⟩ := List.append_of_mem (mem_all0.mpr ⟨hod, hdL⟩)
  have nd := all0_nodup s1.heap C.env.locals
  rw [hpp] at nd N
  simp only [List.map_append, List.map_cons, List.nodup_append, List.nodup_cons] at nd
  have h1 : ∀ p ∈ pre, p.1 ≠ dx := fun p hp => nd.2.2 p.1 (List.mem_map.mpr ⟨p, hp, rfl⟩) dx (.head _)
  have h2 : ∀ p ∈ post, p.1 ≠ dx := fun p hp e => nd.2.1.1 (e ▸ List.mem_map.mpr ⟨p, hp, rfl⟩)
  have I : InstAt s1.heap x (instObj K dx) K (some (dictOf es n)) := ⟨hox, rfl, rfl, hod⟩
  obtain ⟨f, hf, _, _⟩ := EsIs.get (name := name) he
  refine set_plain S1.K I hs (osa_dict (s := { s1 with toks := s1.toks + 1 }) F N S1.K I rfl hp ht hh (by rw [lookIn_dict, hf]; rfl) h1 h2 (putName_dict ..) rfl ?_ fun h' F' N' => ?_)
  · have := (EsIs.put (h := PyData.keyHash C.G.w.params name) (t := s1.toks + 1) ry.known he hnew).length
    simp only [List.length_append, List.length_cons, List.length_nil] at this
    show _ ≤ 1000
    rw [this]; omega
  · refine wpAny_release ?_
    have k : ∀ b o, b ≠ C.env.locals → b ≠ dx → s1.heap.get? b = some o → h'.get? b = some o := fun b o n1 n2 e => by
      have : (b, o) ∈ all0 s1.heap C.env.locals := mem_all0.mpr ⟨e, n1⟩
      rw [hpp] at this
      refine (N' (b, o) ?_).1
      rcases List.mem_append.mp this with q | q
      · exact List.mem_append_left _ q
      · rcases List.mem_cons.mp q with q | q
        · cases q; exact absurd rfl n2
        · exact List.mem_append_right _ (.tail _ q)
    have hnew' := (N' (dx, _) (List.mem_append_right _ (.head _))).1
    refine good_trans m1 (fin (Y := { Y with mem := Y.mem.set j (dx, .obj (DictIs (kvs ++ [(name, y.known)]))) }) S1 (S1.H.writeL hm hj F'.ns k ⟨_, hnew', _, _, rfl, he.put ry.known hnew⟩) (fun b o e nb => ⟨k b o (fun x => nb (x ▸ List.mem_cons_self ..)) (fun x => N_of_muts nb (x ▸ hdN)) e, ?_⟩) rfl q)
    simpa only [muts, AS.N, keys_set hj] using nb
end
end
section
section
variable {C : Cx} {X Y Z : AS}
theorem fn_exit {Q : V → AS → Prop} {n : Nat} {A' : Around} {env' : Env} {cells' : List Addr} {s s'' : Shared} {v : V} {val : Value} (S : St C X s) (S'' : St ⟨C.G, n, A', env', cells', fun b o => s.heap.get? b = some o ∧ b ∉ X.N⟩ Y s'')
    (hZ : Z.ρ = X.ρ) (hsub : Z.mem.Sublist Y.mem) (hq : Q v Z) (rv : Rep s''.heap Y.N val v) : Good C X s.heap RV Q val s'' := by
  have std := S.H.std
  have kept' : ∀ (b : Addr) (o : Obj), s.heap.get? b = some o → b ∉ X.N → s''.heap.get? b = some o := fun b o e hn => S''.H.kept b o ⟨e, hn⟩
  have hZN : ∀ b ∈ Z.N, b ∈ X.N ∨ s.heap.get? b = none := fun b hb => by
    cases e : s.heap.get? b with
    | none => exact .inr rfl
    | some o =>
      refine .inl (Classical.byContradiction fun hn => ?_)
      exact S''.H.apart b (List.mem_cons_of_mem _ (List.mem_append_right _ ((hsub.map _).subset hb))) o ⟨e, hn⟩
  have live_not : ∀ (b : Addr) (o : Obj), s.heap.get? b = some o → b ∉ X.N → b ∉ Z.N := fun b o e hn hb => by
    rcases hZN b hb with q | q
    · exact hn q
    · rw [e] at q; cases q
  have kseq' : ∀ (b : Addr) (o : Obj), s.heap.get? b = some o → SeqObj o → b ∉ X.N → s''.heap.get? b = some o ∧ b ∉ Z.N := fun b o e _ hn => ⟨kept' b o e hn, live_not b o e hn⟩
  have hLN : C.env.locals ∉ X.N := fun hm => (List.nodup_cons.mp S.H.nodup).1 (List.mem_append_right _ hm)
  have hcN : ∀ c ∈ C.cells, c ∉ X.N := fun c hc hm => (List.nodup_append.mp (List.nodup_cons.mp S.H.nodup).2).2.2 c hc c hm rfl
  have HZ : StH C Z s''.heap := by
    obtain ⟨m, hns0, hslots⟩ := S.H.ns
    refine ⟨std, fun b o e => kept' b o (S.H.kept b o e) fun hm => S.H.apart b (List.mem_cons_of_mem _ (List.mem_append_right _ hm)) o e, ?_, ?_, ?_, ⟨m, ?_, ?_⟩, ?_, hZ ▸ S.H.names, hZ ▸ S.H.cnodup, ?_⟩
    · intro b hb o hkp
      rcases List.mem_cons.mp hb with rfl | hb
      · exact S.H.apart _ (List.mem_cons_self ..) o hkp
      · rcases List.mem_append.mp hb with hb | hb
        · exact S.H.apart b (List.mem_cons_of_mem _ (List.mem_append_left _ hb)) o hkp
        · rcases hZN b hb with q | q
          · exact S.H.apart b (List.mem_cons_of_mem _ (List.mem_append_right _ q)) o hkp
          · rw [S.H.kept b o hkp] at q; cases q
    · intro b hb
      rcases List.mem_cons.mp hb with rfl | hb
      · exact S.H.big _ (List.mem_cons_self ..)
      · rcases List.mem_append.mp hb with hb | hb
        · exact S.H.big b (List.mem_cons_of_mem _ (List.mem_append_left _ hb))
        · exact S''.H.big b (List.mem_cons_of_mem _ (List.mem_append_right _ ((hsub.map _).subset hb)))
    · have nd := List.nodup_cons.mp S.H.nodup
      have nd2 := List.nodup_append.mp nd.2
      refine List.nodup_cons.mpr ⟨fun hb => ?_, List.nodup_append.mpr ⟨nd2.1, ((List.nodup_append.mp (List.nodup_cons.mp S''.H.nodup).2).2.1).sublist (hsub.map _), fun c hc b hb e => ?_⟩⟩
      · rcases List.mem_append.mp hb with hb | hb
        · exact nd.1 (List.mem_append_left _ hb)
        · obtain ⟨o, e⟩ := S.H.live _ (List.mem_cons_self ..)
          exact live_not _ o e hLN hb
      · subst e
        obtain ⟨o, u, e, _⟩ := S.H.cells c hc
        exact live_not _ o e (hcN c hc) hb
    · obtain ⟨o, es, ep, e, rest⟩ := hns0
      exact ⟨o, es, ep, kept' _ _ e hLN, rest⟩
    · intro e he
      rw [hZ] at he
      exact (hslots e he).map kseq' fun c o hn hc e' _ => ⟨kept' c o e' hn, live_not c o e' hn⟩
    · intro c hc
      obtain ⟨o, u, e, e'⟩ := S.H.cells c hc
      exact ⟨o, u, kept' _ _ e (hcN c hc), e'⟩
    · intro p hp
      have := S''.H.mem p (hsub.subset hp)
      exact this.map (fun b o e _ hn => ⟨e, fun hm => hn ((hsub.map _).subset hm)⟩) fun o e => e
  refine ⟨v, Z, hq, ⟨HZ, S''.gens, S''.os⟩, rv.map fun b o e _ hn => ⟨e, fun hm => hn ((hsub.map _).subset hm)⟩, fun b o e hn => ⟨kept' b o e (N_of_muts hn), fun hm => ?_⟩⟩
  rcases List.mem_cons.mp hm with rfl | hm
  · exact hn (List.mem_cons_self ..)
  · rcases List.mem_append.mp hm with hm | hm
    · exact hn (List.mem_cons_of_mem _ (List.mem_append_left _ hm))
    · exact live_not b o e (N_of_muts hn) hm
noncomputable abbrev cxX (G : GCx) (n : Nat) (A : Around) (scope : Scope) (L a : Addr) (qual : Str) (cd : Value) (clo : List (Str × Addr)) (Kp : Addr → Obj → Prop) : Cx := ⟨G, n, A, envX qual scope L a cd clo, [], Kp⟩
theorem fnX_code {a : Addr} {x : V} {Q : V → AS → Prop} {name qual pn : Str} {params : Arguments} {body : List Stmt} {scope : Scope} {dV kV doc pm cdv ct oc : Value} {an od : Option Addr} {osl : Array (Option Value)} {n : Nat} {clo : List (Str × Addr)} {A' : Around}
    (ho : C.G.K.lookup a = some ⟨oc, od, .func (fnX name qual params body scope clo dV kV doc pm an cdv ct), osl⟩) (hcd : codeIn C.G.K cdv qual = true)
    (hh : A'.handled = none) (hdp : A'.depth + 20 * n + 1 < recursionLimit) (hun : A'.units + 3 + 100 * n + 300 < cLine)
    (hargs : ∀ v : Value, bindArgs (fnX name qual params body scope clo dV kV doc pm an cdv ct) ⟨[v], []⟩ = pure [(pn, v)])
    (hpk : scope.names.lookup pn = some .local) (hcell : ∀ x ∈ scope.names, x.2 ≠ .cell)
    (hco : scope.isCoroutine = false) (hgen : scope.isGenerator = false) (hk : scope.kind = .function)
    (h : ∀ (L : Addr) (Kp : Addr → Obj → Prop), (∀ b o, C.Kp b o → Kp b o) → ∀ s', St (cxX C.G n (A'.deeper (envX qual scope L a cdv clo)) scope L a qual cdv clo Kp) ⟨[⟨pn, none, some x⟩], X.mem⟩ s' →
      _root_.PySem.wpAt (model C.G.prog C.G.w) (A'.deeper (envX qual scope L a cdv clo)) (.func body (envX qual scope L a cdv clo)) (execs body (envX qual scope L a cdv clo))
        (Good (cxX C.G n (A'.deeper (envX qual scope L a cdv clo)) scope L a qual cdv clo Kp) ⟨[⟨pn, none, some x⟩], X.mem⟩ s'.heap RF (Out X.ρ Q)) (fun _ _ => False) s')
    {s : Shared} (S : St C X s) {val : Value} (r : Rep s.heap X.N val x) {R : Result → Shared → Prop} (hR : ∀ v s', Good C X s.heap RV Q v s' → R (.ok (.ret v)) s') : codeAny (model C.G.prog C.G.w) A' (.call (.ref a) ⟨[val], []⟩) R s := by
  have std := S.H.std
  refine codeAny_call_function (by omega) (S.K _ _ ho) rfl hco hgen rfl (codeRec_of S.K hcd) ?_
  rw [hargs]
  refine wpAny_pure (wpAny_newFunctionEnv hcell (fun y hy => by rcases List.mem_singleton.mp hy with rfl; exact hpk) (fun h' hns hsb => ⟨S.top.nolimit.fresh _ hsb, ks_codeAny_funcAt ?_⟩) hk)
  have keep : ∀ b o, s.heap.get? b = some o → h'.get? b = some o := fun b o e => hsb.extBut b o (Nat.ne_of_lt (Heap.lt_size e)) (Heap.get?_push_of_some _ e)
  have hXN : ∀ b ∈ X.N, @LT.lt Nat _ b s.heap.objs.size := fun b hb => S.H.lt (List.mem_cons_of_mem _ (List.mem_append_right _ hb))
  have kseq : ∀ (b : Addr) (o : Obj), s.heap.get? b = some o → SeqObj o → b ∉ X.N → h'.get? b = some o ∧ b ∉ X.N := fun b o e _ q => ⟨keep b o e, q⟩
  have S' : St (cxX C.G n (A'.deeper (envX qual scope s.heap.objs.size a cdv clo)) scope s.heap.objs.size a qual cdv clo (fun b o => s.heap.get? b = some o ∧ b ∉ X.N)) ⟨[⟨pn, none, some x⟩], X.mem⟩ { s with heap := h', toks := s.toks + [(pn, val)].length } := by
    refine ⟨⟨⟨hk, rfl, rfl, ⟨_, rfl⟩, fun b o e => ⟨S.base b o e, fun hm => S.H.apart b (List.mem_cons_of_mem _ (List.mem_append_right _ hm)) o (std.base b o e)⟩, std.top, std.K, hh, ?_, ?_⟩, fun b o e => keep b o e.1, ?_, ?_, ?_, ⟨_, hns, ?_⟩, fun c hc => (nomatch hc), ?_, ?_, ?_⟩, S.gens, S.os⟩
    · show A'.depth + 1 + 20 * n < recursionLimit; omega
    · show A'.units + 3 + 100 * n + 300 < cLine; omega
    · intro b hb o ⟨e, hn⟩
      rcases List.mem_cons.mp hb with rfl | hb
      · exact absurd (Heap.lt_size e) (Nat.lt_irrefl _)
      · exact hn (by simpa using hb)
    · intro b hb
      rcases List.mem_cons.mp hb with rfl | hb
      · exact S.H.big3
      · exact S.H.big b (List.mem_cons_of_mem _ (List.mem_append_right _ (by simpa using hb)))
    · refine List.nodup_cons.mpr ⟨fun hb => ?_, ?_⟩
      · exact absurd (hXN _ (by simpa using hb)) (Nat.lt_irrefl _)
      · simpa using (List.nodup_append.mp (List.nodup_cons.mp S.H.nodup).2).2.1
    · intro e he
      rcases List.mem_singleton.mp he with rfl
      (try unfold SlotRep); unfold SlotRepE
      exact ⟨hpk, fun v hv => by cases hv; exact ⟨val, by simp, r.map kseq⟩⟩
    · simp
    · simp
    · intro p hp
      exact (S.H.mem p hp).map kseq fun o e => keep _ _ e
  refine ks_wpAt_mono (h _ _ (fun b o e => ⟨S.H.kept b o e, fun hm => S.H.apart b (List.mem_cons_of_mem _ (List.mem_append_right _ hm)) o e⟩) _ S') (fun f s'' g => ?_) fun _ _ e => e.elim
  obtain ⟨fl, Y, ⟨v, Z, hret, hZ, hsub, hq⟩, S'', rf, mo⟩ := g
  cases fl with
  | ret x => obtain ⟨_, e, r0⟩ := RF.ret_inv rf; rw [e]; exact hR _ _ (fn_exit S S'' hZ hsub hq ((show v = x from hret) ▸ r0))
  | next => rw [show f = .next from rf]; exact hR _ _ (fn_exit S S'' hZ hsub hq ((show v = .none from hret) ▸ .none))
  | brk => exact hret.elim
  | cont => exact hret.elim
theorem OpL.make {K fI : Addr} {Q : V → AS → Prop} (hm : makesIn C.G.K K = true) (hi : findIn C.G.K (.ref K) "__init__" = some (some (.ref fI))) (hf : typeIn C.G.K (.ref fI) = some (.type "function"))
    (h : ∀ (x dx : Addr) (A' : Around), A'.handled = none → A'.depth ≤ C.A.depth + 2 → A'.units ≤ C.A.units + 10 → ∀ s1, St C ⟨X.ρ, (x, .obj (atInst K dx)) :: (dx, .obj (DictIs [])) :: X.mem⟩ s1 →
      ∀ R : Result → Shared → Prop, (∀ v s', Good C ⟨X.ρ, (x, .obj (atInst K dx)) :: (dx, .obj (DictIs [])) :: X.mem⟩ s1.heap RV (fun v Y => v = .none ∧ Q (.raw (.ref x)) Y) v s' → R (.ok (.ret v)) s') →
      codeAny (model C.G.prog C.G.w) A' (.call (.ref fI) ⟨[.ref x], []⟩) R s1) :
    OpL C X (fun vs => call (.ref K) vs) [] RV Q := fun s S vs r => by
  cases r
  have S1 : St C ⟨X.ρ, (s.heap.objs.size, .obj (DictIs [])) :: X.mem⟩ { s with heap := s.heap.push emptyDict } :=
    S.heap (S.H.alloc (mo := .obj (DictIs [])) ⟨_, Heap.get?_push_size _ rfl, [], 0, rfl, .nil⟩)
  have S2 : St C ⟨X.ρ, ((s.heap.push emptyDict).objs.size, .obj (atInst K s.heap.objs.size)) :: (s.heap.objs.size, .obj (DictIs [])) :: X.mem⟩ { s with heap := (s.heap.push emptyDict).push (instObj K s.heap.objs.size) } :=
    S1.heap (S1.H.alloc (mo := .obj (atInst K s.heap.objs.size)) ⟨_, Heap.get?_push_size _ rfl, rfl⟩)
  have mo : Mono C X s.heap ⟨X.ρ, ((s.heap.push emptyDict).objs.size, .obj (atInst K s.heap.objs.size)) :: (s.heap.objs.size, .obj (DictIs [])) :: X.mem⟩ ((s.heap.push emptyDict).push (instObj K s.heap.objs.size)) :=
    (Mono.alloc _ (.obj (DictIs []))).trans (Mono.alloc _ (.obj (atInst K s.heap.objs.size)))
  rw [Heap.size_push] at S2 mo
  obtain ⟨hp, g, d, t, os⟩ := s
  refine wpAny_call (make_core (makes_of S.K hm) (looks_findIn S.K hi) (fun self => bind_fn S.K self hf) (.inl rfl) ?_)
  refine h _ _ (C.A.under (.builtin "type.__call__" ⟨[.ref K], []⟩)) S.H.std.hand ?_ ?_ _ S2 _ fun v s' g => ?_
  · show C.A.depth + Code.weight _ ≤ _
    rw [show (Code.builtin "type.__call__" { pos := [Value.ref K] }).weight = 1 from rfl]; exact Nat.add_le_add_left (by decide) _
  · show C.A.units + Code.cUnits _ ≤ _
    rw [show (Code.builtin "type.__call__" { pos := [Value.ref K] }).cUnits = 1 from rfl]; exact Nat.add_le_add_left (by decide) _
  · obtain ⟨y, Y, ⟨rfl, q⟩, S3, r3, m3⟩ := g
    cases r3
    exact ⟨rfl, _, Y, q, S3, .raw _, mo.trans m3⟩
end
end
section
theorem Exs.at {C : Cx} {X : AS} {body : List Stmt} {Q : Fl → AS → Prop} {c : Code} (h : Exs C X body Q) {s : Shared} (S : St C X s) : _root_.PySem.wpAt (model C.G.prog C.G.w) C.A c (execs body C.env) (Good C X s.heap RF Q) (fun _ _ => False) s :=
  wpAt_of_wpAny (h s S)
section
variable {C : Cx} {X : AS} {Q : V → AS → Prop}
theorem exact_empty : emptyDict.ExactDict := by exact ⟨rfl, rfl, rfl⟩
theorem Ev.dict0K {pos : Pos} (q : ∀ a, Q (.raw (.ref a)) { X with mem := (a, .dK []) :: X.mem }) : Ev C X (.Dict [] [] pos) Q := fun s S => by
  refine wpAny_Dict_empty (fin S (Y := { X with mem := (s.heap.objs.size, .dK []) :: X.mem }) (S.H.alloc (mo := .dK []) ⟨_, #[], 0, [], Heap.get?_push_size _ rfl, exact_empty, rfl, rfl, .nil, .nil⟩) (Mono.alloc _ _) (.raw _) (q _))
theorem flat_new {n : Nat} (hG : HG C) (hlv : C.lv = n+1) (q : ∀ x dx vd td, Q (.raw (.ref x)) ⟨X.ρ, (td, .lst []) :: (vd, .lst []) :: (x, .obj (atInst 128 dx)) :: (dx, .obj (DictIs [("vars", some (.ref vd)), ("tolds", some (.ref td)), ("goal", none), ("shown", none)])) :: X.mem⟩) :
    OpL C X (fun vs => call (.ref 128) vs) [] RV Q := by
  refine OpL.make (fI := 97) (by rw [hG]; rfl) (by rw [hG]; rfl) (by rw [hG]; rfl) ?_
  intro x dx A' hh hd hu s1 S1 R hR
  have h1 := S1.H.std.depth
  have h2 := S1.H.std.units
  rw [hlv] at h1 h2
  refine fnX_code (n := n) (pn := "self") (x := .raw (.ref x)) (Q := fun v Y => v = .none ∧ Q (.raw (.ref x)) Y) (clo := []) (ho := (congrArg (fun K => List.lookup 97 K) hG).trans rfl) (by rw [hG]; rfl) hh (by omega) (by omega) (by intro v; rfl) rfl (by decide) rfl rfl rfl ?_ S1 (.raw _) hR
  intro L Kp hK s' S'
  refine Exs.at ?_ S'
  walk_at "b0.2.Ev"
  refine Ev.mlst (EvL.nil ⟨small_ok (by decide), fun vd => ?_⟩)
  refine As.attr (x := x) (dx := dx) (K := 128) (kvs := []) (by rw [hG]; rfl) (by rw [hG]; rfl) (by rw [hG]; rfl) (by rw [hG]; rfl) rfl (Nat.le_of_ble_eq_true rfl) ?_
  walk_at "e0.1.And"; refine ⟨rfl, ?_⟩
  refine ⟨by simp, 2, rfl, ?_⟩
  dsimp only [List.set]
  walk_at "run.2.Ev"
  refine Ev.mlst (EvL.nil ⟨small_ok (by decide), fun td => ?_⟩)
  refine As.attr (x := x) (dx := dx) (K := 128) (kvs := [("vars", some (.ref vd))]) (by rw [hG]; rfl) (by rw [hG]; rfl) (by rw [hG]; rfl) (by rw [hG]; rfl) rfl (Nat.le_of_ble_eq_true rfl) ?_
  walk_at "e0.1.And"; refine ⟨rfl, ?_⟩
  refine ⟨by simp, 3, rfl, ?_⟩
  dsimp only [List.set]
  walk_at "run.6.As"
  refine As.attr (x := x) (dx := dx) (K := 128) (kvs := [("vars", some (.ref vd)), ("tolds", some (.ref td))]) (by rw [hG]; rfl) (by rw [hG]; rfl) (by rw [hG]; rfl) (by rw [hG]; rfl) rfl (Nat.le_of_ble_eq_true rfl) ?_
  walk_at "e0.1.And"; refine ⟨rfl, ?_⟩
  refine ⟨by simp, 3, rfl, ?_⟩
  dsimp only [List.set]
  walk_at "run.4.As"
  refine As.attr (x := x) (dx := dx) (K := 128) (kvs := [("vars", some (.ref vd)), ("tolds", some (.ref td)), ("goal", none)]) (by rw [hG]; rfl) (by rw [hG]; rfl) (by rw [hG]; rfl) (by rw [hG]; rfl) rfl (Nat.le_of_ble_eq_true rfl) ?_
  walk_at "e0.1.And"; refine ⟨rfl, ?_⟩
  refine ⟨by simp, 3, rfl, ?_⟩
  dsimp only [List.set]
  walk_at "run.1.Out"
  exact ⟨.none, ⟨X.ρ, (td, .lst []) :: (vd, .lst []) :: (x, .obj (atInst 128 dx)) :: (dx, _) :: X.mem⟩, .next, rfl, .refl _, rfl, q x dx vd td⟩
theorem gath_init {n : Nat} {x dx : Addr} {M : List (Addr × MO)} {ρ : List Sl} {A' : Around} (hG : HG C) (hh : A'.handled = none) (hdp : A'.depth + 20 * (n+1) + 1 < recursionLimit) (hun : A'.units + 3 + 100 * (n+1) + 300 < cLine)
    (q : ∀ fl dfl vd td md, Q .none ⟨ρ, (md, .dK []) :: (td, .lst []) :: (vd, .lst []) :: (fl, .obj (atInst 128 dfl)) :: (dfl, .obj (DictIs [("vars", some (.ref vd)), ("tolds", some (.ref td)), ("goal", none), ("shown", none)])) :: (x, .obj (atInst 416 dx)) :: (dx, .obj (DictIs [("flat", some (.ref fl)), ("made", some (.ref md))])) :: M⟩)
    {s : Shared} (S : St C ⟨ρ, (x, .obj (atInst 416 dx)) :: (dx, .obj (DictIs [])) :: M⟩ s) {R : Result → Shared → Prop} (hR : ∀ v s', Good C ⟨ρ, (x, .obj (atInst 416 dx)) :: (dx, .obj (DictIs [])) :: M⟩ s.heap RV Q v s' → R (.ok (.ret v)) s') :
    codeAny (model C.G.prog C.G.w) A' (.call (.ref 196) ⟨[.ref x], []⟩) R s := by
  refine fnX_code (n := n+1) (pn := "self") (x := .raw (.ref x)) (Q := Q) (clo := []) (ho := (congrArg (fun K => List.lookup 196 K) hG).trans rfl) (by rw [hG]; rfl) hh (by omega) (by omega) (by intro v; rfl) rfl (by decide) rfl rfl rfl ?_ S (.raw _) hR
  intro L Kp hK s' S'
  refine Exs.at ?_ S'
  walk_at "b0.3.OpL"
  refine flat_new (by exact hG) rfl fun fl dfl vd td => ?_
  refine As.attr (x := x) (dx := dx) (K := 416) (kvs := []) (by rw [hG]; rfl) (by rw [hG]; rfl) (by rw [hG]; rfl) (by rw [hG]; rfl) rfl (Nat.le_of_ble_eq_true rfl) ?_
  walk_at "e0.1.And"; refine ⟨rfl, ?_⟩
  refine ⟨by simp, 5, rfl, ?_⟩
  dsimp only [List.set]
  walk_at "run.2.Ev"
  refine Ev.dict0K fun md => ?_
  refine As.attr (x := x) (dx := dx) (K := 416) (kvs := [("flat", some (.ref fl))]) (by rw [hG]; rfl) (by rw [hG]; rfl) (by rw [hG]; rfl) (by rw [hG]; rfl) rfl (Nat.le_of_ble_eq_true rfl) ?_
  walk_at "e0.1.And"; refine ⟨rfl, ?_⟩
  refine ⟨by simp, 6, rfl, ?_⟩
  dsimp only [List.set]
  walk_at "run.1.Out"
  exact ⟨.none, ⟨ρ, _⟩, .next, rfl, .refl _, q fl dfl vd td md⟩
theorem functions_new {n : Nat} (hG : HG C) (hlv : C.lv = n+3) (hfile : ((C.G.prog.main.file : Str) == "/claim/cut.py") = true) (htop : (C.G.prog.main.scope.names.lookup ("super" : Str)).isSome = false)
    (q : ∀ x dx fl dfl vd td md, Q (.raw (.ref x)) ⟨X.ρ, (md, .dK []) :: (td, .lst []) :: (vd, .lst []) :: (fl, .obj (atInst 128 dfl)) :: (dfl, .obj (DictIs [("vars", some (.ref vd)), ("tolds", some (.ref td)), ("goal", none), ("shown", none)])) :: (x, .obj (atInst 416 dx)) :: (dx, .obj (DictIs [("flat", some (.ref fl)), ("made", some (.ref md)), ("partial", none)])) :: X.mem⟩) :
    OpL C X (fun vs => call (.ref 416) vs) [] RV Q := by
  refine OpL.make (fI := 296) (by rw [hG]; rfl) (by rw [hG]; rfl) (by rw [hG]; rfl) ?_
  intro x dx A' hh hd hu s1 S1 R hR
  have h1 := S1.H.std.depth
  have h2 := S1.H.std.units
  rw [hlv] at h1 h2
  refine fnX_code (n := n+2) (pn := "self") (x := .raw (.ref x)) (Q := fun v Y => v = .none ∧ Q (.raw (.ref x)) Y) (clo := [("__class__", 284)]) (ho := (congrArg (fun K => List.lookup 296 K) hG).trans rfl) (by rw [hG]; rfl) hh (by omega) (by omega) (by intro v; rfl) rfl (by decide) rfl rfl rfl ?_ S1 (.raw _) hR
  intro L Kp hK s' S'
  clear S1 hR h1 h2
  have kx : ∀ a o, List.lookup a (KF C.G.w.params) = some o → C.G.K.lookup a = some o := fun a o e => (congrArg (fun K => List.lookup a K) hG).trans e
  obtain ⟨h0', g, d, t, os⟩ := s'
  have hD1 := S'.K _ _ (kx 416 _ rfl)
  refine ks_wpAt_execs_cons (ks_wpAt_Expr_any (ks_wpAt_MethodCall ?_ (by rfl)) (by rfl) (by rfl))
  refine ks_wpAt_super_base rfl rfl (by decide) rfl (S'.K _ _ (kx 296 _ rfl)) rfl rfl rfl (S'.K _ _ (kx 295 _ rfl)) rfl rfl hfile htop ?_
  refine ks_loadName_global rfl rfl (loadGlobal_builtin (mg := C.G.mg) (mb := C.G.mb) S'.top.g (mg_none_of S'.H.std.K S'.H.std.top.g (by rw [hG]; rfl)) S'.top.b ((S'.H.std.top.builtins "super" (by decide)).trans rfl) ⟨rfl, ?_⟩)
  refine wpAny_loadName_free rfl rfl rfl ⟨_, S'.K _ _ (kx 284 _ rfl), rfl⟩ ?_
  obtain ⟨m, hm, hs⟩ := S'.H.ns
  have r0 := hs _ (List.Mem.head _)
  (try unfold SlotRep at r0); unfold SlotRepE at r0
  obtain ⟨_, hv⟩ := r0
  obtain ⟨val, e, rv⟩ := hv _ rfl
  cases rv
  refine wpAny_loadName_local rfl rfl hm e ?_
  refine ks_wpAny_isType_cls hD1 rfl ⟨rfl, ?_⟩
  obtain ⟨ox, hx, rfl⟩ := S'.H.mem (x, .obj (atInst 416 dx)) (.head _)
  refine ks_wpAny_call_super hD1 rfl hx rfl (fun c e => by cases e) (looks_mroIn S'.K (by rw [hG]; rfl)) (fun h' e k => ?_)
  have S2 := S'.heap (S'.H.keeps k)
  have hc := (congrArg (fun K => clsIn K 416) hG).trans rfl
  refine ks_wpAny_getMethod_super e (looks_opaque S2.K (by rw [hG]; rfl)) (l₀ := [.ref 416, .ref 276, .type "object"]) (fun A Q E s k q => wpAny_bind ((looks_clsIn S2.K hc) A _ E s k (wpAny_pure q))) rfl S2.K (f := 196) (by rw [hG]; rfl) (S2.K _ _ (kx 196 _ rfl)) rfl (fun e => by have hx' : h0'.get? x = _ := hx; rw [e] at hx'; have hD' : h0'.get? 416 = _ := hD1; rw [hx'] at hD'; cases hD') (by decide) ?_
  have S3 := S2.heap (S2.H.push (methodObj (.ref 196) (.ref x)))
  refine callWith_M0 (K := C.G.K) (q := h'.objs.size) (g := 196) (self := .ref x) ⟨Heap.get?_push_size _ rfl, S3.K⟩ (by rw [hG]; rfl) (wpAny_call (ks_codeAny_call_bound (Heap.get?_push_size _ rfl) ?_))
  have h1 : A'.depth + 1 + 20 * (n + 2) < recursionLimit := S'.H.std.depth
  have h2 : A'.units + 3 + 100 * (n + 2) + 300 < cLine := S'.H.std.units
  refine gath_init (n := n) (Q := fun v Y => ∃ fl dfl vd td md, v = .none ∧ Y = ⟨[⟨"self", none, some (.raw (.ref x))⟩], (md, .dK []) :: (td, .lst []) :: (vd, .lst []) :: (fl, .obj (atInst 128 dfl)) :: (dfl, .obj (DictIs [("vars", some (.ref vd)), ("tolds", some (.ref td)), ("goal", none), ("shown", none)])) :: (x, .obj (atInst 416 dx)) :: (dx, .obj (DictIs [("flat", some (.ref fl)), ("made", some (.ref md))])) :: X.mem⟩)
    (by exact hG) S'.H.std.hand (by show A'.depth + 1 + 20 * (n+1) + 1 < _; omega) (by show A'.units + 3 + 3 + 100 * (n+1) + 300 < _; omega) (fun fl dfl vd td md => ⟨fl, dfl, vd, td, md, rfl, rfl⟩) (S3.toks _) fun v s4 g4 => ?_
  obtain ⟨_, _, ⟨fl, dfl, vd, td, md, rfl, rfl⟩, S4, _, m4⟩ := g4
  have mo := (Mono.keeps (C := cxX C.G (n+2) (A'.deeper _) _ L 296 _ _ _ Kp) (X := ⟨[⟨"self", none, some (.raw (.ref x))⟩], (x, .obj (atInst 416 dx)) :: (dx, .obj (DictIs [])) :: X.mem⟩) (fun a o e => Heap.get?_push_of_some (methodObj (.ref 196) (.ref x)) (k a o e))).trans m4
  refine ks_wpAt_mono (Exs.at ?_ S4) (fun _ _ g => good_trans mo g) fun _ _ e => e
  walk_at "b0.3.As"
  refine As.attr (x := x) (dx := dx) (K := 416) (kvs := [("flat", some (.ref fl)), ("made", some (.ref md))]) (by rw [hG]; rfl) (by rw [hG]; rfl) (by rw [hG]; rfl) (by rw [hG]; rfl) rfl (Nat.le_of_ble_eq_true rfl) ?_
  walk_at "e0.1.And"; refine ⟨rfl, ?_⟩
  refine ⟨by simp, 6, rfl, ?_⟩
  dsimp only [List.set]
  walk_at "run.1.Out"
  exact ⟨.none, ⟨X.ρ, (md, .dK []) :: (td, .lst []) :: (vd, .lst []) :: (fl, .obj (atInst 128 dfl)) :: (dfl, .obj (DictIs [("vars", some (.ref vd)), ("tolds", some (.ref td)), ("goal", none), ("shown", none)])) :: (x, .obj (atInst 416 dx)) :: (dx, _) :: X.mem⟩, .next, rfl, .refl _, rfl, q x dx fl dfl vd td md⟩
end
end
section
noncomputable def atL (l : List Int) (x : Int) : Int := l.getD x.toNat 0
noncomputable def dotZ (f : Int → Int) : List Int → List Int → Int
  | a :: as, x :: xs => a * f x + dotZ f as xs
  | _, _ => 0
noncomputable def evR (f : Int → Int) (r : Row) : Bool := if r.le then decide (dotZ f r.co r.xs ≤ r.c) else decide (dotZ f r.co r.xs = r.c)
noncomputable def evB (f : Int → Int) (b : Int × Bool) : Bool := decide (f b.1 = 1) == b.2
noncomputable def evK (f : Int → Int) : Key → Bool
  | .reif r => evR f r
  | .or xs => xs.any fun x => decide (f x = 1)
  | .all bs => bs.all (evB f)
noncomputable def b01 (b : Bool) : Int := if b then 1 else 0
noncomputable def vls : List Int → List Key → List Int
  | a, [] => a
  | a, k :: ks => vls (a ++ [b01 (evK (atL a) k)]) ks
theorem vls_n (a : List Int) : vls a [] = a := rfl
theorem vls_c (a : List Int) (k : Key) (ks : List Key) : vls a (k :: ks) = vls (a ++ [b01 (evK (atL a) k)]) ks := rfl
noncomputable def vsK : Key → List Int
  | .reif r => r.xs
  | .or xs => xs
  | .all bs => bs.map (·.1)
noncomputable def shapeK : Key → Prop
  | .reif r => r.xs ≠ []
  | .or xs => ∃ x y, xs = [x, y]
  | .all bs => ∃ p q, bs = [p, q] ∧ p.1 ≠ q.1
structure KW (n : Nat) (k : Key) : Prop where
  vs : ∀ x ∈ vsK k, 0 ≤ x ∧ x < (n : Int)
  sh : shapeK k
  len : (vsK k).length ≤ 10
noncomputable def WFk (ks : List Key) : Prop := ∀ i k, ks[i]? = some k → KW (3 + i) k
noncomputable def Tval (f : Int → Int) : Tv → Bool
  | .tt b => b
  | .bit x s => evB f (x, s)
theorem vls_len : ∀ (ks : List Key) (a : List Int), (vls a ks).length = a.length + ks.length
  | [], a => rfl
  | k :: ks, a => by rw [vls_c, vls_len ks]; simp; omega
theorem vls_append : ∀ (ks ks' : List Key) (a : List Int), vls a (ks ++ ks') = vls (vls a ks) ks'
  | [], _, _ => rfl
  | k :: ks, ks', a => by rw [List.cons_append, vls_c, vls_c, vls_append ks]
theorem vls_pre : ∀ (ks : List Key) (a : List Int), a <+: vls a ks
  | [], a => List.prefix_refl _
  | k :: ks, a => (List.prefix_append _ _).trans (vls_pre ks _)
theorem atL_pre {a b : List Int} (h : a <+: b) {x : Int} (hx : x < a.length) (h0 : 0 ≤ x) : atL b x = atL a x := by
  obtain ⟨c, rfl⟩ := h
  unfold atL
  rw [List.getD_eq_getElem?_getD, List.getD_eq_getElem?_getD, List.getElem?_append_left (by omega)]
theorem vls_mono {one : List Int} {ks ks' : List Key} (h : ks <+: ks') : vls one ks <+: vls one ks' := by
  obtain ⟨c, rfl⟩ := h
  rw [vls_append]; exact vls_pre _ _
theorem dot_congr {f g : Int → Int} : ∀ {as xs : List Int}, (∀ x ∈ xs, f x = g x) → dotZ f as xs = dotZ g as xs
  | [], xs, _ => by cases xs <;> rfl
  | _ :: _, [], _ => rfl
  | a :: as, x :: xs, h => by show a * f x + dotZ f as xs = a * g x + dotZ g as xs; rw [h x (.head _), dot_congr fun y hy => h y (.tail _ hy)]
theorem evR_congr {f g : Int → Int} {r : Row} (h : ∀ x ∈ r.xs, f x = g x) : evR f r = evR g r := by unfold evR; rw [dot_congr h]
theorem evB_congr {f g : Int → Int} {b : Int × Bool} (h : f b.1 = g b.1) : evB f b = evB g b := by unfold evB; rw [h]
theorem any_congr' {α : Type} {p q : α → Bool} : ∀ {l : List α}, (∀ x ∈ l, p x = q x) → l.any p = l.any q
  | [], _ => rfl
  | x :: l, h => by rw [List.any_cons, List.any_cons, h x (.head _), any_congr' fun y hy => h y (.tail _ hy)]
theorem all_congr' {α : Type} {p q : α → Bool} : ∀ {l : List α}, (∀ x ∈ l, p x = q x) → l.all p = l.all q
  | [], _ => rfl
  | x :: l, h => by rw [List.all_cons, List.all_cons, h x (.head _), all_congr' fun y hy => h y (.tail _ hy)]
theorem evK_congr {f g : Int → Int} {k : Key} (h : ∀ x ∈ vsK k, f x = g x) : evK f k = evK g k := by
  cases k with
  | reif r => exact evR_congr h
  | or xs => exact any_congr' fun x hx => by rw [h x hx]
  | all bs => exact all_congr' fun b hb => evB_congr (h b.1 (List.mem_map_of_mem hb))
theorem vls_at {one : List Int} (h3 : one.length = 3) {ks : List Key} (W : WFk ks) {i : Nat} {k : Key} (hk : ks[i]? = some k) : atL (vls one ks) ((3 + i : Nat) : Int) = b01 (evK (atL (vls one ks)) k) := by
  have hi := (List.getElem?_eq_some_iff.mp hk).1
  have e : ks = ks.take i ++ k :: ks.drop (i + 1) := by
    have e2 : ks[i] = k := by have := List.getElem?_eq_getElem hi; rw [hk] at this; exact (Option.some.inj this).symm
    rw [← e2, List.getElem_cons_drop, List.take_append_drop]
  have hl : (vls one (ks.take i)).length = 3 + i := by rw [vls_len, h3, List.length_take]; omega
  have hp : vls one (ks.take i) ++ [b01 (evK (atL (vls one (ks.take i))) k)] <+: vls one ks := by
    conv => rhs; rw [e]
    rw [vls_append, vls_c]; exact vls_pre _ _
  rw [atL_pre hp (by simp only [List.length_append, List.length_cons, List.length_nil, hl]; omega) (by omega)]
  have : atL (vls one (ks.take i) ++ [b01 (evK (atL (vls one (ks.take i))) k)]) ((3 + i : Nat) : Int) = b01 (evK (atL (vls one (ks.take i))) k) := by
    unfold atL
    rw [List.getD_eq_getElem?_getD, Int.toNat_natCast, ← hl, List.getElem?_append_right (Nat.le_refl _)]; simp
  rw [this]
  congr 1
  refine evK_congr fun x hx => ?_
  have := (W i k hk).vs x hx
  exact (atL_pre (vls_mono (List.take_prefix i ks)) (by rw [hl]; omega) this.1).symm
theorem KW.le {n m : Nat} {k : Key} (h : KW n k) (hm : n ≤ m) : KW m k := ⟨fun x hx => by have := h.vs x hx; omega, h.sh, h.len⟩
theorem WFk.add {ks : List Key} {k : Key} (W : WFk ks) (h : KW (3 + ks.length) k) : WFk (addK ks k) := by
  unfold addK
  split
  · exact W
  · intro i k' e
    by_cases hi : i < ks.length
    · rw [List.getElem?_append_left hi] at e; exact W i k' e
    · rw [List.getElem?_append_right (by omega)] at e
      have : i - ks.length = 0 := by
        have := (List.getElem?_eq_some_iff.mp e).1
        simp at this; omega
      rw [this] at e; cases e
      exact h.le (by omega)
theorem add_get (ks : List Key) (k : Key) : (addK ks k)[ks.idxOf k]? = some k := by
  unfold addK
  split
  · rename_i h; rw [List.getElem?_eq_getElem (List.idxOf_lt_length_of_mem h)]; simp
  · rename_i h; rw [List.idxOf_eq_length h]; simp
theorem add_right {one : List Int} (h3 : one.length = 3) {ks : List Key} {k : Key} (W : WFk ks) (h : KW (3 + ks.length) k) : atL (vls one (addK ks k)) (idxK ks k) = b01 (evK (atL (vls one (addK ks k))) k) :=
  vls_at h3 (W.add h) (add_get ks k)
theorem b01_eq (b : Bool) : decide (b01 b = 1) = b := by cases b <;> rfl
theorem Tval_not (f : Int → Int) (t : Tv) : Tval f t.not = !Tval f t := by
  cases t with
  | tt b => rfl
  | bit x s => cases s <;> simp [Tval, evB, Tv.not]
theorem Tval_congr {f g : Int → Int} {n : Nat} {t : Tv} (h : TvB n t) (hfg : ∀ x : Int, 0 ≤ x → x < n → f x = g x) : Tval f t = Tval g t := by
  cases t with
  | tt b => rfl
  | bit x s => have := h x s rfl; exact evB_congr (hfg x this.1 this.2)
theorem Tval_pre {one : List Int} (h3 : one.length = 3) {ks ks' : List Key} (h : ks <+: ks') {t : Tv} (ht : TvB (3 + ks.length) t) : Tval (atL (vls one ks')) t = Tval (atL (vls one ks)) t :=
  Tval_congr ht fun x h0 hx => atL_pre (vls_mono h) (by rw [vls_len, h3]; omega) h0
structure Right (one : List Int) (ks : List Key) (r : Tv × List Key) (b : Bool) : Prop where
  wf : WFk r.2
  val : Tval (atL (vls one r.2)) r.1 = b
theorem pairK_right {one : List Int} (h3 : one.length = 3) {ks : List Key} (W : WFk ks) {p q : Int × Bool} (hp : 0 ≤ p.1 ∧ p.1 < ((3 + ks.length : Nat) : Int)) (hq : 0 ≤ q.1 ∧ q.1 < ((3 + ks.length : Nat) : Int)) (hne : p.1 ≠ q.1) :
    Right one ks (pairK p q ks) (evB (atL (vls one ks)) p && evB (atL (vls one ks)) q) := by
  have agree : ∀ k : Key, ∀ x : Int, 0 ≤ x → x < ((3 + ks.length : Nat) : Int) → atL (vls one (addK ks k)) x = atL (vls one ks) x := fun k x h0 hx => atL_pre (vls_mono (addK_pre ks k)) (by rw [vls_len, h3]; exact hx) h0
  unfold pairK
  split
  · rename_i h
    obtain ⟨h1, h2⟩ := h
    have kw : KW (3 + ks.length) (.or [p.1, q.1]) := ⟨fun x hx => by simp only [vsK, List.mem_cons, List.not_mem_nil, or_false] at hx; rcases hx with rfl | rfl; exact hp; exact hq, ⟨_, _, rfl⟩, (by decide : 2 ≤ 10)⟩
    refine ⟨W.add kw, ?_⟩
    show (decide (atL (vls one (addK ks (.or [p.1, q.1]))) (idxK ks (.or [p.1, q.1])) = 1) == false) = _
    rw [add_right h3 W kw, b01_eq]
    simp only [evK, evB, List.any_cons, List.any_nil, Bool.or_false, agree _ _ hp.1 hp.2, agree _ _ hq.1 hq.2, h1, h2]
    cases decide (atL (vls one ks) p.1 = 1) <;> cases decide (atL (vls one ks) q.1 = 1) <;> rfl
  · have kw : KW (3 + ks.length) (.all [p, q]) := ⟨fun x hx => by simp only [vsK, List.map_cons, List.map_nil, List.mem_cons, List.not_mem_nil, or_false] at hx; rcases hx with rfl | rfl; exact hp; exact hq, ⟨_, _, rfl, hne⟩, (by decide : 2 ≤ 10)⟩
    refine ⟨W.add kw, ?_⟩
    show (decide (atL (vls one (addK ks (.all [p, q]))) (idxK ks (.all [p, q])) = 1) == true) = _
    rw [add_right h3 W kw, b01_eq]
    simp only [evK, List.all_cons, List.all_nil, Bool.and_true, evB_congr (b := p) (agree (.all [p, q]) _ hp.1 hp.2), evB_congr (b := q) (agree (.all [p, q]) _ hq.1 hq.2)]
    cases evB (atL (vls one ks)) p <;> cases evB (atL (vls one ks)) q <;> rfl
theorem evB_not (f : Int → Int) (x : Int) (s : Bool) : evB f (x, !s) = !evB f (x, s) := by unfold evB; cases s <;> simp
theorem keepZ_right {f : Int → Int} {kept : List (Int × Bool)} {t : Tv} : match keepZ kept t with
    | none => (kept.all (evB f) && Tval f t) = false
    | some k' => k'.all (evB f) = (kept.all (evB f) && Tval f t) ∧ k'.length ≤ kept.length + 1 := by
  have mem : ∀ b : Int × Bool, b ∈ kept → kept.all (evB f) = true → evB f b = true := fun b hb h => List.all_eq_true.mp h b hb
  cases t with
  | tt b => cases b <;> simp [keepZ, Tval]
  | bit x s =>
    rw [show keepZ kept (.bit x s) = if (x, !s) ∈ kept then none else if (x, s) ∈ kept then some kept else some (kept ++ [(x, s)]) from rfl]
    by_cases h1 : (x, !s) ∈ kept
    · rw [if_pos h1]
      cases h : kept.all (evB f) with
      | false => rfl
      | true =>
        have := mem _ h1 h
        rw [evB_not] at this
        simpa [Tval] using this
    · rw [if_neg h1]
      by_cases h2 : (x, s) ∈ kept
      · rw [if_pos h2]
        refine ⟨?_, Nat.le_succ _⟩
        cases h : kept.all (evB f) with
        | false => rfl
        | true => simpa [Tval] using (mem _ h2 h).symm
      · rw [if_neg h2]
        exact ⟨by simp [Tval], by simp⟩
theorem foldK_right {f : Int → Int} : ∀ (ts : List Tv) (kept : List (Int × Bool)), match ts.foldlM keepZ kept with
    | none => (kept.all (evB f) && ts.all (Tval f)) = false
    | some k' => k'.all (evB f) = (kept.all (evB f) && ts.all (Tval f)) ∧ k'.length ≤ kept.length + ts.length
  | [], kept => ⟨by simp, Nat.le_refl _⟩
  | t :: ts, kept => by
    have h := keepZ_right (f := f) (kept := kept) (t := t)
    rw [List.foldlM_cons]
    cases hk : keepZ kept t with
    | none =>
      rw [hk] at h
      show (_ && _) = false
      rw [List.all_cons, ← Bool.and_assoc]
      simp only at h
      rw [h]; rfl
    | some k1 =>
      rw [hk] at h
      have ih := foldK_right (f := f) ts k1
      show match ts.foldlM keepZ k1 with | none => _ | some k' => _
      cases hf : ts.foldlM keepZ k1 with
      | none => rw [hf] at ih; simp only at ih ⊢; rw [List.all_cons, ← Bool.and_assoc, ← h.1]; exact ih
      | some k' =>
        rw [hf] at ih
        simp only at ih ⊢
        rw [List.all_cons, ← Bool.and_assoc, ← h.1]
        exact ⟨ih.1, by have := ih.2; have := h.2; simp only [List.length_cons]; omega⟩
theorem allL_right {one : List Int} (h3 : one.length = 3) {ks : List Key} (W : WFk ks) {ts : List Tv} (h2 : ts.length ≤ 2) (ht : ∀ t ∈ ts, TvB (3 + ks.length) t) : Right one ks (allL ts ks) (ts.all (Tval (atL (vls one ks)))) := by
  have h := foldK_right (f := atL (vls one ks)) ts []
  unfold allL allK
  cases hk : ts.foldlM keepZ [] with
  | none => rw [hk] at h; exact ⟨W, by simpa [Tval] using h.symm⟩
  | some l =>
    rw [hk] at h
    obtain ⟨hpw, hmem⟩ := foldK_inv hk .nil
    have hb : ∀ p ∈ l, 0 ≤ p.1 ∧ p.1 < ((3 + ks.length : Nat) : Int) := fun p hp => by
      rcases hmem p hp with h' | h'
      · cases h'
      · exact ht _ h' _ _ rfl
    simp only [List.all_nil, Bool.true_and, List.length_nil, Nat.zero_add] at h
    rcases l with _ | ⟨p, _ | ⟨q, r⟩⟩
    · exact ⟨W, by rw [← h.1]; rfl⟩
    · exact ⟨W, by rw [← h.1]; simp [Tval]⟩
    ·
      have hr : r = [] := by
        have := h.2
        cases r with
        | nil => rfl
        | cons a r => simp only [List.length_cons] at this; omega
      subst hr
      have hne : p.1 ≠ q.1 := (List.pairwise_cons.mp hpw).1 q (by simp)
      dsimp only
      rw [← h.1]
      simp only [List.all_cons, List.all_nil, Bool.and_true]
      split
      · exact pairK_right h3 W (hb p (by simp)) (hb q (by simp)) hne
      · rw [Bool.and_comm]; exact pairK_right h3 W (hb q (by simp)) (hb p (by simp)) hne.symm
theorem Right.not {one : List Int} {ks : List Key} {r : Tv × List Key} {b : Bool} (h : Right one ks r b) : Right one ks (r.1.not, r.2) (!b) := ⟨h.wf, by show Tval _ r.1.not = _; rw [Tval_not, h.val]⟩
theorem anyL_right {one : List Int} (h3 : one.length = 3) {ks : List Key} (W : WFk ks) {ts : List Tv} (h2 : ts.length ≤ 2) (ht : ∀ t ∈ ts, TvB (3 + ks.length) t) : Right one ks (anyL ts ks) (ts.any (Tval (atL (vls one ks)))) := by
  have h := (allL_right h3 W (ts := ts.map Tv.not) (by rw [List.length_map]; exact h2) fun t hm => by obtain ⟨u, hu, rfl⟩ := List.mem_map.mp hm; exact (ht u hu).not).not
  refine ⟨h.wf, h.val.trans ?_⟩
  clear h h2 ht W
  induction ts with
  | nil => rfl
  | cons t ts ih => rw [List.map_cons, List.all_cons, List.any_cons, Tval_not, Bool.not_and, Bool.not_not, ih]
end
section
noncomputable def sumP (f : Int → Int) : List (Int × Int) → Int
  | [] => 0
  | p :: r => p.2 * f p.1 + sumP f r
theorem sumP_n (f : Int → Int) : sumP f [] = 0 := rfl
theorem sumP_c (f : Int → Int) (p : Int × Int) (r : List (Int × Int)) : sumP f (p :: r) = p.2 * f p.1 + sumP f r := rfl
noncomputable def ev (f : Int → Int) (e : Lin) : Int := sumP f e.ps + e.c
noncomputable def InD (D : Int → List (Int × Int)) (f : Int → Int) (x : Int) : Prop := loD D x ≤ f x ∧ f x ≤ hiD D x
theorem mul_between {a lo hi v : Int} (h1 : lo ≤ v) (h2 : v ≤ hi) : min (a * lo) (a * hi) ≤ a * v ∧ a * v ≤ max (a * lo) (a * hi) := by
  rcases Int.le_total 0 a with ha | ha
  · have := Int.mul_le_mul_of_nonneg_left h1 ha
    have := Int.mul_le_mul_of_nonneg_left h2 ha
    omega
  · have := Int.mul_le_mul_of_nonpos_left ha h1
    have := Int.mul_le_mul_of_nonpos_left ha h2
    omega
theorem bounds_fold {D : Int → List (Int × Int)} {f : Int → Int} : ∀ (ps : List (Int × Int)) (b : Int × Int), (∀ p ∈ ps, InD D f p.1) → (ps.foldl (bStep D) b).1 ≤ b.1 + sumP f ps ∧ b.2 + sumP f ps ≤ (ps.foldl (bStep D) b).2
  | [], b, _ => ⟨Int.le_of_eq (Int.add_zero _).symm, Int.le_of_eq (Int.add_zero _)⟩
  | p :: r, b, h => by
    have hp := h p (.head _)
    have m := mul_between (a := p.2) hp.1 hp.2
    have ih := bounds_fold r (bStep D b p) fun q hq => h q (.tail _ hq)
    simp only [List.foldl_cons]
    show _ ≤ _ + (p.2 * f p.1 + sumP f r) ∧ _ + (p.2 * f p.1 + sumP f r) ≤ _
    simp only [bStep] at ih ⊢
    omega
theorem bounds_right {D : Int → List (Int × Int)} {f : Int → Int} {e : Lin} (h : ∀ p ∈ e.ps, InD D f p.1) : (boundsZ D e).1 ≤ ev f e ∧ ev f e ≤ (boundsZ D e).2 := by
  have := bounds_fold (f := f) e.ps (e.c, e.c) h
  unfold boundsZ ev
  dsimp only at this
  omega
theorem gcd_dvd : ∀ (l : List Int) (z : Int), (l.foldl (fun f a => ((Int.gcd f a : Nat) : Int)) z) ∣ z ∧ ∀ a ∈ l, (l.foldl (fun f a => ((Int.gcd f a : Nat) : Int)) z) ∣ a
  | [], z => ⟨Int.dvd_refl _, fun _ h => by cases h⟩
  | a :: l, z => by
    obtain ⟨h1, h2⟩ := gcd_dvd l ((Int.gcd z a : Nat) : Int)
    refine ⟨Int.dvd_trans h1 (Int.gcd_dvd_left ..), fun b hb => ?_⟩
    rcases List.mem_cons.mp hb with rfl | hb
    · exact Int.dvd_trans h1 (Int.gcd_dvd_right ..)
    · exact h2 b hb
theorem gcd_nonneg : ∀ (l : List Int) (z : Int), 0 ≤ z → 0 ≤ (l.foldl (fun f a => ((Int.gcd f a : Nat) : Int)) z)
  | [], z, h => h
  | a :: l, z, _ => gcd_nonneg l _ (Int.natCast_nonneg _)
theorem dot_gcd {f : Int → Int} {g : Int} (hg : g ≠ 0) : ∀ {ps : List (Int × Int)}, (∀ p ∈ ps, g ∣ p.2) → dotZ f (ps.map fun p => p.2.fdiv g) (ps.map (·.1)) * g = sumP f ps
  | [], _ => Int.zero_mul g
  | p :: r, h => by
    have hd : p.2.fdiv g * g = p.2 := by
      obtain ⟨c, hc⟩ := h p (.head _)
      rw [hc, Int.mul_fdiv_cancel_left _ hg, Int.mul_comm]
    show (p.2.fdiv g * f p.1 + dotZ f (r.map fun p => p.2.fdiv g) (r.map (·.1))) * g = p.2 * f p.1 + sumP f r
    rw [Int.add_mul, dot_gcd hg fun q hq => h q (.tail _ hq)]
    congr 1
    rw [Int.mul_right_comm, hd]
theorem rowOf_right {f : Int → Int} {le : Bool} {e : Lin} (hg : 0 < gcdZ (e.ps.map (·.2))) (hm : le = false → (-e.c).fmod (gcdZ (e.ps.map (·.2))) = 0) : evR f (rowOf le e) = if le then decide (ev f e ≤ 0) else decide (ev f e = 0) := by
  have hd := dot_gcd (f := f) (g := gcdZ (e.ps.map (·.2))) (by omega) (ps := e.ps) fun p hp => (gcd_dvd _ 0).2 p.2 (List.mem_map_of_mem hp)
  unfold evR rowOf ev
  dsimp only
  generalize hgg : gcdZ (e.ps.map (·.2)) = g at *
  generalize dotZ f (e.ps.map fun p => p.2.fdiv g) (e.ps.map (·.1)) = d at *
  rw [← hd]
  cases le with
  | true =>
    simp only [if_true]
    congr 1
    rw [Int.fdiv_eq_ediv_of_nonneg _ (by omega : 0 ≤ g), Int.le_ediv_iff_mul_le hg]
    apply propext
    omega
  | false =>
    have hm' := hm rfl
    simp only [Bool.false_eq_true, if_false]
    congr 1
    have e1 : (-e.c).fdiv g * g = -e.c := by
      have := Int.mul_fdiv_add_fmod (-e.c) g
      rw [hm', Int.add_zero, Int.mul_comm] at this
      exact this
    apply propext
    constructor
    · intro h
      rw [h, e1]; omega
    · intro h
      have h' : d * g = (-e.c).fdiv g * g := by rw [e1]; omega
      exact Int.eq_of_mul_eq_mul_right (by omega) h'
theorem dot_neg {f : Int → Int} : ∀ as xs : List Int, dotZ f (as.map (- ·)) xs = - dotZ f as xs
  | [], xs => by cases xs <;> rfl
  | _ :: _, [] => rfl
  | a :: as, x :: xs => by show -a * f x + dotZ f (as.map (- ·)) xs = -(a * f x + dotZ f as xs); rw [dot_neg as xs, Int.neg_mul]; omega
theorem evR_turn_le {f : Int → Int} (r : Row) (h : r.le = true) : evR f ⟨true, r.co.map (- ·), r.xs, -r.c - 1⟩ = !evR f r := by
  unfold evR
  rw [h, dot_neg]
  simp only [if_true]
  by_cases q : dotZ f r.co r.xs ≤ r.c
  · simp only [q, decide_true, Bool.not_true, decide_eq_false_iff_not]; omega
  · simp only [q, decide_false, Bool.not_false, decide_eq_true_eq]; omega
theorem evR_turn_eq {f : Int → Int} (r : Row) (h : r.le = false) : evR f ⟨false, r.co.map (- ·), r.xs, -r.c⟩ = evR f r := by
  unfold evR
  rw [h, dot_neg]
  simp only [Bool.false_eq_true, if_false]
  congr 1
  apply propext
  omega
noncomputable def DirOK (D : Int → List (Int × Int)) (r : Row) : Prop := isDirect D r = true → if r.le then r.c = 0 else (r.c = 0 ∨ r.c = 1)
theorem direct_right {D : Int → List (Int × Int)} {f : Int → Int} {r : Row} (hd : DirOK D r) (hr : isDirect D r = true) (hf : ∀ x ∈ r.xs, InD D f x) : evB f (r.xs.headD 0, !r.le && r.c == 1) = evR f r := by
  have hc := hd hr
  unfold isDirect at hr
  obtain ⟨le, co, xs, c⟩ := r
  dsimp only at hr hc hf ⊢
  simp only [Bool.and_eq_true, beq_iff_eq] at hr
  obtain ⟨rfl, hr⟩ := hr
  cases xs with
  | nil => simp at hr
  | cons x r =>
    simp only [beq_iff_eq] at hr
    have h1 := hf x (.head _)
    unfold InD loD hiD at h1
    rw [hr] at h1
    simp at h1
    have hv : f x = 0 ∨ f x = 1 := by omega
    have hdot : dotZ f [1] (x :: r) = f x := by show 1 * f x + dotZ f [] r = f x; cases r <;> (show 1 * f x + 0 = f x; omega)
    unfold evB evR
    dsimp only
    rw [hdot, List.headD_cons]
    cases le with
    | true =>
      simp only [if_true] at hc
      subst hc
      rcases hv with h | h <;> rw [h] <;> rfl
    | false =>
      simp only [Bool.false_eq_true, if_false] at hc
      rcases hc with rfl | rfl <;> rcases hv with h | h <;> rw [h] <;> rfl
theorem tellK_right {D : Int → List (Int × Int)} {one : List Int} (h3 : one.length = 3) {ks : List Key} (W : WFk ks) {r : Row} (hd : DirOK D r) (hx : ∀ x ∈ r.xs, 0 ≤ x ∧ x < 3) (hne : r.xs ≠ []) (hlen : r.xs.length ≤ 10) (hf : ∀ x ∈ r.xs, InD D (atL one) x) :
    Right one ks (tellK D ks r) (evR (atL one) r) := by
  have agree : ∀ ks : List Key, ∀ x ∈ r.xs, atL (vls one ks) x = atL one x := fun ks x h => atL_pre (vls_pre _ _) (by have := hx x h; rw [h3]; omega) (hx x h).1
  unfold tellK
  by_cases hi : isDirect D r = true
  · rw [if_pos hi]
    refine ⟨W, ?_⟩
    show evB _ (_, _) = _
    rw [← direct_right hd hi hf]
    refine evB_congr (agree ks _ ?_)
    cases hxs : r.xs with
    | nil => exact absurd hxs hne
    | cons a l => exact .head _
  · rw [if_neg hi]
    have kw : KW (3 + ks.length) (.reif r) := ⟨fun x h => by have := hx x h; omega, hne, hlen⟩
    refine ⟨W.add kw, ?_⟩
    show evB _ (_, _) = _
    unfold evB
    dsimp only
    rw [add_right h3 W kw, b01_eq]
    show (evR _ r == true) = _
    rw [evR_congr (agree _)]
    cases evR (atL one) r <;> rfl
theorem fdiv_self_pos {a : Int} (h : 0 < a) : a.fdiv a = 1 := Int.fdiv_self (by omega)
theorem gcd1 (a : Int) : gcdZ [a] = (a.natAbs : Int) := by unfold gcdZ; simp
theorem dirOK_of {D : Int → List (Int × Int)} {le : Bool} {e : Lin} (hnz : ∀ p ∈ e.ps, p.2 ≠ 0) (hr : rowZ D le e = .inr (rowOf le e)) :
    DirOK D (rowOf le e) ∧ (le = false → DirOK D ⟨false, (rowOf le e).co.map (- ·), (rowOf le e).xs, -(rowOf le e).c⟩) ∧ (le = true → DirOK D ⟨true, (rowOf le e).co.map (- ·), (rowOf le e).xs, -(rowOf le e).c - 1⟩) := by
  have main : ∀ x a, e.ps = [(x, a)] → D x = [(0, 1)] → (0 < a → if le then (rowOf le e).c = 0 else ((rowOf le e).c = 0 ∨ (rowOf le e).c = 1)) ∧ (a < 0 → if le then -(rowOf le e).c - 1 = 0 else (-(rowOf le e).c = 0 ∨ -(rowOf le e).c = 1)) := by
    intro x a hps hD
    have hlo : loD D x = 0 := by unfold loD; rw [hD]; rfl
    have hhi : hiD D x = 1 := by unfold hiD; rw [hD]; rfl
    have hb : boundsZ D e = (e.c + min (a * 0) (a * 1), e.c + max (a * 0) (a * 1)) := by unfold boundsZ; rw [hps]; simp only [List.foldl_cons, List.foldl_nil, bStep, hlo, hhi]
    have hg : gcdZ (e.ps.map (·.2)) = (a.natAbs : Int) := by rw [hps]; exact gcd1 a
    unfold rowZ at hr
    rw [hb, hg] at hr
    simp only [Int.mul_zero, Int.mul_one] at hr
    have hc : (rowOf le e).c = (-e.c).fdiv (a.natAbs : Int) := by unfold rowOf; rw [hg]
    rw [hc, Int.fdiv_eq_ediv_of_nonneg _ (by omega)]
    cases le with
    | true =>
      simp only [if_true] at hr ⊢
      split at hr
      · cases hr
      · rename_i hn
        constructor
        · intro ha
          have : ((a.natAbs : Nat) : Int) = a := by omega
          rw [this]
          exact Int.ediv_eq_zero_of_lt (by omega) (by omega)
        · intro ha
          have : ((a.natAbs : Nat) : Int) = -a := by omega
          rw [this]
          have h1 : -e.c / -a = -1 := by
            apply Int.le_antisymm
            · have : -e.c / -a < 0 := Int.ediv_neg_of_neg_of_pos (by omega) (by omega)
              omega
            · exact (Int.le_ediv_iff_mul_le (by omega)).mpr (by omega)
          rw [h1]; rfl
    | false =>
      simp only [Bool.false_eq_true, if_false] at hr ⊢
      split at hr
      · cases hr
      · rename_i hn
        split at hr
        · cases hr
        · rename_i hn2
          split at hr
          · cases hr
          · rename_i hn3
            have hn4 : (-e.c).fmod (a.natAbs : Int) = 0 := by simpa using hn3
            rw [Int.fmod_eq_emod_of_nonneg _ (by omega)] at hn4
            have hq : -e.c / (a.natAbs : Int) * (a.natAbs : Int) = -e.c := Int.ediv_mul_cancel (Int.dvd_of_emod_eq_zero hn4)
            constructor
            · intro ha
              have ea : ((a.natAbs : Nat) : Int) = a := by omega
              rw [ea] at hq ⊢
              have q0 : 0 ≤ -e.c / a := Int.ediv_nonneg (by omega) (by omega)
              have q1 : -e.c / a ≤ 1 := by
                apply Int.le_of_mul_le_mul_right (a := a) _ ha
                rw [hq]; omega
              omega
            · intro ha
              have ea : ((a.natAbs : Nat) : Int) = -a := by omega
              rw [ea] at hq ⊢
              have q0 : -1 ≤ -e.c / -a := (Int.le_ediv_iff_mul_le (by omega)).mpr (by omega)
              have q1 : -e.c / -a ≤ 0 := by
                apply Int.le_of_mul_le_mul_right (a := -a) _ (by omega)
                rw [hq]; omega
              omega
  have dir : ∀ (le' : Bool) (co : List Int) (c : Int), isDirect D ⟨le', co, (rowOf le e).xs, c⟩ = true → co.length = (rowOf le e).co.length → ∃ x a, e.ps = [(x, a)] ∧ D x = [(0, 1)] ∧ co = [1] := by
    intro le' co c h hl
    unfold isDirect at h
    simp only [Bool.and_eq_true, beq_iff_eq] at h
    obtain ⟨h1, h2⟩ := h
    rw [h1] at hl
    unfold rowOf at hl h2
    simp only [List.length_map, List.length_cons, List.length_nil] at hl h2
    obtain ⟨p, hp⟩ := List.length_eq_one_iff.mp hl.symm
    rw [hp] at h2
    simp only [List.map_cons, beq_iff_eq] at h2
    exact ⟨p.1, p.2, hp, h2, h1⟩
  have sgn : ∀ x a, e.ps = [(x, a)] → (rowOf le e).co = [a.fdiv (a.natAbs : Int)] := by
    intro x a h
    unfold rowOf
    dsimp only
    rw [h]
    simp only [List.map_cons, List.map_nil, gcd1]
  have pos : ∀ x a, e.ps = [(x, a)] → (rowOf le e).co = [1] → 0 < a := by
    intro x a h1 h2
    have ha := hnz (x, a) (by rw [h1]; exact .head _)
    rw [sgn x a h1] at h2
    have h3 : a.fdiv (a.natAbs : Int) = 1 := by simpa using h2
    rcases Int.lt_or_gt_of_ne ha with hn | hn
    · exfalso
      have e3 : ((a.natAbs : Nat) : Int) = -a := by simp only at hn; omega
      rw [e3, Int.fdiv_eq_ediv_of_nonneg _ (by simp only at hn; omega)] at h3
      have : a / -a < 0 := Int.ediv_neg_of_neg_of_pos hn (by simp only at hn; omega)
      omega
    · exact hn
  have neg : ∀ x a, e.ps = [(x, a)] → (rowOf le e).co.map (- ·) = [1] → a < 0 := by
    intro x a h1 h2
    have ha := hnz (x, a) (by rw [h1]; exact .head _)
    rw [sgn x a h1] at h2
    have h3 : -(a.fdiv (a.natAbs : Int)) = 1 := by simpa using h2
    rcases Int.lt_or_gt_of_ne ha with hn | hn
    · exact hn
    · exfalso
      have e3 : ((a.natAbs : Nat) : Int) = a := by simp only at hn; omega
      rw [e3, fdiv_self_pos hn] at h3
      omega
  have d1 : DirOK D (rowOf le e) := by
    intro h
    obtain ⟨x, a, h1, h2, h3⟩ := dir le _ (rowOf le e).c h rfl
    exact (main x a h1 h2).1 (pos x a h1 h3)
  refine ⟨d1, fun hle h => ?_, fun hle h => ?_⟩
  · subst hle
    obtain ⟨x, a, h1, h2, h3⟩ := dir false _ (-(rowOf false e).c) h (by simp)
    exact (main x a h1 h2).2 (neg x a h1 h3)
  · subst hle
    obtain ⟨x, a, h1, h2, h3⟩ := dir true _ (-(rowOf true e).c - 1) h (by simp)
    exact (main x a h1 h2).2 (neg x a h1 h3)
theorem truthK_right {D : Int → List (Int × Int)} {one : List Int} (h3 : one.length = 3) {ks : List Key} (W : WFk ks) {le : Bool} {e : Lin} (hv : ∀ p ∈ e.ps, 0 ≤ p.1 ∧ p.1 < 3) (hnz : ∀ p ∈ e.ps, p.2 ≠ 0) (hlen : e.ps.length ≤ 10) (hf : ∀ p ∈ e.ps, InD D (atL one) p.1) :
    Right one ks (truthK D le e ks) (if le then decide (ev (atL one) e ≤ 0) else decide (ev (atL one) e = 0)) := by
  have hb := bounds_right (f := atL one) hf
  unfold truthK
  cases hr : rowZ D le e with
  | inl b =>
    refine ⟨W, ?_⟩
    show b = _
    unfold rowZ at hr
    cases le with
    | true =>
      simp only [if_true] at hr ⊢
      split at hr
      · rename_i h
        cases hr
        by_cases q : (boundsZ D e).2 ≤ 0
        · simp only [q, decide_true]; symm; simp; omega
        · simp only [q, decide_false]; symm; simp; omega
      · cases hr
    | false =>
      simp only [Bool.false_eq_true, if_false] at hr ⊢
      split at hr
      · cases hr; symm; simp; omega
      · split at hr
        · cases hr; symm; simp; omega
        · split at hr
          · rename_i hm
            cases hr
            symm
            rw [decide_eq_false_iff_not]
            intro hz
            apply hm
            have hdv : gcdZ (e.ps.map (·.2)) ∣ -e.c := by
              have : -e.c = sumP (atL one) e.ps := by unfold ev at hz; omega
              rw [this]
              have hall : ∀ ps : List (Int × Int), (∀ p ∈ ps, gcdZ (e.ps.map (·.2)) ∣ p.2) → gcdZ (e.ps.map (·.2)) ∣ sumP (atL one) ps := by
                intro ps
                induction ps with
                | nil => intro _; exact Int.dvd_zero _
                | cons p r ih => intro h; exact Int.dvd_add (Int.dvd_trans (h p (.head _)) (Int.dvd_mul_right ..)) (ih fun q hq => h q (.tail _ hq))
              exact hall _ fun p hp => (gcd_dvd _ 0).2 p.2 (List.mem_map_of_mem hp)
            exact Int.fmod_eq_zero_of_dvd hdv
          · cases hr
  | inr r =>
    obtain ⟨rfl, hne⟩ := rowZ_inr hr
    have hbne : (boundsZ D e).1 ≠ (boundsZ D e).2 := by
      unfold rowZ at hr
      intro hq
      rw [hq] at hr
      cases le with
      | true =>
        simp only [if_true] at hr
        split at hr
        · cases hr
        · rename_i h; omega
      | false =>
        simp only [Bool.false_eq_true, if_false] at hr
        split at hr
        · cases hr
        · cases hr
    have hg : 0 < gcdZ (e.ps.map (·.2)) := by
      have h1 : gcdZ (e.ps.map (·.2)) ≠ 0 := gcd_ne hnz hbne
      have h2 : 0 ≤ gcdZ (e.ps.map (·.2)) := gcd_nonneg _ 0 (Int.le_refl _)
      omega
    have hm : le = false → (-e.c).fmod (gcdZ (e.ps.map (·.2))) = 0 := by
      rintro rfl
      unfold rowZ at hr
      simp only [Bool.false_eq_true, if_false] at hr
      repeat' split at hr
      all_goals first | (cases hr; done) | (rename_i h; simpa using h)
    rw [← rowOf_right (f := atL one) hg hm]
    have hx : ∀ x ∈ (rowOf le e).xs, 0 ≤ x ∧ x < 3 := fun x h => by obtain ⟨p, hp, rfl⟩ := List.mem_map.mp h; exact hv p hp
    have hxf : ∀ x ∈ (rowOf le e).xs, InD D (atL one) x := fun x h => by obtain ⟨p, hp, rfl⟩ := List.mem_map.mp h; exact hf p hp
    have hxn : (rowOf le e).xs ≠ [] := by simp [rowOf, hne]
    have hxl : (rowOf le e).xs.length ≤ 10 := by simpa [rowOf] using hlen
    dsimp only
    obtain ⟨hd1, hd2, hd3⟩ := dirOK_of hnz hr
    split
    · cases le with
      | true =>
        rw [if_pos (show (rowOf true e).le = true from rfl)]
        have := (tellK_right h3 W (hd3 rfl) hx hxn hxl hxf).not
        rw [evR_turn_le _ rfl, Bool.not_not] at this
        exact this
      | false =>
        rw [if_neg (show ¬ (rowOf false e).le = true from by simp [rowOf])]
        have := tellK_right h3 W (hd2 rfl) hx hxn hxl hxf
        rw [evR_turn_eq _ rfl] at this
        exact this
    · exact tellK_right h3 W hd1 hx hxn hxl hxf
end
section
theorem idxOf_add (ks : List Key) (k : Key) : (addK ks k).idxOf k = ks.idxOf k := by
  unfold addK
  split
  · rfl
  · rename_i h; rw [List.idxOf_append, if_neg h, List.idxOf_eq_length h]; simp
theorem add_stable {ks ks' : List Key} {k : Key} (h : addK ks k <+: ks') : addK ks' k = ks' ∧ idxK ks' k = idxK ks k := by
  have hm : k ∈ addK ks k := List.mem_of_getElem? (add_get ks k)
  have hm' : k ∈ ks' := h.subset hm
  refine ⟨if_pos hm', ?_⟩
  obtain ⟨r, rfl⟩ := h
  unfold idxK
  rw [List.idxOf_append, if_pos hm, idxOf_add]
variable {D : Int → List (Int × Int)}
theorem tellK_stable {ks ks' : List Key} {r : Row} (h : (tellK D ks r).2 <+: ks') : tellK D ks' r = ((tellK D ks r).1, ks') := by
  unfold tellK at h ⊢
  split at h
  · rename_i hi; rw [if_pos hi, if_pos hi]
  · rename_i hi; rw [if_neg hi, if_neg hi]; obtain ⟨a, b⟩ := add_stable h; rw [a, b]
theorem truthK_stable {ks ks' : List Key} {le : Bool} {e : Lin} (h : (truthK D le e ks).2 <+: ks') : truthK D le e ks' = ((truthK D le e ks).1, ks') := by
  unfold truthK at h ⊢
  cases hr : rowZ D le e with
  | inl b => rfl
  | inr r =>
    rw [hr] at h
    dsimp only at h ⊢
    split
    · rename_i h1
      rw [if_pos h1] at h
      split
      · rename_i h2
        rw [if_pos h2] at h
        rw [tellK_stable h]
      · rename_i h2
        rw [if_neg h2] at h
        exact tellK_stable h
    · rename_i h1
      rw [if_neg h1] at h
      exact tellK_stable h
theorem pairK_stable {ks ks' : List Key} {p q : Int × Bool} (h : (pairK p q ks).2 <+: ks') : pairK p q ks' = ((pairK p q ks).1, ks') := by
  unfold pairK at h ⊢
  split
  · rename_i h1; rw [if_pos h1] at h; obtain ⟨a, b⟩ := add_stable h; rw [a, b]
  · rename_i h1; rw [if_neg h1] at h; obtain ⟨a, b⟩ := add_stable h; rw [a, b]
theorem allL_stable {ks ks' : List Key} {ts : List Tv} (h : (allL ts ks).2 <+: ks') : allL ts ks' = ((allL ts ks).1, ks') := by
  unfold allL at h ⊢
  cases hk : allK ts with
  | none => rfl
  | some l =>
    rw [hk] at h
    match l, h with
    | [], h => rfl
    | [p], h => rfl
    | p :: q :: r, h =>
      dsimp only at h ⊢
      split
      · rename_i h1; rw [if_pos h1] at h; exact pairK_stable h
      · rename_i h1; rw [if_neg h1] at h; exact pairK_stable h
theorem anyL_stable {ks ks' : List Key} {ts : List Tv} (h : (anyL ts ks).2 <+: ks') : anyL ts ks' = ((anyL ts ks).1, ks') := by
  unfold anyL at h ⊢
  rw [allL_stable h]
theorem stepL_stable {f : Tv × List Key} {p : Lin × Lin} {ks' : List Key} (E : StepE D f p) (h : (stepL D f p).2 <+: ks') : stepL D (f.1, ks') p = ((stepL D f p).1, ks') := by
  have hd := h
  have hc := E.d.pre.trans hd
  have hb := E.c.pre.trans hc
  have ha := E.b.pre.trans hb
  have e1 := truthK_stable (D := D) ha
  have e2 := truthK_stable (D := D) hb
  have e3 := allL_stable hc
  unfold stepL at hd ⊢
  dsimp only
  rw [e1]
  dsimp only
  rw [e2]
  dsimp only
  rw [e3]
  dsimp only
  exact anyL_stable hd
theorem fold_stable : ∀ (l : List (Lin × Lin)) (f : Tv × List Key) (ks' : List Key), (∀ p ∈ l, LinsOK p) → TvB (3 + f.2.length) f.1 → (l.foldl (stepL D) f).2 <+: ks' → l.foldl (stepL D) (f.1, ks') = ((l.foldl (stepL D) f).1, ks')
  | [], f, ks', _, _, _ => rfl
  | p :: l, f, ks', hl, hf, h => by
    have E := stepE (D := D) (hl p (.head _)) hf
    obtain ⟨a, b, c⟩ := stepE.out E
    have hp := (foldE (D := D) l _ (fun q hq => hl q (.tail _ hq)) c).1
    rw [List.foldl_cons, List.foldl_cons, stepL_stable E (hp.trans h)]
    exact fold_stable l _ ks' (fun q hq => hl q (.tail _ hq)) c h
theorem less_stable {xs ys : List Lin} {st : Bool} {ks : List Key} (hl : ∀ p ∈ xs.zip ys, LinsOK p) : lessL D xs ys st (lessL D xs ys st ks).2 = lessL D xs ys st ks :=
  fold_stable _ (.tt (start0 xs ys st), ks) _ (fun p hp => hl p (List.mem_reverse.mp hp)) TvB.tt (List.prefix_refl _)
theorem getZ_cons (y v : Int) (K : List (Int × Int)) (x : Int) : getZ ((y, v) :: K) x = if y = x then some v else getZ K x := by
  unfold getZ
  rw [List.find?_cons]
  by_cases h : y = x <;> simp [h]
theorem getZ_none {K : List (Int × Int)} {x : Int} (h : x ∉ K.map (·.1)) : getZ K x = none := by
  induction K with
  | nil => rfl
  | cons p K ih =>
    obtain ⟨y, v⟩ := p
    simp only [List.map_cons, List.mem_cons, not_or] at h
    rw [getZ_cons, if_neg (fun e => h.1 e.symm), ih h.2]
theorem any_key (k : List (Int × Int)) (x : Int) : (k.any fun kv => decide (kv.1 = x)) = decide (x ∈ k.map (·.1)) := by
  induction k with
  | nil => rfl
  | cons p k ih => rw [List.any_cons, ih]; (by_cases h : p.1 = x <;> simp [h] <;> exact fun e => absurd e.symm h)
theorem map_same {k : List (Int × Int)} {x v : Int} (h : x ∉ k.map (·.1)) : (k.map fun kv => if kv.1 = x then (kv.1, v) else kv) = k := by
  induction k with
  | nil => rfl
  | cons p k ih =>
    simp only [List.map_cons, List.mem_cons, not_or] at h ⊢
    rw [if_neg (fun e => h.1 e.symm), ih h.2]
theorem stZ_sum {f : Int → Int} {k : List (Int × Int)} (hn : (k.map (·.1)).Nodup) (x w : Int) : sumP f (stZ k x ((getZ k x).getD 0 + w)) = sumP f k + w * f x := by
  unfold stZ
  rw [any_key]
  by_cases hm : x ∈ k.map (·.1)
  · rw [if_pos (decide_eq_true hm)]
    induction k with
    | nil => cases hm
    | cons p k ih =>
      obtain ⟨y, v⟩ := p
      simp only [List.map_cons, List.nodup_cons] at hn
      simp only [List.map_cons, sumP_c, sumP_n]
      rw [getZ_cons]
      by_cases hy : y = x
      · subst hy
        rw [if_pos rfl, if_pos rfl, map_same hn.1]
        simp only [Option.getD_some, Int.add_mul]; omega
      · rw [if_neg hy, if_neg hy]
        have hm' : x ∈ k.map (·.1) := by
          rcases List.mem_cons.mp hm with e | e
          · exact absurd e.symm hy
          · exact e
        rw [ih hn.2 hm']; dsimp only; omega
  · rw [if_neg (by simpa using hm), getZ_none hm]
    have hs : ∀ k : List (Int × Int), sumP f (k ++ [(x, (none : Option Int).getD 0 + w)]) = sumP f k + w * f x := by
      intro k
      induction k with
      | nil => simp [sumP_c, sumP_n]
      | cons p k ih => simp only [List.cons_append, sumP_c, sumP_n, ih]; omega
    exact hs k
theorem stZ_keys (k : List (Int × Int)) (x v : Int) : (stZ k x v).map (·.1) = if x ∈ k.map (·.1) then k.map (·.1) else k.map (·.1) ++ [x] := by
  unfold stZ
  rw [any_key]
  by_cases hm : x ∈ k.map (·.1)
  · rw [if_pos (decide_eq_true hm), if_pos hm, List.map_map]
    apply List.map_congr_left
    intro p hp
    simp only [Function.comp]
    split <;> rfl
  · rw [if_neg (by simpa using hm), if_neg hm]; simp
theorem stZ_nodup {k : List (Int × Int)} (hn : (k.map (·.1)).Nodup) (x v : Int) : ((stZ k x v).map (·.1)).Nodup := by
  rw [stZ_keys]
  split
  · exact hn
  · rename_i h
    exact List.nodup_append.mpr ⟨hn, by simp, fun a ha b hb e => h (by rw [List.mem_singleton.mp hb] at e; exact e ▸ ha)⟩
theorem plusD_ok {f : Int → Int} {c : Int} : ∀ (q p : List (Int × Int)), (p.map (·.1)).Nodup → ((plusD p q c).map (·.1)).Nodup ∧ sumP f (plusD p q c) = sumP f p + c * sumP f q
  | [], p, hn => ⟨hn, by show sumP f p = _; simp [sumP_c, sumP_n]⟩
  | e :: q, p, hn => by
    obtain ⟨a, b⟩ := plusD_ok (f := f) (c := c) q (addStep c p e) (stZ_nodup hn _ _)
    refine ⟨a, ?_⟩
    show sumP f (plusD (addStep c p e) q c) = _
    rw [b]
    show sumP f (stZ p e.1 ((getZ p e.1).getD 0 + c * e.2)) + _ = _
    rw [stZ_sum hn, sumP_c, Int.mul_add, Int.mul_assoc]; omega
noncomputable def sumH (h : Int → Int) : List Int → Int
  | [] => 0
  | x :: r => h x + sumH h r
theorem sumH_perm {h : Int → Int} {l l' : List Int} (p : l.Perm l') : sumH h l = sumH h l' := by
  induction p with
  | nil => rfl
  | cons x _ ih => exact congrArg (h x + ·) ih
  | swap x y l => show h y + (h x + sumH h l) = h x + (h y + sumH h l); omega
  | trans _ _ ih1 ih2 => exact ih1.trans ih2
theorem sumH_congr {h g : Int → Int} : ∀ {l : List Int}, (∀ x ∈ l, h x = g x) → sumH h l = sumH g l
  | [], _ => rfl
  | x :: l, e => by show h x + sumH h l = g x + sumH g l; rw [e x (.head _), sumH_congr fun y hy => e y (.tail _ hy)]
theorem sumP_keys {f : Int → Int} : ∀ {K : List (Int × Int)}, (K.map (·.1)).Nodup → sumP f K = sumH (fun x => (getZ K x).getD 0 * f x) (K.map (·.1))
  | [], _ => rfl
  | (y, v) :: K, hn => by
    simp only [List.map_cons, List.nodup_cons] at hn
    show v * f y + sumP f K = (getZ ((y, v) :: K) y).getD 0 * f y + sumH (fun x => (getZ ((y, v) :: K) x).getD 0 * f x) (K.map (·.1))
    rw [getZ_cons, if_pos rfl, sumP_keys hn.2]
    congr 1
    refine sumH_congr fun x hx => ?_
    show _ = (getZ ((y, v) :: K) x).getD 0 * f x
    rw [getZ_cons, if_neg (fun e : y = x => hn.1 (by rw [e]; exact hx))]
theorem sumP_filter {f : Int → Int} {K : List (Int × Int)} : ∀ l : List Int, sumP f (l.filterMap fun x => match getZ K x with
    | some v => if v = 0 then none else some (x, v)
    | none => none) = sumH (fun x => (getZ K x).getD 0 * f x) l
  | [] => rfl
  | x :: l => by
    show _ = (getZ K x).getD 0 * f x + sumH (fun x => (getZ K x).getD 0 * f x) l
    rw [List.filterMap_cons, ← sumP_filter l]
    cases hk : getZ K x with
    | none => simp
    | some v =>
      by_cases hv : v = 0
      · simp [hv]
      · simp [hv, sumP_c, sumP_n]
theorem ev_plus {f : Int → Int} {e g : Lin} {c : Int} (hn : (e.ps.map (·.1)).Nodup) : ev f (e.plus g c) = ev f e + c * ev f g := by
  obtain ⟨a, b⟩ := plusD_ok (f := f) (c := c) g.ps e.ps hn
  have : sumP f (plusZ e.ps g.ps c) = sumP f e.ps + c * sumP f g.ps := by
    unfold plusZ
    refine (sumP_filter (K := plusD e.ps g.ps c) _).trans ?_
    rw [sumH_perm (sortZ_perm _), ← sumP_keys a, b]
  unfold ev Lin.plus
  dsimp only
  rw [this, Int.mul_add]; omega
theorem plusZ_mem {p q : List (Int × Int)} {c : Int} {z : Int × Int} (h : z ∈ plusZ p q c) : z ∈ plusD p q c ∧ z.2 ≠ 0 := by
  unfold plusZ at h
  obtain ⟨x, hx, h⟩ := List.mem_filterMap.mp h
  split at h
  · rename_i v hv
    split at h
    · cases h
    · rename_i h0; cases h; exact ⟨getZ_mem hv, h0⟩
  · cases h
theorem plusZ_keys {p q : List (Int × Int)} {c : Int} : ((plusZ p q c).map (·.1)).Sublist (sortZ ((plusD p q c).map (·.1))) := by
  unfold plusZ
  refine filterMap_keysI (fun a z e => ?_) _
  split at e
  · split at e
    · cases e
    · cases e; rfl
  · cases e
where filterMap_keysI {f : Int → Option (Int × Int)} (hf : ∀ a p, f a = some p → p.1 = a) : ∀ l : List Int, ((l.filterMap f).map (·.1)).Sublist l
  | [] => .slnil
  | a :: l => by
    rw [List.filterMap_cons]
    cases e : f a with
    | none => exact (filterMap_keysI hf l).cons _
    | some p => simp only [List.map_cons]; rw [hf a p e]; exact (filterMap_keysI hf l).cons_cons _
structure Num (e : Lin) : Prop where
  len : e.ps.length ≤ 1
  vs : ∀ p ∈ e.ps, 0 ≤ p.1 ∧ p.1 < 3 ∧ p.2.natAbs ≤ 2 ∧ p.2 ≠ 0
  c : e.c.natAbs ≤ 10
structure Mid2 (n : Nat) (ps : List (Int × Int)) : Prop where
  nd : (ps.map (·.1)).Nodup
  len : ps.length ≤ n
  vs : ∀ p ∈ ps, 0 ≤ p.1 ∧ p.1 < 3 ∧ p.2.natAbs ≤ 4
theorem Num.nodup {e : Lin} (h : Num e) : (e.ps.map (·.1)).Nodup := by
  cases hp : e.ps with
  | nil => simp
  | cons a l =>
    have := h.len
    rw [hp] at this
    cases l with
    | nil => simp
    | cons b l => simp at this
theorem plusZ_mid {p q : List (Int × Int)} {c : Int} {n : Nat} (h : Mid2 n (plusD p q c)) : Mid2 n (plusZ p q c) := by
  have hs : (sortZ ((plusD p q c).map (·.1))).Nodup := (sortZ_perm _).nodup_iff.mpr h.nd
  refine ⟨hs.sublist plusZ_keys, ?_, fun z hz => h.vs z (plusZ_mem hz).1⟩
  have h1 := plusZ_keys (p := p) (q := q) (c := c) |>.length_le
  rw [(sortZ_perm _).length_eq, List.length_map, List.length_map] at h1
  exact Nat.le_trans h1 h.len
theorem stZ_mem {k : List (Int × Int)} {x v : Int} {z : Int × Int} (h : z ∈ stZ k x v) : z ∈ k ∨ z = (x, v) := by
  unfold stZ at h
  split at h
  · obtain ⟨p, hp, rfl⟩ := List.mem_map.mp h
    split
    · rename_i e; exact .inr (by rw [e])
    · exact .inl hp
  · rcases List.mem_append.mp h with h | h
    · exact .inl h
    · exact .inr (List.mem_singleton.mp h)
theorem mid_eq {a b : Lin} (ha : Num a) (hb : Num b) : Mid2 2 (plusD a.ps b.ps (-1)) := by
  refine ⟨(plusD_ok (f := fun _ => 0) _ _ ha.nodup).1, ?_, ?_⟩
  · cases hq : b.ps with
    | nil => show a.ps.length ≤ 2; have := ha.len; omega
    | cons q l =>
      have hl : l = [] := by have := hb.len; rw [hq] at this; cases l with | nil => rfl | cons _ _ => simp at this
      subst hl
      show (stZ a.ps q.1 _).length ≤ 2
      have := ha.len
      have e := congrArg List.length (stZ_keys a.ps q.1 ((getZ a.ps q.1).getD 0 + -1 * q.2))
      rw [List.length_map] at e
      rw [e]
      split <;> simp <;> omega
  · intro z hz
    cases hq : b.ps with
    | nil =>
      rw [hq] at hz
      have h := ha.vs z hz
      exact ⟨h.1, h.2.1, Nat.le_trans h.2.2.1 (by decide)⟩
    | cons q l =>
      have hl : l = [] := by have := hb.len; rw [hq] at this; cases l with | nil => rfl | cons _ _ => simp at this
      subst hl
      rw [hq] at hz
      have hq' := hb.vs q (by rw [hq]; exact .head _)
      rcases stZ_mem (show z ∈ stZ a.ps q.1 ((getZ a.ps q.1).getD 0 + -1 * q.2) from hz) with h | rfl
      · have h := ha.vs z h
        exact ⟨h.1, h.2.1, Nat.le_trans h.2.2.1 (by decide)⟩
      · refine ⟨hq'.1, hq'.2.1, ?_⟩
        dsimp only
        cases hg : getZ a.ps q.1 with
        | none => exact nab (Nat.zero_le 2) (nmu (Nat.le_refl 1 : (-1 : Int).natAbs ≤ 1) hq'.2.2.1 (Nat.le_refl _)) (Nat.le_refl _)
        | some v => exact nab (ha.vs _ (getZ_mem hg)).2.2.1 (nmu (Nat.le_refl 1 : (-1 : Int).natAbs ≤ 1) hq'.2.2.1 (Nat.le_refl _)) (Nat.le_refl _)
theorem lin_ok {e : Lin} {n : Nat} (h : Mid2 n e.ps) (hn : n ≤ 10) (hc : e.c.natAbs ≤ 10 ^ 6) : e.OK := ⟨h.nd, Nat.le_trans h.len hn, fun p hp => Nat.le_trans (h.vs p hp).2.2 (by decide), hc⟩
theorem Num.ok {e : Lin} (h : Num e) : e.OK := ⟨h.nodup, by have := h.len; omega, fun p hp => Nat.le_trans (h.vs p hp).2.2.1 (by decide), Nat.le_trans h.c (by decide)⟩
theorem linsOK {a b : Lin} (ha : Num a) (hb : Num b) : LinsOK (a, b) := by
  have m1 := plusZ_mid (mid_eq ha hb)
  have m2 : Mid2 2 (plusZ (plusZ a.ps b.ps (-1)) [] 1) := plusZ_mid (show Mid2 2 (plusD (plusZ a.ps b.ps (-1)) [] 1) from m1)
  have h1 := ha.c
  have h2 := hb.c
  exact ⟨ha.ok, hb.ok, lin_ok m1 (by decide) (nab h1 (nmu (Nat.le_refl 1 : (-1 : Int).natAbs ≤ 1) h2 (Nat.le_refl _)) (by decide)), lin_ok m2 (by decide) (nab (nab h1 (nmu (Nat.le_refl 1 : (-1 : Int).natAbs ≤ 1) h2 (Nat.le_refl _)) (Nat.le_refl _)) (Nat.le_refl 1 : (1 * 1 : Int).natAbs ≤ 1) (by decide)), fun q hq => (plusZ_mem hq).2, fun q hq => (plusZ_mem hq).2,
    fun q hq => ⟨(m1.vs q hq).1, (m1.vs q hq).2.1⟩, fun q hq => ⟨(m2.vs q hq).1, (m2.vs q hq).2.1⟩⟩
noncomputable def aheadP (st0 : Bool) : List (Int × Int) → Bool
  | [] => st0
  | p :: r => decide (p.1 < p.2) || (decide (p.1 = p.2) && aheadP st0 r)
theorem aheadP_c (st : Bool) (p : Int × Int) (r : List (Int × Int)) : aheadP st (p :: r) = (decide (p.1 < p.2) || (decide (p.1 = p.2) && aheadP st r)) := rfl
theorem stepL_right {one : List Int} (h3 : one.length = 3) {f : Tv × List Key} {p : Lin × Lin} {b : Bool} (hp : LinsOK p) (hf : TvB (3 + f.2.length) f.1) (hD : ∀ x, 0 ≤ x → x < 3 → InD D (atL one) x) (R : Right one f.2 f b) :
    Right one f.2 (stepL D f p) (decide (ev (atL one) p.1 < ev (atL one) p.2) || (decide (ev (atL one) p.1 = ev (atL one) p.2) && b)) := by
  have E := stepE (D := D) hp hf
  have r1 := truthK_right (D := D) h3 R.wf (le := true) hp.v2 hp.nz2 hp.e2.len fun q hq => hD q.1 (hp.v2 q hq).1 (hp.v2 q hq).2
  have r2 := truthK_right (D := D) h3 r1.wf (le := false) hp.v1 hp.nz1 hp.e1.len fun q hq => hD q.1 (hp.v1 q hq).1 (hp.v1 q hq).2
  have la := E.a.pre.length_le; have lb := E.b.pre.length_le; have lc := E.c.pre.length_le
  have r3 := allL_right h3 r2.wf (ts := [(truthK D false (eqL p) (truthK D true (ltL p) f.2).2).1, f.1]) (Nat.le_refl _) fun t ht => by
    simp only [List.mem_cons, List.not_mem_nil, or_false] at ht
    rcases ht with rfl | rfl
    · exact E.b.bit
    · exact hf.le (by omega)
  have r4 := anyL_right h3 r3.wf (ts := [(truthK D true (ltL p) f.2).1, (allL [(truthK D false (eqL p) (truthK D true (ltL p) f.2).2).1, f.1] (truthK D false (eqL p) (truthK D true (ltL p) f.2).2).2).1]) (Nat.le_refl _) fun t ht => by
    simp only [List.mem_cons, List.not_mem_nil, or_false] at ht
    rcases ht with rfl | rfl
    · exact E.a.bit.le (by omega)
    · exact E.c.bit
  refine ⟨r4.wf, r4.val.trans ?_⟩
  simp only [List.any_cons, List.any_nil, Bool.or_false]
  rw [Tval_pre h3 (E.b.pre.trans E.c.pre) E.a.bit, r1.val, r3.val]
  simp only [List.all_cons, List.all_nil, Bool.and_true]
  rw [r2.val, Tval_pre h3 (E.a.pre.trans E.b.pre) hf, R.val]
  have e1 : ev (atL one) (eqL p) = ev (atL one) p.1 - ev (atL one) p.2 := by unfold eqL; rw [ev_plus hp.o1.nodup]; omega
  have e2 : ev (atL one) (ltL p) = ev (atL one) p.1 - ev (atL one) p.2 + 1 := by
    show ev (atL one) ((eqL p).plus ⟨[], 1⟩ 1) = _
    rw [ev_plus hp.e1.nodup]
    show ev (atL one) (eqL p) + 1 * ev (atL one) ⟨[], 1⟩ = _
    rw [e1]; simp [ev, sumP_c, sumP_n]
  rw [e1, e2]
  simp only [if_true, Bool.false_eq_true, if_false]
  congr 1
  · apply decide_eq_decide.mpr; omega
  · congr 1; apply decide_eq_decide.mpr; omega
theorem fold_right {one : List Int} (h3 : one.length = 3) (hD : ∀ x, 0 ≤ x → x < 3 → InD D (atL one) x) : ∀ (l : List (Lin × Lin)) (f : Tv × List Key) (b : Bool), (∀ p ∈ l, LinsOK p) → TvB (3 + f.2.length) f.1 → Right one f.2 f b →
    Right one f.2 (l.foldl (stepL D) f) (l.foldl (fun b p => decide (ev (atL one) p.1 < ev (atL one) p.2) || (decide (ev (atL one) p.1 = ev (atL one) p.2) && b)) b)
  | [], f, b, _, _, R => R
  | p :: l, f, b, hl, hf, R => by
    have h1 := stepL_right h3 (hl p (.head _)) hf hD R
    obtain ⟨_, _, c⟩ := stepE.out (stepE (D := D) (hl p (.head _)) hf)
    have := fold_right h3 hD l (stepL D f p) _ (fun q hq => hl q (.tail _ hq)) c ⟨h1.wf, h1.val⟩
    exact ⟨this.wf, this.val⟩
theorem less_right {one : List Int} (h3 : one.length = 3) (hD : ∀ x, 0 ≤ x → x < 3 → InD D (atL one) x) {xs ys : List Lin} {st : Bool} {ks : List Key} (W : WFk ks) (hl : ∀ p ∈ xs.zip ys, LinsOK p) :
    Right one ks (lessL D xs ys st ks) (aheadP (start0 xs ys st) ((xs.zip ys).map fun p => (ev (atL one) p.1, ev (atL one) p.2))) := by
  have := fold_right h3 hD ((xs.zip ys).reverse) (.tt (start0 xs ys st), ks) (start0 xs ys st) (fun p hp => hl p (List.mem_reverse.mp hp)) TvB.tt ⟨W, rfl⟩
  refine ⟨this.wf, this.val.trans ?_⟩
  rw [List.foldl_reverse]
  clear this hl
  induction xs.zip ys with
  | nil => rfl
  | cons p l ih => rw [List.foldr_cons, ih]; rfl
end
section
section
variable {α β : Type} {C : Cx} {X Y : AS} {R : Heap → List Addr → α → β → Prop} {Q : β → AS → Prop}
theorem OpL.freeze {t : List Value → Sem Value} {xs : List V} {Q : V → AS → Prop} (h : OpL C X t xs RV (fun v Y => ∃ d l F M, v = .raw (.ref d) ∧ Y.mem = F ++ (d, .lst l) :: M ∧ Q (.lst l) ⟨Y.ρ, F ++ M⟩)) : OpL C X t xs RV Q := fun s S vs r =>
  wpAny_mono (h s S vs r) (fun a s1 g => by
    obtain ⟨_, Y, ⟨d, l, F, M, rfl, e, q⟩, S1, r, m⟩ := g
    cases r
    obtain ⟨ρ, mem⟩ := Y
    dsimp only at e
    subst e
    have hs : (F ++ M).Sublist (F ++ (d, MO.lst l) :: M) := List.Sublist.append (.refl _) (List.sublist_cons_self _ _)
    obtain ⟨vs, n, ho, rl⟩ := S1.H.mem (d, .lst l) (by simp)
    have hd : d ∉ (⟨ρ, F ++ M⟩ : AS).N := by
      have := (List.nodup_append.mp (List.nodup_cons.mp S1.H.nodup).2).2.1
      simp only [AS.N, List.map_append, List.map_cons] at this ⊢
      have h1 := List.nodup_append.mp this
      intro hm
      rcases List.mem_append.mp hm with hm | hm
      · exact h1.2.2 d hm d (.head _) rfl
      · exact (List.nodup_cons.mp h1.2.1).1 hm
    exact ⟨.lst l, ⟨ρ, F ++ M⟩, q, ⟨S1.H.drop (Y := ⟨ρ, F ++ M⟩) rfl hs, S1.gens, S1.os⟩, .lst ho hd (rl.map fun b o e _ n => ⟨e, fun hm => n ((hs.map _).subset hm)⟩), m.trans (Mono.drop hs)⟩) fun _ _ e => e
noncomputable def KeptMO (Kp : Addr → Obj → Prop) : Addr × MO → Prop
  | (a, .obj p) => ∃ o, Kp a o ∧ p o
  | _ => True
theorem TW.keep {t : Sem α} {P M : List (Addr × MO)} (hX : X.mem.Perm (P ++ M))
    (h : ∀ Kp : Addr → Obj → Prop, (∀ b o, C.Kp b o → Kp b o) → (∀ p ∈ P, KeptMO Kp p) → TW ⟨C.G, C.lv, C.A, C.env, C.cells, Kp⟩ ⟨X.ρ, M⟩ t R Q) : TW C X t R Q := fun s S => by
  obtain ⟨ρ, mem⟩ := X
  have SP : StH C ⟨ρ, P ++ M⟩ s.heap := S.H.perm hX
  have mP : Mono C ⟨ρ, mem⟩ s.heap ⟨ρ, P ++ M⟩ s.heap := Mono.perm hX
  have hs : M.Sublist (P ++ M) := List.sublist_append_right _ _
  have SM : StH C ⟨ρ, M⟩ s.heap := SP.drop rfl hs
  have mM : Mono C ⟨ρ, P ++ M⟩ s.heap ⟨ρ, M⟩ s.heap := Mono.drop hs
  have hn := SP.nodup
  have hPM : ∀ a, a ∈ P.map (·.1) → a ∉ muts C ⟨ρ, M⟩ := fun a ha hm => by
    have n1 := List.nodup_cons.mp hn
    have n2 := List.nodup_append.mp n1.2
    simp only [AS.N, List.map_append] at n1 n2
    rcases List.mem_cons.mp hm with rfl | hm
    · exact n1.1 (List.mem_append_right _ (List.mem_append_left _ ha))
    · rcases List.mem_append.mp hm with hm | hm
      · exact n2.2.2 a hm a (List.mem_append_left _ ha) rfl
      · exact (List.nodup_append.mp n2.2.1).2.2 a ha a hm rfl
  have Kp' := fun a o => C.Kp a o ∨ (a ∈ P.map (·.1) ∧ s.heap.get? a = some o)
  have h1 := h (fun a o => C.Kp a o ∨ (a ∈ P.map (·.1) ∧ s.heap.get? a = some o)) (fun _ _ e => .inl e) (fun p hp => by
    obtain ⟨a, mo⟩ := p
    cases mo with
    | obj p =>
      obtain ⟨o, e, q⟩ := SP.mem _ (List.mem_append_left _ hp)
      exact ⟨o, .inr ⟨List.mem_map.mpr ⟨_, hp, rfl⟩, e⟩, q⟩
    | _ => trivial)
  have S1 : St ⟨C.G, C.lv, C.A, C.env, C.cells, fun a o => C.Kp a o ∨ (a ∈ P.map (·.1) ∧ s.heap.get? a = some o)⟩ ⟨ρ, M⟩ s := by
    refine ⟨⟨⟨SM.std.fn, SM.std.gl, SM.std.bl, SM.std.frame, fun b o e => .inl (SM.std.base b o e), SM.std.top, SM.std.K, SM.std.hand, SM.std.depth, SM.std.units⟩, fun a o e => e.elim (SM.kept a o) fun e => e.2, fun a ha o e => e.elim (SM.apart a ha o) fun e => hPM a e.1 ha, SM.big, SM.nodup, SM.ns, SM.cells, SM.names, SM.cnodup, SM.mem⟩, S.gens, S.os⟩
  refine wpAny_mono (h1 s S1) (fun a s' g => ?_) fun _ _ e => e
  obtain ⟨b, Y, q, S2, r, m⟩ := g
  refine ⟨b, Y, q, ⟨⟨S.H.std, fun a o e => S2.H.kept a o (.inl e), fun a ha o e => S2.H.apart a ha o (.inl e), S2.H.big, S2.H.nodup, S2.H.ns, S2.H.cells, S2.H.names, S2.H.cnodup, S2.H.mem⟩, S2.gens, S2.os⟩, r, ?_⟩
  exact (mP.trans mM).trans m
theorem CompOK.thr {scope : Scope} {elt tgt : Expr} {ifs : List Expr} {l : List V} {M : List (Addr × MO)} {ok : List (Addr × MO) → Prop} {Q : V → AS → Prop} (P : Addr → List Sl → Prop) (r : Nat → List V) (T : Nat → List (Addr × MO))
    (hr : r 0 = []) (hT : M = T 0) (hP : ∀ L, P L (cslots Y.ρ (L + 1) scope.names)) (hz : ∀ j, j ≤ l.length → (r j).length ≤ sizeLine) (hok : ∀ D j, ok ((D, .lst (r j)) :: T j))
    (turn : ∀ L D Kp, (∀ b o, C.Kp b o → Kp b o) → ∀ j x F, l[j]? = some x → ∀ ρ, P L ρ → As (cxK C scope L Kp) ⟨ρ, (F ++ [(D, .lst (r j))]) ++ T j⟩ tgt x (fun W => Ifs (cxK C scope L Kp) W ifs (fun c W' =>
      if c = true then Ev (cxK C scope L Kp) W' elt (fun v W'' => W''.mem = (F ++ [(D, .lst (r j))]) ++ T (j + 1) ∧ r (j + 1) = r j ++ [v] ∧ P L W''.ρ) else W'.mem = (F ++ [(D, .lst (r j))]) ++ T (j + 1) ∧ r (j + 1) = r j ∧ P L W'.ρ)))
    (q : Q (.lst (r l.length)) ⟨Y.ρ, T l.length⟩) : CompOK C Y scope elt tgt ifs [] l M ok Q := fun L D Kp hKp =>
  ⟨fun j Z => Z.mem = (D, .lst (r j)) :: T j ∧ P L Z.ρ, ⟨by rw [hr, hT], hP L⟩, fun j Z h => by rw [h.1]; exact hok _ _, fun j x Z F hx hI => by
    have hj := (List.getElem?_eq_some_iff.mp hx).1
    have h1 := turn L D Kp hKp j x F hx Z.ρ hI.2
    rw [hI.1]
    have em : F ++ (D, MO.lst (r j)) :: T j = (F ++ [(D, MO.lst (r j))]) ++ T j := by simp
    rw [em]
    refine fun s S a ra => wpAny_mono (h1 s S a ra) (fun u s1 gd => ?_) fun _ _ e => e
    obtain ⟨_, W, hW, S1, r1, m1⟩ := gd
    refine ⟨(), W, TW.mono hW fun c W' hc => ?_, S1, r1, m1⟩
    cases c with
    | false =>
      simp only [Bool.false_eq_true, if_false] at hc ⊢
      obtain ⟨h2, h3, h4⟩ := hc
      obtain ⟨ρ', mem'⟩ := W'
      dsimp only at h2; subst h2
      exact ⟨⟨ρ', (D, .lst (r j)) :: T (j + 1)⟩, by simp, by rw [h3], h4⟩
    | true =>
      simp only [if_true] at hc ⊢
      refine Emit.mk (TW.mono hc fun v W'' h => ?_)
      obtain ⟨h2, h3, h4⟩ := h
      refine ⟨F, r j, T (j + 1), by rw [h2]; simp, hz j (Nat.le_of_lt hj), ⟨W''.ρ, (D, .lst (r j ++ [v])) :: T (j + 1)⟩, rfl, by rw [h3], h4⟩,
   fun Z hI => ⟨_, T l.length, hI.1, q⟩⟩
end
section
variable {C : Cx} {X : AS} {Q : V → AS → Prop}
theorem Op2.isNoneL {l : List V} (q : Q (.bool false) X) : Op2 C X (compareOp .Is) (.lst l) .none RV Q := fun s S x y rx ry => by cases rx; cases ry; exact is_ref_none (fin0 S (.bool _) q)
theorem Op2.isNotB {b c : Bool} (q : Q (.bool (b != c)) X) : Op2 C X (compareOp .IsNot) (.bool b) (.bool c) RV Q := fun s S x y rx ry => by cases rx; cases ry; exact isnot_bool (fin0 S (.bool _) q)
end
end
section
open PyProof.Rows.LSm
section
variable {C : Cx} {X : AS} {Q : V → AS → Prop}
theorem setM1 {l : List V} {x y : V} {d : Addr} {Q : AS → Prop} (k : Nat) (hi : X.mem[k]? = some (d, .lst (l ++ [x]))) (q : Q { X with mem := X.mem.set k (d, .lst (l ++ [y])) }) : Op3 C X setItem (.raw (.ref d)) (.int (-1)) y RE (fun (_ : Unit) W => Q W) := fun s S a b c ra rb rc => by
  cases ra; cases rb
  obtain ⟨vs, n, e, rl⟩ := S.at hi
  have hl := rl.length
  simp only [List.length_append, List.length_cons, List.length_nil] at hl
  refine ki_setBack (items := vs.toArray) (n := n) e (by decide) (by simp; omega) (by decide) ?_
  have hb : Heap.SameBut d s.heap (s.heap.update d (Obj.mapSeq (·.setIfInBounds (-1 + (vs.toArray.size : Int)).toNat c))) := Heap.SameBut.update ..
  have hdN : d ∈ X.N := List.mem_map.mpr ⟨_, List.mem_of_getElem? hi, rfl⟩
  have kk : ∀ (b : Addr) (o : Obj), s.heap.get? b = some o → SeqObj o → b ∉ X.N → (s.heap.update d (Obj.mapSeq (·.setIfInBounds (-1 + (vs.toArray.size : Int)).toNat c))).get? b = some o ∧ b ∉ X.N := fun b o e _ n => ⟨(hb.2 b fun q => n (q ▸ hdN)).trans e, n⟩
  obtain ⟨vs', w, rfl⟩ : ∃ vs' w, vs = vs' ++ [w] := by
    rcases List.eq_nil_or_concat vs with rfl | ⟨vs', w, rfl⟩
    · simp at hl
    · exact ⟨vs', w, by simp⟩
  have rl1 : RepL s.heap X.N vs' l := by
    have h1 : vs'.length = l.length := by simp at hl; omega
    clear e hb kk hi q
    have key : ∀ (vs' : List Value) (l : List V), vs'.length = l.length → RepL s.heap X.N (vs' ++ [w]) (l ++ [x]) → RepL s.heap X.N vs' l := by
      intro vs'
      induction vs' with
      | nil => intro l h _; cases l with | nil => exact .nil | cons _ _ => simp at h
      | cons v vs' ih =>
        intro l h r
        cases l with
        | nil => simp at h
        | cons y l => obtain ⟨_, _, ⟨⟩, r1, r2⟩ := r; exact .cons r1 (ih l (by simpa using h) r2)
    exact key vs' l h1 rl
  have ez : (-1 + ((vs' ++ [w]).toArray.size : Int)).toNat = vs'.length := by simp; omega
  have H := S.H.write (mo' := .lst (l ++ [y])) hi hb ⟨vs' ++ [c], _, by rw [Heap.get?_update_self _ e rfl, ez]; simp [Obj.mapSeq]; rfl, (rl1.map kk).append (.cons (rc.map kk) .nil)⟩
  exact ⟨(), _, q, S.heap H, rfl, Mono.write hi hb⟩
theorem Op2.itemStr {e i : Expr} {x : Str} {k : Int} {c : Nat} (hr : (decide (k < -(2 ^ 63 : Int)) || decide (k ≥ 2 ^ 63)) = false) (hc : (seqIndex? k x.length).bind (x.cps[·]?) = some c) (q : Q (.str ⟨#[c]⟩) X)
    (hs : ∀ o v, subscripted i false o v = operate [o, v] (getItem o v) := by intros; rfl) : Op2 C X (subscriptTail e i) (.str x) (.int k) RV Q := fun s S a b ra rb => by
  cases ra; cases rb
  exact tail_any (typeIs_str s x _) PySem.F.slot_str_getitem.lookup (PySem.P.getItem_str hr hc (fin_tk S (.str ..) q)) (hs _ _)
theorem OpL.all {bs : List Bool} (q : Q (.bool (bs.all id)) X) : OpL C X (fun vs => PySem.call (.builtin "all") vs) [.lst (bs.map .bool)] RV Q := fun s S vs r => by
  obtain ⟨_, _, ⟨⟩, r1, r2⟩ := r; cases r2; obtain ⟨_, _, _, ⟨⟩, e, hN, rl⟩ := r1
  ·
      obtain ⟨m, hs, F, N⟩ := S.fr
      have hb : ∀ (bs : List Bool) (ws : List Value), RepL s.heap X.N ws (bs.map .bool) → BoolsAre ws bs := by
        intro bs
        induction bs with
        | nil => intro ws r; cases r; exact .nil
        | cons b bs ih => intro ws r; obtain ⟨_, _, ⟨⟩, r1, r2⟩ := r; cases r1; exact .cons b (ih _ r2)
      refine all_bools F N S.hand ⟨_, e, rfl, _, rfl⟩ (hb _ _ rl) fun h' tk F' N' => ?_
      obtain ⟨H, mo⟩ := S.back hs F' N' fun p hp => hp
      exact ⟨_, X, q, ⟨H, S.gens, S.os⟩, .bool _, mo⟩
theorem OpL.sum {ns : List Int} (q : Q (.int ns.sum) X) : OpL C X (fun vs => PySem.call (.builtin "sum") vs) [.lst (ns.map .int)] RV Q := fun s S vs r => by
  obtain ⟨_, _, ⟨⟩, r1, r2⟩ := r; cases r2; obtain ⟨_, _, _, ⟨⟩, e, hN, rl⟩ := r1
  ·
      obtain ⟨m, hs, F, N⟩ := S.fr
      refine sum_ints F N S.hand ⟨_, e, rfl, _, rfl⟩ rl.ints fun h' tk t' F' N' => ?_
      obtain ⟨H, mo⟩ := S.back hs F' N' fun p hp => hp
      exact ⟨_, X, q, ⟨H, S.gens, S.os⟩, .int .., mo⟩
theorem setdef_pairs {prog : Program} {w : World} {K : Type} [DecidableEq K] {knd : KeyKind prog w K} {A : Around} {E : Value → Shared → Prop} {s : Shared} {d : Addr} {kvs : List (K × Value)} {k : K} {key dflt : Value} {Q : Value → Shared → Prop} (hkey : knd.is k key = true) (hm : s.heap.DictOf knd d kvs)
    (hthere : ∀ v, valueAt kvs k = some v → Q v { s with toks := s.toks + 1 })
    (hnew : valueAt kvs k = none → ∀ h', h'.DictOf knd d (stored kvs k dflt) → Heap.SameBut d s.heap h' → Q dflt { s with heap := h', toks := s.toks + 1 })
    (hz : kvs.length ≤ sizeLine) : wpAny (model prog w) A (dictSetDefault d key dflt) Q E s := by
  obtain ⟨o, es, ep, ho, hc, hd, hk, hp, hn⟩ := hm
  have hes : es.size ≤ sizeLine := by
    have e1 := hp.length
    have e2 : es.toList.length = es.size := by simp
    omega
  have hidx : (es.findIdx? fun e => knd.is k e.key) = kvs.findIdx? fun kv => decide (kv.1 = k) := by rw [← hp.findIdx k]; obtain ⟨l⟩ := es; simp
  have hval : valueAt kvs k = findBy knd.is es k := by rw [← hp.find k]; obtain ⟨l⟩ := es; simp [findBy]
  unfold dictSetDefault
  try with_reducible refine wpAny_holding ?_
  refine wpAny_bind (knd.pyHash hkey (wpAny_bind (wpAny_dictFind_of (s := { s with toks := s.toks + 1 }) hkey ho hd hk ?_)))
  cases hi : es.findIdx? fun e => knd.is k e.key with
  | some i =>
    have hlt : i < es.size := (Array.findIdx?_eq_some_iff_findIdx_eq.mp hi).1
    have hfk : valueAt kvs k = some es[i].val := by rw [hval, findBy_of_findIdx?, hi]; simp [hlt]
    refine wpAny_bind (wpAny_dictEntries (s := { s with toks := s.toks + 1 }) ho hd ?_)
    rw [Array.getElem?_eq_getElem hlt]
    exact wpAny_bind (wpAny_rule (wpAny_pure (hthere _ hfk)))
  | none =>
    have hfk : valueAt kvs k = none := by rw [hval, findBy_of_findIdx?, hi]
    have hnot : k ∉ kvs.map (·.1) := fun hm => by
      obtain ⟨p, hp1, hp2⟩ := List.mem_map.mp hm
      have := List.findIdx?_eq_none_iff.mp (hidx ▸ hi) p hp1
      simp [hp2] at this
    have hany : ¬ (kvs.any fun kv => decide (kv.1 = k)) = true := by
      rw [List.any_eq_true]; rintro ⟨kv, hkv, he⟩
      exact hnot (List.mem_map.mpr ⟨kv, hkv, of_decide_eq_true he⟩)
    refine wpAny_bind (wpAny_rule (wpAny_bind (wpAny_updateDictKeys (hz := hes) (s := { s with toks := s.toks + 1 }) ho hd (wpAny_pure (hnew hfk _ ⟨_, _, ep + 1, Heap.get?_update_self _ ho (Obj.isFreed_of_dict (Obj.data_mapDictKeys hd _)),
      hc.mapDictKeys _, Obj.data_mapDictKeys hd _, hk.push hkey _, ?_, ?_⟩ (Heap.SameBut.update ..))))))
    · rw [stored, if_neg hany]
      have := hp.append hkey (knd.hash k) dflt
      obtain ⟨l⟩ := es
      simpa using this
    · rw [stored, if_neg hany, List.map_append, List.nodup_append]
      refine ⟨hn, by simp, fun a ha b hb => ?_⟩
      simp only [List.map_cons, List.map_nil, List.mem_singleton] at hb
      subst hb
      exact fun e => hnot (e ▸ ha)
theorem meets_setdef {prog : Program} {w : World} {K : Type} [DecidableEq K] (knd : KeyKind prog w K) {k : K} {key : Value} (d : Addr) (hkey : knd.is k key = true) (hd : (d == sysModules) = false) (dflt : Value) :
    MeetsIn prog w (Builtin.«dict.setdefault» ⟨[.ref d, key, dflt], []⟩) (fun _ R s => ∃ kvs, s.heap.DictOf knd d kvs ∧ kvs.length ≤ sizeLine ∧
      (∀ v, valueAt kvs k = some v → R (.ok (.ret v)) { s with toks := s.toks + 1 }) ∧
      (valueAt kvs k = none → ∀ h', h'.DictOf knd d (stored kvs k dflt) → Heap.SameBut d s.heap h' → R (.ok (.ret dflt)) { s with heap := h', toks := s.toks + 1 })) :=
  .of_wp fun A R s hw => by
    obtain ⟨f, hm, hz, h1, h2⟩ := hw
    unfold Builtin.«dict.setdefault»
    refine wpAny_bind ?_
    unfold Builtin.Dict.keyAndDefault
    refine wpAny_bind (wpAny_notOrdered_dict hm.typeIs ?_)
    show wpAny _ _ (pure (d, key, some dflt)) _ _ s
    refine wpAny_pure ?_
    show wpAny _ _ (if (d == sysModules) = true then _ else (dictSetDefault d key dflt >>= _)) _ _ s
    rw [if_neg (by rw [hd]; exact Bool.false_ne_true)]
    exact wpAny_bind (setdef_pairs hkey hm (fun v hv => wpAny_pure ⟨v, rfl, h1 v hv⟩) (fun hn h' hm' hs' => wpAny_pure ⟨dflt, rfl, h2 hn h' hm' hs'⟩) hz)
theorem IsMeth.setdef {kvs : List (Int × V)} {d : Addr} (k : Nat) (hi : X.mem[k]? = some (d, .dI kvs)) : IsMeth C X (.raw (.ref d)) (Str.ofString "setdefault") (.builtin "dict.setdefault") :=
  IsMeth.blt PySem.F.plainAttrs_dict PySem.F.slot_dict_setdefault PySem.F.type_dict_setdefault fun s S a r => by
    cases r
    obtain ⟨vs, hd, _⟩ := S.at hi
    exact ⟨hd.typeIs, hd.mapOf.noDict⟩
theorem OpL.setdefThere {kvs : List (Int × V)} {d : Addr} {key : Int} {y z : V} (k : Nat) (hi : X.mem[k]? = some (d, .dI kvs)) (hl : lookK kvs key = some z) (hz : kvs.length ≤ sizeLine) (q : Q z X) : OpL C X (fun vs => PySem.call (.builtin "dict.setdefault") vs) [.raw (.ref d), .int key, y] RV Q := fun s S vs r => by
  obtain ⟨_, _, ⟨⟩, r1, r2⟩ := r; obtain ⟨_, _, ⟨⟩, r2, r3⟩ := r2; obtain ⟨_, _, ⟨⟩, r3, r4⟩ := r3
  ·
    cases r4; cases r1; cases r2
    obtain ⟨vs, hd, hkv⟩ := S.at hi
    have hlk := hkv.look (k := key)
    rw [hl] at hlk
    obtain ⟨v, e1, rv⟩ := hlk
    refine call_meetsIn PySem.F.slot_dict_setdefault hd.typeIs PySem.F.entry_dict_setdefault (PySem.F.args_dict_setdefault_3 _ _ _) (meets_setdef (intKind C.G.prog C.G.w) d (intKind_is _ _ key _) (not_sys S hi) _) ⟨vs, hd, by rw [hkv.length]; exact hz, fun v' e => ?_, fun e => ?_⟩
    · rw [e1] at e; cases e; exact fin_tk S rv q
    · rw [e1] at e; cases e
theorem OpL.setdefNew {kvs : List (Int × V)} {d : Addr} {key : Int} {y : V} (k : Nat) (hi : X.mem[k]? = some (d, .dI kvs)) (hl : lookK kvs key = none) (hz : kvs.length ≤ sizeLine) (q : Q y { X with mem := X.mem.set k (d, .dI (stI kvs key y)) }) : OpL C X (fun vs => PySem.call (.builtin "dict.setdefault") vs) [.raw (.ref d), .int key, y] RV Q := fun s S vs r => by
  obtain ⟨_, _, ⟨⟩, r1, r2⟩ := r; obtain ⟨_, _, ⟨⟩, r2, r3⟩ := r2; obtain ⟨_, _, ⟨⟩, r3, r4⟩ := r3
  ·
    cases r4; cases r1; cases r2
    obtain ⟨vs, hd, hkv⟩ := S.at hi
    have hlk := hkv.look (k := key)
    rw [hl] at hlk
    refine call_meetsIn PySem.F.slot_dict_setdefault hd.typeIs PySem.F.entry_dict_setdefault (PySem.F.args_dict_setdefault_3 _ _ _) (meets_setdef (intKind C.G.prog C.G.w) d (intKind_is _ _ key _) (not_sys S hi) _) ⟨vs, hd, by rw [hkv.length]; exact hz, fun v' e => ?_, fun e h' hd' hb => ?_⟩
    · rw [show valueAt vs key = _ from hlk] at e; cases e
    · have hdN : d ∈ X.N := List.mem_map.mpr ⟨_, List.mem_of_getElem? hi, rfl⟩
      have kk : ∀ (b : Addr) (o : Obj), s.heap.get? b = some o → SeqObj o → b ∉ X.N → h'.get? b = some o ∧ b ∉ X.N := fun b o e _ n => ⟨hb.extBut b o (fun q => n (q ▸ hdN)) e, n⟩
      have H := S.H.write (mo' := .dI (stI kvs key y)) hi hb ⟨_, hd', (hkv.map kk).stored (r3.map kk)⟩
      refine ⟨y, _, q, ⟨H, S.gens, S.os⟩, ?_, Mono.write hi hb⟩
      have ek : ({ X with mem := X.mem.set k (d, .dI (stI kvs key y)) } : AS).N = X.N := keys_set hi
      rw [ek]
      exact r3.map kk
end
end
section
open PyProof.Rows.LSm
section
variable {C : Cx} {X : AS} {Q : V → AS → Prop}
theorem Ev.dict2 {k1 k2 : Str} {n1 n2 : Nat} {p1 p2 pos : Pos} {v1 v2 : Expr} (hne : k1 ≠ k2)
    (h : ∀ d, Ev C ⟨X.ρ, (d, .dS []) :: X.mem⟩ v1 (fun x Y => Ev C Y v2 (fun y Z => ∃ M, Z.mem = (d, .dS []) :: M ∧ Q (.raw (.ref d)) ⟨Z.ρ, (d, .dS [(k1, x), (k2, y)]) :: M⟩))) :
    Ev C X (.Dict [some (.Constant (.str k1) n1 p1), some (.Constant (.str k2) n2 p2)] [v1, v2] pos) Q := fun s S => by
  refine wpAny_Dict_walk (knd := strKind C.G.prog C.G.w) rfl rfl (by simp) (Nat.le_of_ble_eq_true rfl) ?_
  have S1 : St C ⟨X.ρ, (s.heap.objs.size, .dS []) :: X.mem⟩ { s with heap := s.heap.push { cls := .type "dict", data := .dict #[] } } :=
    S.heap (S.H.alloc (mo := .dS []) ⟨[], Heap.DictOf.new _, .nil⟩)
  have m1 : Mono C X s.heap ⟨X.ρ, (s.heap.objs.size, .dS []) :: X.mem⟩ (s.heap.push { cls := .type "dict", data := .dict #[] }) := Mono.alloc _ _
  show wpAny _ _ (evalPairs [(eval _ C.env, do let x ← eval v1 C.env; standAt pos; pure x), (eval _ C.env, do let x ← eval v2 C.env; standAt pos; pure x)]) _ _ _
  refine evalPairs_cons (Constant_str (wpAny_bind ((h s.heap.objs.size).run (S1.toks _) fun a x Y s2 q2 S2 r2 m2 => wpAny_bind (wpAny_standAt (wpAny_pure ?_)))))
  refine evalPairs_cons (Constant_str (wpAny_bind (TW.run q2 (S2.toks _) fun b y Z s3 q3 S3 r3 m3 => wpAny_bind (wpAny_standAt (wpAny_pure (wpAny_pure ?_))))))
  obtain ⟨M, hZ, q⟩ := q3
  obtain ⟨ρ, mem⟩ := Z
  dsimp only at hZ
  subst hZ
  have hd0 := S3.H.mem (s.heap.objs.size, .dS []) (.head _)
  obtain ⟨vs, hd, hv⟩ := hd0
  cases hv
  refine ⟨[(k1, a), (k2, b)], ⟨strKind_is _ _ _ _, rfl, strKind_is _ _ _ _, rfl, trivial⟩, hd, fun h' hd' hb => ?_⟩
  have e : merged [] [(k1, a), (k2, b)] = [(k1, a), (k2, b)] := by simp [merged, stored, hne]
  rw [e] at hd'
  have hdN : s.heap.objs.size ∈ (⟨ρ, (s.heap.objs.size, .dS []) :: M⟩ : AS).N := .head _
  have kk : ∀ (c : Addr) (o : Obj), s3.heap.get? c = some o → SeqObj o → c ∉ (⟨ρ, (s.heap.objs.size, .dS []) :: M⟩ : AS).N → h'.get? c = some o ∧ c ∉ (⟨ρ, (s.heap.objs.size, .dS []) :: M⟩ : AS).N := fun c o e _ n => ⟨hb.extBut c o (fun q => n (q ▸ hdN)) e, n⟩
  have H := S3.H.write (i := 0) (mo' := .dS [(k1, x), (k2, y)]) rfl hb ⟨_, hd', .cons ((r2.mono S2.H m3).map kk) (.cons (r3.map kk) .nil)⟩
  have mw := Mono.write (C := C) (X := ⟨ρ, (s.heap.objs.size, .dS []) :: M⟩) (i := 0) (mo' := .dS [(k1, x), (k2, y)]) rfl hb
  exact ⟨_, _, q, ⟨H, S3.gens, S3.os⟩, .raw _, ((m1.trans m2).trans m3).trans mw⟩
noncomputable def PinI (prog : Program) (w : World) (xs : List (Int × Value)) (ep : Nat) (p : Obj → Prop) : Prop := ∀ o, p o → ∃ es, o.ExactDict ∧ o.data = .dict es ep ∧ KeysOf (intKind prog w) es ∧ Pairs (intKind prog w) es.toList xs ∧ (xs.map (·.1)).Nodup
theorem TW.pin {α β : Type} {R : Heap → List Addr → α → β → Prop} {Q : β → AS → Prop} {t : Sem α} {F M : List (Addr × MO)} {d : Addr} {kvs : List (Int × V)} (hX : X.mem = F ++ (d, .dI kvs) :: M)
    (h : ∀ p xs ep, PinI C.G.prog C.G.w xs ep p → xs.map (·.1) = kvs.map (·.1) → TW C ⟨X.ρ, F ++ (d, .obj p) :: M⟩ t R Q) : TW C X t R Q := fun s S => by
  obtain ⟨ρ, mem⟩ := X
  dsimp only at hX
  subst hX
  obtain ⟨xs, ⟨o, es, ep, ho, hr⟩, hk⟩ := S.H.mem (d, .dI kvs) (by simp)
  have hi : (⟨ρ, F ++ (d, MO.dI kvs) :: M⟩ : AS).mem[F.length]? = some (d, .dI kvs) := by simp
  have H := S.H.write (mo' := .obj (· = o)) hi (Heap.SameBut.refl d s.heap) ⟨o, ho, rfl⟩
  have mo := Mono.write (C := C) (mo' := .obj (· = o)) hi (Heap.SameBut.refl d s.heap)
  have eset : (F ++ (d, MO.dI kvs) :: M).set F.length (d, MO.obj (· = o)) = F ++ (d, MO.obj (· = o)) :: M := by simp
  simp only [eset] at H mo
  exact (h (· = o) xs ep (fun o' e => by subst e; exact ⟨es, hr⟩) hk.keys).runG (⟨H, S.gens, S.os⟩ : St C ⟨ρ, F ++ (d, .obj (· = o)) :: M⟩ s) fun _ _ g => good_trans mo g
noncomputable def atKeyIt (d : Addr) (n ep j : Nat) : Obj → Prop := fun o => o.cls = .type "dict_keyiterator" ∧ o.data = .fields #[.ref d, .int j 0, .int n 0, .int ep 0]
theorem MkIter.keys {tgt : Expr} {d : Addr} {xs : List (Int × Value)} {ep : Nat} {p : Obj → Prop} (hp : PinI C.G.prog C.G.w xs ep p) (k : Nat) (hi : X.mem[k]? = some (d, .obj p)) : MkIter C tgt X (.raw (.ref d)) (xs.map fun x => .int x.1) X.mem (fun M => (d, .obj p) ∈ M) := fun s0 S _ r => by
  cases r
  obtain ⟨o, ho, hpo⟩ := S.at hi
  obtain ⟨es, h1, h2, h3, h4, h5⟩ := hp o hpo
  refine wpAny_pyIter_dict (knd := intKind C.G.prog C.G.w) (kvs := xs) (ep := ep) (not_sys S hi) ⟨o, es, ho, h1, h2, h3, h4, h5⟩ ⟨_, fun j => [(s0.heap.objs.size, .obj (atKeyIt d xs.length ep j))], fun h N => True, rfl, ?_, S.heap (alloc_it S.H ⟨rfl, rfl⟩ rfl), trivial, Mono.alloc _ (.obj (atKeyIt d xs.length ep 0))⟩
  intro C' hG hA
  refine iter_one (p := fun j => atKeyIt d xs.length ep j) (by decide +kernel) (fun j o h => h.1) (fun j ρ M hok s S k => ?_) (fun j s o Q ho h q => wpAny_pyIter_keyiter ⟨o, ho, h.1, h.2⟩ q) fun Y h Z h' S m k => trivial
  obtain ⟨oi, hoi, hc, hd⟩ := S.H.mem (s0.heap.objs.size, .obj (atKeyIt d xs.length ep j)) (by simp)
  obtain ⟨o', ho', hpo'⟩ := S.H.mem (d, .obj p) (List.mem_append_right _ hok)
  obtain ⟨es', g1, g2, g3, g4, g5⟩ := hp o' hpo'
  have hG' : C'.G.prog = C.G.prog ∧ C'.G.w = C.G.w := by rw [hG]; exact ⟨rfl, rfl⟩
  have hat : s.heap.DictAt (intKind C'.G.prog C'.G.w) d xs ep := by rw [hG'.1, hG'.2]; exact ⟨o', es', ho', g1, g2, g3, g4, g5⟩
  refine ⟨fun x Q hx hQ => ?_, fun hx Q hQ => wpAny_pyNext_dict_end S.hand ⟨oi, hoi, hc, hd⟩ hat (by rw [hx]; simp) hQ⟩
  rw [List.getElem?_map] at hx
  obtain ⟨y, hy, rfl⟩ := Option.map_eq_some_iff.mp hx
  refine wpAny_pyNext_dict_item (k := y.1) (v := y.2) ⟨oi, hoi, hc, hd⟩ hat hy fun key h' hkey hit hb => ?_
  obtain ⟨t, rfl⟩ := intKind_inv hkey
  obtain ⟨o2, e2, c2, d2⟩ := hit
  exact hQ _ h' s.toks o2 (.int _ t) e2 ⟨c2, d2⟩ hb.extBut
theorem Op2.mulL {l : List V} {k : Int} (h0 : 0 ≤ k) (hk : k ≤ 100) (hz : l.length ≤ 100) (q : Q (.lst (List.replicate k.toNat l).flatten) X) : Op2 C X (binaryOp .Mult) (.lst l) (.int k) RV Q := fun s S a b ra rb => by
  obtain ⟨u, hv9⟩ := Rep.int_inv rb; clear rb; cases (hv9)
  obtain ⟨a, vs, n, hv9, eh, hN, rl⟩ := Rep.lst_inv ra; clear ra; cases (hv9)
  · have hl := rl.length
    have hm : l.length * k.toNat ≤ 100 * 100 := Nat.mul_le_mul hz (by omega)
    have hsz' : vs.toArray.size * k.toNat ≤ 2 ^ 24 := by rw [List.size_toArray, hl]; omega
    refine wpAny_binaryOp_repeat_ref (T := "list") (U := "int") (by decide) ⟨_, eh, rfl⟩ (fun s' => typeIs_int s' k u) noFill_list_mul PySem.F.fills_int_mul PySem.F.slot_int_rmul repeat_list PySem.F.slot_int_index.lookup
      (call_meets PySem.F.slot_int_rmul (typeIs_int s k u) PySem.F.entry_int_rmul (PySem.F.args_int_rmul_2 _ _) (lm_int_rmul_list_any k u a vs.toArray n none #[])
        ⟨eh, rfl, ⟨_, eh, rfl⟩, call_meets PySem.F.slot_list_mul ⟨_, eh, rfl⟩ PySem.F.entry_list_mul (PySem.F.args_list_mul_2 _ _)
          (lm_list_mul_any a vs.toArray n none #[] k u (by simp [Builtin.List.listFitsIndex]; omega) (by omega) (by simp [Builtin.List.listTooLong, sizeLine]; omega))
          ⟨eh, ?_⟩⟩)
    have er : ∀ k : Nat, RepL s.heap X.N (List.replicate k vs).flatten (List.replicate k l).flatten := by
      intro k
      induction k with
      | zero => exact .nil
      | succ k ih => rw [List.replicate_succ, List.replicate_succ, List.flatten_cons, List.flatten_cons]; exact rl.append ih
    have ea : List.foldl (fun x1 x2 => x1 ++ x2) #[] (List.replicate (if vs.toArray.isEmpty = true then 0 else k.toNat) vs.toArray) = ((List.replicate k.toNat vs).flatten).toArray := by
      rw [listMul_foldl_if]
    rw [ea]
    exact fin S (S.H.push _) (Mono.push _) (push_lst S (er _)) q
theorem OpL.lenK {a : Addr} {o : Obj} {vs : List Value} {n : Nat} (hK : C.Kp a o) (hc : o.cls = .type "list") (hd : o.data = .seq vs.toArray n) (hz : vs.length < 2 ^ 63) (q : Q (.int vs.length) X) : OpL C X (fun vs => PySem.call (.builtin "len") vs) [.raw (.ref a)] RV Q := fun s S ws r => by
  obtain ⟨_, _, ⟨⟩, r1, r2⟩ := r; cases r2; cases r1
  exact PyProof.Rows.len_list ⟨_, S.H.kept _ _ hK, hc, _, hd⟩ (by simp; omega) (by rw [List.size_toArray]; exact fin_tk S (.int ..) q)
theorem Op2.slice_takeK {e i : Expr} {a : Addr} {o : Obj} {vs : List Value} {ns : List Int} {k : Nat} (hK : C.Kp a o) (hc : o.cls = .type "list") (hd : o.data = .seq vs.toArray k) (hi : IntsAre vs ns) {sl : Addr} {M : List (Addr × MO)} (n : Nat) (hm : X.mem = (sl, .obj (sliceP none (some (n : Int)) none)) :: M) (hz : vs.length ≤ sizeLine) (q : Q (.lst ((ns.take n).map .int)) ⟨X.ρ, M⟩)
    (hs : ∀ o v, ∃ ops, subscripted i false o v = operate ops (getItem o v) := by intros; exact ⟨_, rfl⟩) : Op2 C X (subscriptTail e i) (.raw (.ref a)) (.raw (.ref sl)) RV Q := fun s S x y rx ry => by
  cases rx; cases ry
  have eh := S.H.kept _ _ hK
  have rl : RepL s.heap X.N vs (ns.map .int) := RepL.ofInts hi
  obtain ⟨o', eo, vl, vu, vs', rfl, p1, p2, p3⟩ := S.H.mem (sl, .obj (sliceP none (some (n : Int)) none)) (by rw [hm]; exact List.mem_cons_self ..)
  refine tail_any ⟨_, eh, hc⟩ slot_list_getitem.lookup (wpAny_getItem_list_slice ⟨_, eh, hc, _, hd⟩ ⟨_, eo, rfl, rfl⟩ p1 p2 p3 (by simp) ?_ (by rw [List.size_toArray]; exact hz)) (hs _ _).choose_spec
  rw [pick_take]
  have rw' := rl.take n
  have k : ∀ b o, s.heap.get? b = some o → (s.heap.push { cls := .type "list", data := .seq (List.toArray (vs.take n)) }).get? b = some o := fun b o e => Heap.get?_push_of_some _ e
  have hsub : M.Sublist X.mem := by rw [hm]; exact List.sublist_cons_self _ _
  have hn : s.heap.objs.size ∉ (⟨X.ρ, M⟩ : AS).N := fun hm' => by
    obtain ⟨o, eo⟩ := S.H.live _ (List.mem_cons_of_mem _ (List.mem_append_right _ ((hsub.map _).subset hm')))
    exact absurd (Heap.lt_size eo) (Nat.lt_irrefl _)
  have H2 : StH C ⟨X.ρ, M⟩ (s.heap.push { cls := .type "list", data := .seq (List.toArray (vs.take n)) }) := (S.H.keeps k).drop rfl hsub
  have M2 : Mono C X s.heap ⟨X.ρ, M⟩ (s.heap.push { cls := .type "list", data := .seq (List.toArray (vs.take n)) }) := (Mono.keeps k).trans (Mono.drop hsub)
  rw [← List.map_take] at rw'
  exact ⟨_, _, q, ⟨H2, S.gens, S.os⟩, .lst (Heap.get?_push_size _ rfl) hn (rw'.mono S.H M2), M2⟩
noncomputable def rngP (a b : Int) (o : Obj) : Prop := ∃ t u v, o = { cls := .type "range", dict := none, data := .fields #[.int a t, .int b u, .int 1 v], slots := #[] }
theorem rngP_is {a b : Int} (ha : -(2 ^ 62) ≤ a) (ha' : a < 2 ^ 62) (hb : -(2 ^ 62) ≤ b) (hb' : b < 2 ^ 62) : IsRng a (b - a).toNat (rngP a b) := fun o ⟨t, u, v, e⟩ => ⟨b, t, u, v, e, small_one ha ha' hb hb', by rw [rangeSize_one]; split <;> omega⟩
theorem OpL.range1 {n : Int} (q : ∀ r, Q (.raw (.ref r)) { X with mem := (r, .obj (rngP 0 n)) :: X.mem }) : OpL C X (fun vs => PySem.call (.type "range") vs) [.int n] RV Q := fun s S vs r => by
  obtain ⟨_, _, ⟨⟩, r1, r2⟩ := r
  ·
    cases r1; cases r2
    exact call_range_1 (fin S (Y := { X with mem := (s.heap.objs.size, .obj (rngP 0 n)) :: X.mem }) (S.H.alloc (mo := .obj (rngP 0 n)) ⟨_, Heap.get?_push_size _ rfl, _, _, _, rfl⟩) (Mono.alloc _ _) (.raw _) (q _))
theorem OpL.range2 {a b : Int} (q : ∀ r, Q (.raw (.ref r)) { X with mem := (r, .obj (rngP a b)) :: X.mem }) : OpL C X (fun vs => PySem.call (.type "range") vs) [.int a, .int b] RV Q := fun s S vs r => by
  obtain ⟨_, _, ⟨⟩, r1, r2⟩ := r; obtain ⟨_, _, ⟨⟩, r2, r3⟩ := r2
  ·
    cases r1; cases r2; cases r3
    exact call_range_2 (fin S (Y := { X with mem := (s.heap.objs.size, .obj (rngP a b)) :: X.mem }) (S.H.alloc (mo := .obj (rngP a b)) ⟨_, Heap.get?_push_size _ rfl, _, _, _, rfl⟩) (Mono.alloc _ _) (.raw _) (q _))
theorem MkIter.rng1 {tgt : Expr} {n : Nat} {r : Addr} {M : List (Addr × MO)} (hm : X.mem = (r, .obj (rngP 0 (n : Int))) :: M) (hn : n < 2 ^ 62) : MkIter C tgt X (.raw (.ref r)) ((List.range n).map fun i : Nat => .int (i : Int)) X.mem (fun _ => True) := by
  have := MkIter.rng (C := C) (tgt := tgt) (a := 0) (n := n) hm (by have := rngP_is (a := 0) (b := (n : Int)) (by decide) (by decide) (by omega) (by omega); simpa using this)
  simpa using this
end
end
section
noncomputable def feedV (cs : List Int) (k : Nat) : List (Str × V) := [("cells", .lst (cs.map .int)), ("spot", .int k)]
noncomputable def drawZ (cs : List Int) (k : Nat) (m : Int) : Int := (cs.getD (k % cs.length) 0 + ((k / cs.length : Nat) : Int) * (((k / 2 : Nat) : Int) + 5)).fmod m
theorem drawZ_lt (cs : List Int) (k : Nat) {m : Int} (h : 0 < m) : 0 ≤ drawZ cs k m ∧ drawZ cs k m < m := by
  unfold drawZ
  rw [Int.fmod_eq_emod_of_nonneg _ (by omega)]
  exact ⟨Int.emod_nonneg _ (by omega), Int.emod_lt_of_pos _ h⟩
structure CellsOK (cs : List Int) : Prop where
  ne : cs ≠ []
  len : cs.length ≤ 100
  small : ∀ c ∈ cs, 0 ≤ c ∧ c < 10 ^ 7
section
variable {C : Cx} {ρ : List Sl} {n : Nat} {Q : V → AS → Prop} {P T : List (Addr × MO)} {cs : List Int} {fd : Addr}
theorem look_cells (k : Nat) : lookK (feedV cs k) ("cells" : Str) = some (.lst (cs.map .int)) := rfl
theorem look_spot (k : Nat) : lookK (feedV cs k) ("spot" : Str) = some (.int k) := by
  unfold feedV lookK
  rw [List.find?_cons_of_neg (by show ¬ decide (("cells" : Str) = ("spot" : Str)) = true; decide), List.find?_cons_of_pos (by simp)]
  rfl
theorem set_spot (k j : Nat) : stI (feedV cs k) ("spot" : Str) (.int j) = feedV cs j := by
  have h1 : ¬ (("cells" : Str) = ("spot" : Str)) := by decide
  simp [stI, feedV, h1]
theorem draw_spec {k : Nat} {m : Int} (hG : HG C) (hlv : C.lv = n+1) (hc : CellsOK cs) (hk : k ≤ 1000) (hm : 0 < m) (q : Q (.int (drawZ cs k m)) ⟨ρ, P ++ (fd, .dS (feedV cs (k+1))) :: T⟩) :
    OpL C ⟨ρ, P ++ (fd, .dS (feedV cs k)) :: T⟩ (fun vs => call (.ref 425) vs) [.raw (.ref fd), .int m] RV Q := by
  refine OpL.fnP (n := n) ((congrArg (fun K => List.lookup 425 K) hG).trans rfl) (by rw [hG]; rfl) hlv (len2 fun _ _ => rfl) rfl rfl rfl (by decide) rfl rfl rfl ?h
  intro L A Kp hK C'
  have hne : cs.length ≠ 0 := by simpa using hc.ne
  have hlen := hc.len
  walk_at "b0.6.Op2"
  refine Op2.itemS' (kvs := feedV cs k) (by simp) (look_cells k) ?_
  walk_at "run.3.Op2"
  refine Op2.itemS' (kvs := feedV cs k) (by simp) (look_spot k) ?_
  walk_at "run.11.Op3"
  refine setS' (by simp [feedV, sizeLine_eq]) ?_
  rw [show ((k : Int) + 1) = ((k + 1 : Nat) : Int) by omega, set_spot]
  walk_at "run.6.OpL"
  refine OpL.lenL (by rw [List.length_map]; omega) ?_
  walk_at "run.0.Op2"
  rw [List.length_map]
  have e1 : (k : Int).fdiv (cs.length : Int) = ((k / cs.length : Nat) : Int) := by rw [Int.fdiv_eq_ediv_of_nonneg _ (by omega)]; rfl
  have e2 : (k : Int).fmod (cs.length : Int) = ((k % cs.length : Nat) : Int) := by rw [Int.fmod_eq_emod_of_nonneg _ (by omega)]; rfl
  have e3 : (k : Int).fdiv 2 = ((k / 2 : Nat) : Int) := by rw [Int.fdiv_eq_ediv_of_nonneg _ (by omega)]; rfl
  have hkl : k % cs.length < cs.length := Nat.mod_lt _ (by omega)
  have hdl : k / cs.length ≤ k := Nat.div_le_self _ _
  refine Op2.floordiv (by omega) (PyProof.noPylong_small (by omega)) ?_
  rw [e1]
  walk_at "run.11.OpL"
  refine OpL.lenL (by rw [List.length_map]; omega) ?_
  walk_at "run.0.Op2"
  rw [List.length_map]
  refine Op2.mod (by omega) ?_
  rw [e2]
  walk_at "run.0.Op2"
  have hget : cs[k % cs.length]? = some (cs.getD (k % cs.length) 0) := by rw [List.getD_eq_getElem?_getD, List.getElem?_eq_getElem hkl]; rfl
  have hsm := hc.small _ (List.mem_of_getElem? hget)
  refine Op2.iL (x := .int (cs.getD (k % cs.length) 0)) (k % cs.length) (by rw [List.getElem?_map, hget]; rfl) ?_ rfl (by omega)
  walk_at "run.6.Op2"
  refine Op2.floordiv (by decide) (PyProof.noPylong_small (by omega)) ?_
  rw [e3]
  walk_at "run.2.Op2"
  refine Op2.mul (small_mul (by rw [Int.natAbs_natCast]; omega) (by omega)) ?_
  walk_at "run.2.Op2"
  refine Op2.mod (by omega) ?_
  walk_at "run.0.Out"
  refine retR ?_
  exact q
noncomputable def stepsZ (cs : List Int) (k : Nat) : List Int := [1, 2, 3].filterMap fun s : Nat => if drawZ cs (k + s) 2 = 1 then some (s : Int) else none
noncomputable def rowL (cs : List Int) (k : Nat) : List Int := ((drawZ cs k 3 - 1) :: (stepsZ cs k).map fun s => drawZ cs k 3 - 1 + s).take 2
noncomputable def rowsL (cs : List Int) (k : Nat) : Nat → List V
  | 0 => []
  | j + 1 => rowsL cs k j ++ [.lst ((rowL cs (k + 4 * j)).map .int)]
theorem rowV_eq (cs : List Int) (k : Nat) : ([V.int (drawZ cs k 3 - 1)] ++ ([1, 2, 3] : List Nat).filterMap fun s => if drawZ cs (k + s) 2 = 1 then some (V.int (drawZ cs k 3 - 1 + (s : Int))) else none).take 2 = (rowL cs k).map .int := by
  unfold rowL stepsZ
  by_cases h1 : drawZ cs (k + 1) 2 = 1 <;> by_cases h2 : drawZ cs (k + 2) 2 = 1 <;> by_cases h3 : drawZ cs (k + 3) 2 = 1 <;> simp [h1, h2, h3]
theorem rowsL_len (cs : List Int) (k : Nat) : ∀ j, (rowsL cs k j).length = j
  | 0 => rfl
  | j + 1 => by show (rowsL cs k j ++ [_]).length = j + 1; rw [List.length_append, rowsL_len cs k j]; rfl
theorem rows_spec {k : Nat} (hG : HG C) (hlv : C.lv = n+2) (hc : CellsOK cs) (hk : k ≤ 500) (q : Q (.lst [.lst ((rowL cs k).map .int), .lst ((rowL cs (k + 4)).map .int), .lst ((rowL cs (k + 8)).map .int)]) ⟨ρ, P ++ (fd, .dS (feedV cs (k+12))) :: T⟩) :
    OpL C ⟨ρ, P ++ (fd, .dS (feedV cs k)) :: T⟩ (fun vs => call (.ref 430) vs) [.raw (.ref fd)] RV Q := by
  refine OpL.freeze ?_
  refine OpL.fnP (n := n+1) ((congrArg (fun K => List.lookup 430 K) hG).trans rfl) (by rw [hG]; rfl) hlv (len1 fun _ => rfl) rfl rfl rfl (by decide) rfl rfl rfl ?h
  intro L A Kp hK C'
  walk_at "b0.2.Ev"
  refine Ev.mlst (EvL.nil ⟨small_ok (by decide), fun d => ?_⟩)
  walk_at "run.1.Exs"
  refine Exs.cons ?_
  refine Ex.for (l := (List.range 3).map fun i : Nat => .int (i : Int)) (ok := fun _ => True) (fun j Z => ∃ r xv lv, Z = ⟨[⟨"feed", some (L + 1), some (.raw (.ref fd))⟩, ⟨"found", none, some (.raw (.ref d))⟩, ⟨"x", none, xv⟩, ⟨"low", some (L + 1 + 1), lv⟩], (r, .obj (rngP 0 3)) :: (d, .lst (rowsL cs k j)) :: (P ++ (fd, .dS (feedV cs (k + 4 * j))) :: T)⟩) ?_ (fun _ _ _ => trivial) ?_ ?_
  · walk_at "e0.2.OpL"
    refine OpL.range1 fun r => ?_
    exact ⟨_, MkIter.rng1 (n := 3) rfl (by decide), r, none, none, rfl⟩
  · rintro j x Z F hj ⟨r, xv, lv, rfl⟩
    have hj3 : j < 3 := by have := (List.getElem?_eq_some_iff.mp hj).1; simpa using this
    dsimp only
    rw [show F ++ (r, MO.obj (rngP 0 3)) :: (d, MO.lst (rowsL cs k j)) :: (P ++ (fd, MO.dS (feedV cs (k + 4 * j))) :: T) = (F ++ (r, MO.obj (rngP 0 3)) :: (d, MO.lst (rowsL cs k j)) :: P) ++ (fd, MO.dS (feedV cs (k + 4 * j))) :: T by simp]
    walk_at "a0.1.TW"; walk_at "b0.6.OpL"
    refine draw_spec (by exact hG) (by rfl) hc (by omega) (by decide) ?_
    walk_at "run.3.And"; refine ⟨by first | exact memA | exact memB | exact memC | exact memD, ?_⟩; walk_at "run.4.Exists"
    refine ⟨_, IsMeth.append (l := rowsL cs k j) (F.length + 1) (by simp), ?_⟩
    walk_at "m.2.Ev"
    refine Ev.lst ?_
    walk_at "l.2.Ev"
    refine Ev.comp (gens1 rfl (fun _ _ => rfl)) ?_ rfl (by decide) rfl
    walk_at "e0.5.Exists"
    refine ⟨_, _, _, MkIter.tup, CompOK.thr (fun L' ρ => ∃ a b, ρ = [⟨".0", none, a⟩, ⟨"step", none, b⟩, ⟨"feed", some (L + 1), some (.raw (.ref fd))⟩, ⟨"low", some (L + 1 + 1), some (.int (drawZ cs (k + 4 * j) 3 - 1))⟩])
      (fun i => (([1, 2, 3] : List Nat).take i).filterMap fun s => if drawZ cs (k + 4 * j + s) 2 = 1 then some (.int (drawZ cs (k + 4 * j) 3 - 1 + (s : Int))) else none)
      (fun i => (F ++ (r, MO.obj (rngP 0 3)) :: (d, MO.lst (rowsL cs k j)) :: P) ++ (fd, MO.dS (feedV cs (k + 4 * j + 1 + i))) :: T) rfl rfl (fun L' => ?_) ?_ (fun _ _ => trivial) ?_ ?_⟩
    · exact ⟨_, _, rfl⟩
    · intro i _
      refine Nat.le_trans (List.length_filterMap_le _ _) ?_
      rw [List.length_take]
      exact small_ok (Nat.le_trans (Nat.min_le_right _ _) (by decide))
    · rintro L' D Kp' hKp i x' F' hx ρ' ⟨a, b, rfl⟩
      have hi : i < 3 ∧ x' = .int ((i : Int) + 1) := by
        match i, hx with
        | 0, h => simp at h; exact ⟨by decide, h.symm⟩
        | 1, h => simp at h; exact ⟨by decide, h.symm⟩
        | 2, h => simp at h; exact ⟨by decide, h.symm⟩
        | i + 3, h => simp at h
      obtain ⟨hi3, rfl⟩ := hi
      have ht : ([1, 2, 3] : List Nat).take (i + 1) = ([1, 2, 3] : List Nat).take i ++ [i + 1] := by
        match i, hi3 with
        | 0, _ | 1, _ | 2, _ => rfl
      rw [ht, List.filterMap_append, ← List.append_assoc]
      walk_at "a0.1.TW"
      refine Ifs.one ?_
      walk_at "t0.4.OpL"
      refine draw_spec (by exact hG) (by rfl) hc (by omega) (by decide) ?_
      walk_at "run.3."
      rw [show k + 4 * j + 1 + i = k + 4 * j + (i + 1) by omega]
      refine ifB (fun h => ?_) fun h => ?_
      · have h' : drawZ cs (k + 4 * j + (i + 1)) 2 = 1 := by simpa using h
        walk_at "e0.4.And"
        refine ⟨by simp [List.append_assoc]; rw [show k + 4 * j + (i + 1) + 1 = k + 4 * j + 1 + (i + 1) by omega], ?_, _, _, rfl⟩
        simp [h']
      · have h' : ¬ drawZ cs (k + 4 * j + (i + 1)) 2 = 1 := by simpa using h
        refine ⟨by simp [List.append_assoc]; rw [show k + 4 * j + (i + 1) + 1 = k + 4 * j + 1 + (i + 1) by omega], ?_, _, _, rfl⟩
        simp [h']
    · dsimp only
      rw [show ([1, 2, 3] : List Nat).take [V.int 1, V.int 2, V.int 3].length = [1, 2, 3] from rfl]
      refine Op2.addL (small_ok ?_) ?_
      · have := List.length_filterMap_le (fun s : Nat => if drawZ cs (k + 4 * j + s) 2 = 1 then some (V.int (drawZ cs (k + 4 * j) 3 - 1 + (s : Int))) else none) [1, 2, 3]
        simp only [List.length_cons, List.length_nil] at this ⊢
        omega
      walk_at "run.0.Ev"
      refine Ev.slice ?_
      dsimp only [EvO]
      walk_at "e0.1.Exists"; refine ⟨_, rfl, ?_⟩
      intro sl
      refine Op2.slice_take (sl := sl) 2 rfl (small_ok ?_) ?_
      · have := List.length_filterMap_le (fun s : Nat => if drawZ cs (k + 4 * j + s) 2 = 1 then some (V.int (drawZ cs (k + 4 * j) 3 - 1 + (s : Int))) else none) [1, 2, 3]
        simp only [List.length_append, List.length_cons, List.length_nil] at this ⊢
        omega
      rw [rowV_eq]
      walk_at "run.0.OpL"
      refine OpL.append (l := rowsL cs k j) (F.length + 1) (by simp) (by rw [rowsL_len]; exact small_ok (by omega)) ?_
      walk_at "run.2.Back"
      rw [show k + 4 * j + 1 + [V.int 1, V.int 2, V.int 3].length = k + 4 * (j + 1) by show k + 4 * j + 1 + 3 = _; omega]
      rw [show ((F ++ (r, MO.obj (rngP 0 3)) :: (d, MO.lst (rowsL cs k j)) :: P) ++ (fd, MO.dS (feedV cs (k + 4 * (j + 1)))) :: T).set (F.length + 1) (d, MO.lst (rowsL cs k j ++ [.lst ((rowL cs (k + 4 * j)).map .int)])) = F ++ ((r, MO.obj (rngP 0 3)) :: (d, MO.lst (rowsL cs k (j + 1))) :: (P ++ (fd, MO.dS (feedV cs (k + 4 * (j + 1)))) :: T)) by simp [rowsL]]
      exact turnOK ⟨_, _, _, rfl⟩
  · rintro Z ⟨r, xv, lv, rfl⟩
    walk_at "b.3.Out"
    refine ⟨_, ⟨ρ, (d, .lst (rowsL cs k 3)) :: (P ++ (fd, .dS (feedV cs (k + 12))) :: T)⟩, .ret _, rfl, ?_, d, rowsL cs k 3, [], _, rfl, rfl, q⟩
    exact List.sublist_cons_self _ _
end
end
section
noncomputable def domStep (f : List (Int × Int)) (v : Int) : List (Int × Int) := match f.getLast? with
  | some p => if p.2 = v - 1 then f.dropLast ++ [(p.1, v)] else f ++ [(v, v)]
  | none => [(v, v)]
noncomputable def domL (row : List Int) : List (Int × Int) := row.foldl domStep []
theorem domStep_nil (v : Int) : domStep [] v = [(v, v)] := rfl
theorem domStep_snoc (f : List (Int × Int)) (p : Int × Int) (v : Int) : domStep (f ++ [p]) v = if p.2 = v - 1 then f ++ [(p.1, v)] else (f ++ [p]) ++ [(v, v)] := by
  unfold domStep
  rw [List.getLast?_concat]
  simp
theorem domL_len (row : List Int) : (domL row).length ≤ row.length := by
  have key : ∀ (row : List Int) (f : List (Int × Int)), (row.foldl domStep f).length ≤ f.length + row.length := by
    intro row
    induction row with
    | nil => intro f; exact Nat.le_refl _
    | cons v r ih =>
      intro f
      refine Nat.le_trans (ih _) ?_
      have : (domStep f v).length ≤ f.length + 1 := by
        rcases List.eq_nil_or_concat f with rfl | ⟨f', p, rfl⟩
        · simp [domStep_nil]
        · rw [List.concat_eq_append, domStep_snoc]
          split <;> simp
      simp only [List.length_cons]; omega
  have := key row []
  simpa [domL] using this
theorem neL_snoc (l : List V) (x : V) : (V.lst (l ++ [x])).eqb (.lst []) = false := by
  cases l <;> rfl
noncomputable def numF (w : Int) : Int := if w = 2 then 2 else if w = 3 then -1 else 1
noncomputable def numL (cs : List Int) (k : Nat) : Lin := if drawZ cs k 5 = 4 then ⟨[], drawZ cs (k + 2) 4 - 1⟩ else
  ⟨[(drawZ cs (k + 1) 3, numF (drawZ cs k 5))], if drawZ cs k 5 = 0 ∨ drawZ cs k 5 = 2 then 0 else drawZ cs (k + 2) 4 - 1⟩
noncomputable def meantL (e : Lin) : V := match e.ps with
  | p :: _ => .tup [.int p.1, .int p.2, .int e.c]
  | [] => .tup [.int 0, .int 0, .int e.c]
noncomputable def numV (e : Lin) : V := .tup [e.v, meantL e]
theorem numL_ok (cs : List Int) (k : Nat) : Num (numL cs k) := by
  have h0 := drawZ_lt cs k (m := 5) (by decide)
  have h1 := drawZ_lt cs (k + 1) (m := 3) (by decide)
  have h2 := drawZ_lt cs (k + 2) (m := 4) (by decide)
  unfold numL
  split
  · exact ⟨Nat.zero_le _, fun p hp => (nomatch hp), by show (drawZ cs (k + 2) 4 - 1).natAbs ≤ 10; omega⟩
  · refine ⟨Nat.le_refl _, fun p hp => ?_, ?_⟩
    · rw [List.mem_singleton.mp hp]
      refine ⟨h1.1, h1.2, ?_, ?_⟩ <;> (unfold numF; dsimp only; split <;> (try split) <;> decide)
    · dsimp only; split <;> omega
section
variable {C : Cx} {X : AS} {ρ : List Sl} {n : Nat} {Q : V → AS → Prop} {P T : List (Addr × MO)} {cs : List Int} {fd : Addr}
theorem domain_spec {row : List Int} (hG : HG C) (hlv : C.lv = n+1) (hz : row.length ≤ 50) (q : Q (pairsV (domL row)) X) : OpL C X (fun vs => call (.ref 437) vs) [.lst (row.map .int)] RV Q := by
  refine OpL.fnP (n := n) ((congrArg (fun K => List.lookup 437 K) hG).trans rfl) (by rw [hG]; rfl) hlv (len1 fun _ => rfl) rfl rfl rfl (by decide) rfl rfl rfl ?h
  intro L A Kp hK C'
  walk_at "b0.2.Ev"
  refine Ev.mlst (EvL.nil ⟨small_ok (by decide), fun d => ?_⟩)
  walk_at "run.1.Exs"
  refine Exs.cons ?_
  refine Ex.for (l := row.map .int) (ok := fun _ => True) (fun j Z => ∃ vv, Z = ⟨[⟨"row", none, some (.lst (row.map .int))⟩, ⟨"found", none, some (.raw (.ref d))⟩, ⟨"v", none, vv⟩], (d, .lst ((domL (row.take j)).map pairV)) :: X.mem⟩) ?_ (fun _ _ _ => trivial) ?_ ?_
  · walk_at "e0.1.Exists"
    exact ⟨_, MkIter.lst, none, rfl⟩
  · rintro j x Z F hj ⟨vv, rfl⟩
    rw [List.getElem?_map] at hj
    obtain ⟨v, hv, rfl⟩ := Option.map_eq_some_iff.mp hj
    have hjl : j < 50 := by have := (List.getElem?_eq_some_iff.mp hv).1; omega
    have htk : domL (row.take (j + 1)) = domStep (domL (row.take j)) v := by
      unfold domL
      rw [List.take_add_one, hv, List.foldl_append]; rfl
    have hlen : (domL (row.take j)).length ≤ 50 := by have := domL_len (row.take j); rw [List.length_take] at this; omega
    rw [htk]
    generalize domL (row.take j) = f at hlen
    dsimp only
    walk_at "a0.1.TW"
    refine Exs.cons ?_
    refine Ex.ite ?_
    walk_at "t0.3.Ev"
    refine Ev.lst ?_
    walk_at "l.1.Op2"
    rcases List.eq_nil_or_concat f with rfl | ⟨f', p, rfl⟩
    · refine Op2.neM (l := []) (y := .lst []) F.length (by simp) rfl rfl (by decide) ?_
      rw [show (!(V.lst []).eqb (.lst [])) = false by decide +kernel]
      walk_at "run.2.TW"; walk_at "b0.4.Exists"
      refine ⟨_, IsMeth.append (l := []) F.length (by simp), ?_⟩
      walk_at "m.4.OpL"
      refine OpL.append (l := []) F.length (by simp) (small_ok (by decide)) ?_
      walk_at "run.2.TW"; walk_at "b0.1.Back"
      rw [domStep_nil, mid_set]
      exact turnOK ⟨_, rfl⟩
    · rw [List.concat_eq_append] at hlen ⊢
      rw [domStep_snoc, List.map_append]
      have hd : V.datas (f'.map pairV ++ [p].map pairV) = true := by rw [← List.map_append]; exact datas_all fun x hx => by obtain ⟨z, _, rfl⟩ := List.mem_map.mp hx; rfl
      refine Op2.neM (l := f'.map pairV ++ [p].map pairV) (y := .lst []) F.length (by simp) rfl hd (by decide) ?_
      rw [show (V.lst (f'.map pairV ++ [p].map pairV)).eqb (.lst []) = false from neL_snoc _ _]
      walk_at "run.9.Op1"
      refine Op1.neg ?_
      walk_at "run.0.Op2"
      refine Op2.iM1 F.length (mid_get F _ _) (x := pairV p) (by simp) ?_
      unfold pairV
      walk_at "run.8."
      refine ifB (fun h => ?_) fun h => ?_
      · have h' : p.2 = v - 1 := by simpa using h
        rw [if_pos h']
        walk_at "t.1.TW"; walk_at "b0.8.Op1"
        refine Op1.neg ?_
        walk_at "run.0.Op2"
        refine Op2.iM1 F.length (mid_get F _ _) (x := .tup [.int p.1, .int p.2]) (by simp [pairV]) ?_
        walk_at "run.8.Op1"
        refine Op1.neg ?_
        walk_at "run.0.Op3"
        refine setM1 (l := f'.map pairV) (x := pairV p) F.length (mid_get F _ _) ?_
        walk_at "run.1.TW"; walk_at "b0.1.Back"
        rw [mid_set]
        exact turnOK ⟨_, by rw [List.map_append]; rfl⟩
      · have h' : ¬ p.2 = v - 1 := by simpa using h
        rw [if_neg h']
        walk_at "run.0.TW"; walk_at "b0.4.Exists"
        refine ⟨_, IsMeth.append F.length (mid_get F _ _), ?_⟩
        walk_at "m.4.OpL"
        refine OpL.append F.length (mid_get F _ _) (small_ok (by rw [← List.map_append, List.length_map]; omega)) ?_
        walk_at "run.2.TW"; walk_at "b0.1.Back"
        rw [mid_set]
        exact turnOK ⟨_, by rw [List.map_append, List.map_append]; rfl⟩
  · rintro _ ⟨vv, rfl⟩
    rw [List.length_map, List.take_length]
    walk_at "b.4.OpL"
    refine OpL.tupleM (l := (domL row).map pairV) 0 rfl (by have := domL_len row; rw [List.length_map]; exact small_ok (by omega)) ?_
    walk_at "run.0.Out"
    exact ⟨_, X, .ret _, rfl, List.sublist_cons_self _ _, q⟩
theorem number_spec {k : Nat} (hG : HG C) (hlv : C.lv = n+2) (hc : CellsOK cs) (hk : k ≤ 900) (q : Q (numV (numL cs k)) ⟨ρ, P ++ (fd, .dS (feedV cs (k+3))) :: T⟩) :
    OpL C ⟨ρ, P ++ (fd, .dS (feedV cs k)) :: T⟩ (fun vs => call (.ref 444) vs) [.raw (.ref fd)] RV Q := by
  refine OpL.fnP (n := n+1) ((congrArg (fun K => List.lookup 444 K) hG).trans rfl) (by rw [hG]; rfl) hlv (len1 fun _ => rfl) rfl rfl rfl (by decide) rfl rfl rfl ?h
  intro L A Kp hK C'
  walk_at "b0.6.OpL"
  refine draw_spec (by exact hG) (by rfl) hc (by omega) (by decide) ?_
  walk_at "run.3.OpL"
  refine draw_spec (by exact hG) (by rfl) hc (by omega) (by decide) ?_
  walk_at "run.4.OpL"
  refine draw_spec (by exact hG) (by rfl) hc (by omega) (by decide) ?_
  walk_at "run.4.Exs"
  have h0 := drawZ_lt cs k (m := 5) (by decide)
  have hq : numL cs k = if drawZ cs k 5 = 4 then ⟨[], drawZ cs (k + 2) 4 - 1⟩ else ⟨[(drawZ cs (k + 1) 3, numF (drawZ cs k 5))], if drawZ cs k 5 = 0 ∨ drawZ cs k 5 = 2 then 0 else drawZ cs (k + 2) 4 - 1⟩ := rfl
  rw [hq] at q
  generalize drawZ cs k 5 = w at *
  have hw : w = 0 ∨ w = 1 ∨ w = 2 ∨ w = 3 ∨ w = 4 := by omega
  rcases hw with rfl | rfl | rfl | rfl | rfl
  · walk_at "b.19.Op1"
    refine Op1.neg ?_
    walk_at "run.10.Op2"
    refine Op2.inT (x := .int 0) rfl rfl (by decide) ?_
    rw [show ([V.int 0, V.int 2].any fun z => z.eqb (V.int 0)) = true by decide +kernel]
    walk_at "run.24.Out"
    refine retR ?_
    exact q
  · walk_at "b.19.Op1"
    refine Op1.neg ?_
    walk_at "run.10.Op2"
    refine Op2.inT (x := .int 1) rfl rfl (by decide) ?_
    rw [show ([V.int 0, V.int 2].any fun z => z.eqb (V.int 1)) = false by decide +kernel]
    walk_at "run.24.Out"
    refine retR ?_
    exact q
  · walk_at "b.19.Op1"
    refine Op1.neg ?_
    walk_at "run.10.Op2"
    refine Op2.inT (x := .int 2) rfl rfl (by decide) ?_
    rw [show ([V.int 0, V.int 2].any fun z => z.eqb (V.int 2)) = true by decide +kernel]
    walk_at "run.24.Out"
    refine retR ?_
    exact q
  · walk_at "b.19.Op1"
    refine Op1.neg ?_
    walk_at "run.10.Op2"
    refine Op2.inT (x := .int 3) rfl rfl (by decide) ?_
    rw [show ([V.int 0, V.int 2].any fun z => z.eqb (V.int 3)) = false by decide +kernel]
    walk_at "run.24.Out"
    refine retR ?_
    exact q
  · walk_at "b.18.Out"
    refine retR ?_
    exact q
end
end
section
theorem atL_get {one : List Int} {x : Int} (h0 : 0 ≤ x) (hx : x < one.length) : (one.map V.int)[x.toNat]? = some (.int (atL one x)) := by
  unfold atL
  rw [List.getElem?_map, List.getD_eq_getElem?_getD, List.getElem?_eq_getElem (by omega)]
  rfl
theorem atL_mem {one : List Int} {x : Int} (h0 : 0 ≤ x) (hx : x < one.length) : atL one x ∈ one := by
  unfold atL
  rw [List.getD_eq_getElem?_getD, List.getElem?_eq_getElem (by omega)]
  exact List.getElem_mem _
noncomputable def startI (a b : Nat) (st : Bool) : Bool := decide ((a : Int) < b) || (decide ((a : Int) = b) && !st)
theorem pairsZ_int (xs ys : List Int) : pairsZ (xs.map .int) (ys.map .int) = (xs.zip ys).map fun p => V.tup [.int p.1, .int p.2] := by
  unfold pairsZ
  rw [List.zip_map, List.map_map]
  rfl
theorem ahead_drop (st : Bool) : ∀ (l : List (Int × Int)) (j : Nat), (∀ p ∈ l.take j, p.1 = p.2) → aheadP st l = aheadP st (l.drop j)
  | _, 0, _ => by simp
  | [], j + 1, _ => by simp
  | p :: l, j + 1, h => by
    have hp : p.1 = p.2 := h p (by simp)
    rw [List.drop_succ_cons, ← ahead_drop st l j fun q hq => h q (by simp [hq])]
    simp [aheadP_c, hp]
section
variable {C : Cx} {X : AS} {n : Nat} {Q : V → AS → Prop}
theorem worth_spec {e : Lin} {one : List Int} (hG : HG C) (hlv : C.lv = n+1) (hN : Num e) (h3 : one.length = 3) (ho : ∀ v ∈ one, v.natAbs ≤ 100) (q : Q (.int (ev (atL one) e)) X) : OpL C X (fun vs => call (.ref 451) vs) [meantL e, .tup (one.map .int)] RV Q := by
  refine OpL.fnP (n := n) ((congrArg (fun K => List.lookup 451 K) hG).trans rfl) (by rw [hG]; rfl) hlv (len2 fun _ _ => rfl) rfl rfl rfl (by decide) rfl rfl rfl ?h
  intro L A Kp hK C'
  obtain ⟨ps, c⟩ := e
  match ps, hN with
  | [], hN =>
    dsimp only [meantL]
    walk_at "b0.15.Op2"
    refine Op2.iT 0 (atL_get (x := 0) (by decide) (by omega)) ?_
    walk_at "run.0.Op2"
    refine Op2.mul (small_mul (by decide) (by have := ho _ (atL_mem (one := one) (x := 0) (by decide) (by omega)); omega)) ?_
    walk_at "run.2.Out"
    refine retR ?_
    have e : ev (atL one) ⟨[], c⟩ = 0 * atL one 0 + c := by simp [ev, sumP_c, sumP_n]
    rw [e] at q
    exact q
  | p :: r, hN =>
    have hv := hN.vs p (.head _)
    have hr : r = [] := by have := hN.len; cases r with | nil => rfl | cons _ _ => simp at this
    subst hr
    dsimp only [meantL]
    walk_at "b0.15.Op2"
    refine Op2.iT p.1.toNat (atL_get hv.1 (by omega)) ?_ (by omega) (by omega)
    walk_at "run.0.Op2"
    refine Op2.mul (small_mul (by omega) (by have := ho _ (atL_mem (one := one) hv.1 (by omega)); omega)) ?_
    walk_at "run.2.Out"
    refine retR ?_
    have e : ev (atL one) ⟨[p], c⟩ = p.2 * atL one p.1 + c := by simp [ev, sumP_c, sumP_n]
    rw [e] at q
    exact q
theorem ahead_spec {xs ys : List Int} {st : Bool} (hG : HG C) (hlv : C.lv = n+1) (hx : xs.length ≤ 20) (hy : ys.length ≤ 20) (q : Q (.bool (aheadP (startI xs.length ys.length st) (xs.zip ys))) X) :
    OpL C X (fun vs => call (.ref 458) vs) [.lst (xs.map .int), .lst (ys.map .int), .bool st] RV Q := by
  refine OpL.fnP (n := n) ((congrArg (fun K => List.lookup 458 K) hG).trans rfl) (by rw [hG]; rfl) hlv (len3 fun _ _ _ => rfl) rfl rfl rfl (by decide) rfl rfl rfl ?h
  intro L A Kp hK C'
  refine Exs.cons ?_
  refine Ex.for (l := pairsZ (xs.map .int) (ys.map .int)) (ok := fun _ => True) (fun j Z => (∀ p ∈ (xs.zip ys).take j, p.1 = p.2) ∧ ∃ av bv, Z = ⟨[⟨"left", none, some (.lst (xs.map .int))⟩, ⟨"right", none, some (.lst (ys.map .int))⟩, ⟨"is_strict", none, some (.bool st)⟩, ⟨"a", none, av⟩, ⟨"b", none, bv⟩], X.mem⟩) ?_ (fun _ _ _ => trivial) ?_ ?_
  · walk_at "e0.3.OpL"
    refine OpL.zip (k1 := true) (k2 := true) (la := xs.map .int) (lb := ys.map .int) fun a => ?_
    exact ⟨_, MkIter.zip (k1 := true) (k2 := true) rfl, by simp, none, none, rfl⟩
  · rintro j x Z F hj ⟨hpre, av, bv, rfl⟩
    rw [pairsZ_int, List.getElem?_map] at hj
    obtain ⟨p, hp, rfl⟩ := Option.map_eq_some_iff.mp hj
    have hjl := (List.getElem?_eq_some_iff.mp hp).1
    have hdrop : (xs.zip ys).drop j = p :: (xs.zip ys).drop (j + 1) := by
      rw [List.drop_eq_getElem_cons hjl]
      congr 1
      exact (List.getElem?_eq_some_iff.mp hp).2
    walk_at "a0.3.TW"
    refine Exs.cons ?_
    refine Ex.ite ?_
    walk_at "t0.5."
    refine ifB (fun h => ?_) fun h => ?_
    · have h' : p.1 ≠ p.2 := by simpa using h
      walk_at "b0.6.Out"
      refine ⟨_, X, .ret _, rfl, List.sublist_append_right _ _, ?_⟩
      rw [ahead_drop _ _ j hpre, hdrop] at q
      simpa [aheadP_c, h'] using q
    · have h' : p.1 = p.2 := by simpa using h
      walk_at "b0.1.TW"; walk_at "b0.1.Back"
      refine turnOK ⟨?_, _, _, rfl⟩
      intro z hz
      rw [List.take_add_one, hp] at hz
      rcases List.mem_append.mp hz with hz | hz
      · exact hpre z hz
      · have : z = p := by simpa using hz
        rw [this]; exact h'
  · rintro _ ⟨hpre, av, bv, rfl⟩
    rw [pairsZ_int, List.length_map, List.take_length] at hpre
    have hq : aheadP (startI xs.length ys.length st) (xs.zip ys) = startI xs.length ys.length st := by
      rw [ahead_drop _ _ (xs.zip ys).length (by rw [List.take_length]; exact hpre), List.drop_length]; rfl
    rw [hq] at q
    walk_at "b0.6.OpL"
    refine OpL.lenL (by rw [List.length_map]; omega) ?_
    walk_at "run.2.OpL"
    refine OpL.lenL (by rw [List.length_map]; omega) ?_
    walk_at "run.2."
    simp only [List.length_map]
    refine ifB (fun h1 => ?_) fun h1 => ?_
    · have e : startI xs.length ys.length st = true := by unfold startI; rw [h1]; rfl
      rw [e] at q
      exact ⟨_, X, .ret _, rfl, .refl _, q⟩
    · walk_at "e.5.OpL"
      refine OpL.lenL (by rw [List.length_map]; omega) ?_
      walk_at "run.2.OpL"
      refine OpL.lenL (by rw [List.length_map]; omega) ?_
      walk_at "run.2."
      simp only [List.length_map]
      refine ifB (fun h2 => ?_) fun h2 => ?_
      · have e : startI xs.length ys.length st = !st := by unfold startI; rw [h1, show decide ((xs.length : Int) = ys.length) = true by simpa using h2]; simp
        rw [e] at q
        walk_at "e.3.Op1"
        refine Op1.not ?_
        exact ⟨_, X, .ret _, rfl, .refl _, q⟩
      · have e : startI xs.length ys.length st = false := by unfold startI; rw [h1, show decide ((xs.length : Int) = ys.length) = false by simpa using h2]; rfl
        rw [e] at q
        exact ⟨_, X, .ret _, rfl, .refl _, q⟩
end
end
section
inductive Told where
  | reif (b : Int) (r : Row)
  | clause (u d : List Int)
  | and (xs : List Int) (b : Int)
  | or (xs : List Int) (b : Int)
noncomputable def Told.v : Told → V
  | .reif b r => reifV b r
  | .clause u d => clauseV u d
  | .and xs b => andV xs b
  | .or xs b => orV xs b
noncomputable def clauseT (so : List (Int × Bool)) : Told := .clause (ups so) (downs so)
noncomputable def tellsT (b : Int) : Key → List Told
  | .reif r => [.reif b r]
  | .or xs => [.or xs b]
  | .all [p, q] => if p.2 && q.2 then [.and [p.1, q.1] b] else [clauseT [p, (b, false)], clauseT [q, (b, false)], clauseT [(p.1, !p.2), (q.1, !q.2), (b, true)]]
  | .all _ => []
theorem tells_T (b : Int) (k : Key) : tellsK b k = (tellsT b k).map Told.v := by
  cases k with
  | reif r => rfl
  | or xs => rfl
  | all bs =>
    match bs with
    | [] | [_] | _ :: _ :: _ :: _ => rfl
    | [p, q] =>
      show (if (p.2 && q.2) = true then [andV [p.1, q.1] b] else mixV p q b) = List.map Told.v (if (p.2 && q.2) = true then [.and [p.1, q.1] b] else [clauseT [p, (b, false)], clauseT [q, (b, false)], clauseT [(p.1, !p.2), (q.1, !q.2), (b, true)]])
      cases p.2 && q.2 <;> rfl
noncomputable def Told.vars : Told → List Int
  | .reif b r => b :: r.xs
  | .clause u d => u ++ d
  | .and xs b => xs ++ [b]
  | .or xs b => xs ++ [b]
noncomputable def holdsT (f : Int → Int) : Told → Bool
  | .reif b r => decide (f b = 1) == evR f r
  | .clause u d => (u.any fun y => decide (f y = 1)) || d.any fun y => decide (f y = 0)
  | .and xs b => (!(xs.any fun y => decide (f y = 0))) == decide (f b = 1)
  | .or xs b => (xs.any fun y => decide (f y = 1)) == decide (f b = 1)
structure TellOK (K : List Int) (t : Told) : Prop where
  vars : ∀ y ∈ t.vars, 0 ≤ y ∧ y < K.length
  len : t.vars.length ≤ 20
  klen : K.length ≤ 1000
  ksm : ∀ v ∈ K, v.natAbs ≤ 100
theorem beq_dec (a b : Int) : (a == b) = decide (a = b) := by rw [Bool.eq_iff_iff]; simp
theorem eqb_bool (a b : Bool) : (V.bool a).eqb (.bool b) = (a == b) := by cases a <;> cases b <;> rfl
theorem any_at (f : Int → Int) (c : Int) (xs : List Int) : ((xs.map fun y => V.int (f y)).any fun z => z.eqb (.int c)) = xs.any fun y => decide (f y = c) := by
  rw [List.any_map]; rfl
theorem datas_at (f : Int → Int) (xs : List Int) : V.datas (xs.map fun y => V.int (f y)) = true := datas_all fun x hx => by obtain ⟨i, _, rfl⟩ := List.mem_map.mp hx; rfl
theorem dot_zip (f : Int → Int) : ∀ as xs : List Int, ((as.zip xs).map fun p => p.1 * f p.2).sum = dotZ f as xs
  | [], xs => by cases xs <;> rfl
  | _ :: _, [] => rfl
  | a :: as, x :: xs => by rw [List.zip_cons_cons, List.map_cons, List.sum_cons, dot_zip f as xs]; rfl
theorem atK {K : List Int} {y : Int} (h : 0 ≤ y ∧ y < K.length) : (K.map V.int)[y.toNat]? = some (.int (atL K y)) := atL_get h.1 h.2
section
variable {C : Cx} {X : AS} {n : Nat} {Q : V → AS → Prop}
theorem holds_spec {t : Told} {K : List Int} (hG : HG C) (hlv : C.lv = n+1) (hT : TellOK K t) (q : Q (.bool (holdsT (atL K) t)) X) : OpL C X (fun vs => call (.ref 463) vs) [t.v, .lst (K.map .int)] RV Q := by
  refine OpL.fnP (n := n) ((congrArg (fun K => List.lookup 463 K) hG).trans rfl) (by rw [hG]; rfl) hlv (len2 fun _ _ => rfl) rfl rfl rfl (by decide) rfl rfl rfl ?h
  intro L A Kp hK C'
  have hkl := hT.klen
  have hvs := hT.vars
  have hlen := hT.len
  cases t with
  | or xs b =>
    simp only [Told.vars, List.length_append, List.length_cons, List.length_nil] at hlen
    simp only [Told.vars] at hvs
    dsimp only [Told.v, orV]
    walk_at "b0.7.Exs"
    refine Exs.cons ?_
    refine Ex.ite ?_
    walk_at "t0.3.Op2"
    refine Op2.eqD (by decide +kernel) (by decide +kernel) (by decide) ?_
    rw [show (V.str (Str.ofString "or")).eqb (.str (Str.ofString "reif")) = false by decide +kernel]
    walk_at "run.1.TW"; walk_at "b0.1.TW"
    refine Exs.cons ?_
    refine Ex.ite ?_
    walk_at "t0.3.Op2"
    refine Op2.eqD (by decide +kernel) (by decide +kernel) (by decide) ?_
    rw [show (V.str (Str.ofString "or")).eqb (.str (Str.ofString "clause")) = false by decide +kernel]
    walk_at "run.1.TW"; walk_at "b0.1.TW"
    refine Exs.cons ?_
    refine Ex.ite ?_
    walk_at "t0.3.Op2"
    refine Op2.eqD (by decide +kernel) (by decide +kernel) (by decide) ?_
    rw [show (V.str (Str.ofString "or")).eqb (.str (Str.ofString "and")) = false by decide +kernel]
    walk_at "run.1.TW"; walk_at "b0.1.TW"
    refine Exs.cons ?_
    refine Ex.ite ?_
    walk_at "t0.3.Op2"
    refine Op2.eqD (by decide +kernel) (by decide +kernel) (by decide) ?_
    rw [show (V.str (Str.ofString "or")).eqb (.str (Str.ofString "or")) = true by decide +kernel]
    walk_at "run.1.TW"; walk_at "b0.5.Ev"
    refine Ev.comp (gens1 rfl (fun _ _ => rfl)) ?_ rfl (by decide) rfl
    walk_at "e0.4.Exists"
    refine ⟨_, _, _, MkIter.tup, CompOK.map (toV := .int) (items := xs) (fun _ ρ => ∃ a b, ρ = [⟨".0", none, a⟩, ⟨"y", none, b⟩, ⟨"known", some (L + 1), some (.lst (K.map .int))⟩]) (fun y => .int (atL K y)) (fun L' => ⟨_, _, rfl⟩) (small_ok (by omega)) (fun _ _ => trivial) ?_ ?_⟩
    · intro L' Kp' hKp y hy ρ' M' hM hP ⟨b', c, hρ⟩
      subst hρ
      walk_at "a0.1.TW"; walk_at "e0.3.Op2"
      have hb := hvs y (List.mem_append_left _ hy)
      refine Op2.iL y.toNat (atK hb) ?_ (by omega) (by omega)
      exact ⟨rfl, rfl, _, _, rfl⟩
    walk_at "run.0.Op2"
    refine Op2.inL (x := .int 1) rfl (datas_at _ _) (by decide) ?_
    rw [any_at]
    walk_at "run.7.Op2"
    have hb := hvs b (List.mem_append_right _ (.head _))
    refine Op2.iL b.toNat (atK hb) ?_ (by omega) (by omega)
    walk_at "run.2.Op2"
    refine Op2.eqD rfl rfl (Nat.zero_le _) ?_
    rw [eqb_bool, beq_dec]
    exact ⟨_, X, .ret _, rfl, .refl _, q⟩
  | and xs b =>
    simp only [Told.vars, List.length_append, List.length_cons, List.length_nil] at hlen
    simp only [Told.vars] at hvs
    dsimp only [Told.v, andV]
    walk_at "b0.7.Exs"
    refine Exs.cons ?_
    refine Ex.ite ?_
    walk_at "t0.3.Op2"
    refine Op2.eqD (by decide +kernel) (by decide +kernel) (by decide) ?_
    rw [show (V.str (Str.ofString "and")).eqb (.str (Str.ofString "reif")) = false by decide +kernel]
    walk_at "run.1.TW"; walk_at "b0.1.TW"
    refine Exs.cons ?_
    refine Ex.ite ?_
    walk_at "t0.3.Op2"
    refine Op2.eqD (by decide +kernel) (by decide +kernel) (by decide) ?_
    rw [show (V.str (Str.ofString "and")).eqb (.str (Str.ofString "clause")) = false by decide +kernel]
    walk_at "run.1.TW"; walk_at "b0.1.TW"
    refine Exs.cons ?_
    refine Ex.ite ?_
    walk_at "t0.3.Op2"
    refine Op2.eqD (by decide +kernel) (by decide +kernel) (by decide) ?_
    rw [show (V.str (Str.ofString "and")).eqb (.str (Str.ofString "and")) = true by decide +kernel]
    walk_at "run.1.TW"; walk_at "b0.5.Ev"
    refine Ev.comp (gens1 rfl (fun _ _ => rfl)) ?_ rfl (by decide) rfl
    walk_at "e0.4.Exists"
    refine ⟨_, _, _, MkIter.tup, CompOK.map (toV := .int) (items := xs) (fun _ ρ => ∃ a b, ρ = [⟨".0", none, a⟩, ⟨"y", none, b⟩, ⟨"known", some (L + 1), some (.lst (K.map .int))⟩]) (fun y => .int (atL K y)) (fun L' => ⟨_, _, rfl⟩) (small_ok (by omega)) (fun _ _ => trivial) ?_ ?_⟩
    · intro L' Kp' hKp y hy ρ' M' hM hP ⟨b', c, hρ⟩
      subst hρ
      walk_at "a0.1.TW"; walk_at "e0.3.Op2"
      have hb := hvs y (List.mem_append_left _ hy)
      refine Op2.iL y.toNat (atK hb) ?_ (by omega) (by omega)
      exact ⟨rfl, rfl, _, _, rfl⟩
    walk_at "run.0.Op2"
    refine Op2.ninL (x := .int 0) rfl (datas_at _ _) (by decide) ?_
    rw [any_at]
    walk_at "run.7.Op2"
    have hb := hvs b (List.mem_append_right _ (.head _))
    refine Op2.iL b.toNat (atK hb) ?_ (by omega) (by omega)
    walk_at "run.2.Op2"
    refine Op2.eqD rfl rfl (Nat.zero_le _) ?_
    rw [eqb_bool, beq_dec]
    exact ⟨_, X, .ret _, rfl, .refl _, q⟩
  | clause u d =>
    simp only [Told.vars, List.length_append] at hlen
    simp only [Told.vars] at hvs
    dsimp only [Told.v, clauseV]
    walk_at "b0.7.Exs"
    refine Exs.cons ?_
    refine Ex.ite ?_
    walk_at "t0.3.Op2"
    refine Op2.eqD (by decide +kernel) (by decide +kernel) (by decide) ?_
    rw [show (V.str (Str.ofString "clause")).eqb (.str (Str.ofString "reif")) = false by decide +kernel]
    walk_at "run.1.TW"; walk_at "b0.1.TW"
    refine Exs.cons ?_
    refine Ex.ite ?_
    walk_at "t0.3.Op2"
    refine Op2.eqD (by decide +kernel) (by decide +kernel) (by decide) ?_
    rw [show (V.str (Str.ofString "clause")).eqb (.str (Str.ofString "clause")) = true by decide +kernel]
    walk_at "run.1.TW"; walk_at "b0.5.Ev"
    refine Ev.comp (gens1 rfl (fun _ _ => rfl)) ?_ rfl (by decide) rfl
    walk_at "e0.4.Exists"
    refine ⟨_, _, _, MkIter.tup, CompOK.map (toV := .int) (items := u) (fun _ ρ => ∃ a b, ρ = [⟨".0", none, a⟩, ⟨"y", none, b⟩, ⟨"known", some (L + 1), some (.lst (K.map .int))⟩]) (fun y => .int (atL K y)) (fun L' => ⟨_, _, rfl⟩) (small_ok (by omega)) (fun _ _ => trivial) ?_ ?_⟩
    · intro L' Kp' hKp y hy ρ' M' hM hP ⟨b', c, hρ⟩
      subst hρ
      walk_at "a0.1.TW"; walk_at "e0.3.Op2"
      have hb := hvs y (List.mem_append_left _ hy)
      refine Op2.iL y.toNat (atK hb) ?_ (by omega) (by omega)
      exact ⟨rfl, rfl, _, _, rfl⟩
    walk_at "run.0.Op2"
    refine Op2.inL (x := .int 1) rfl (datas_at _ _) (by decide) ?_
    rw [any_at]
    walk_at "run.1."
    refine ifB (fun h => ?_) fun h => ?_
    · refine ⟨_, X, .ret _, rfl, .refl _, ?_⟩
      simp only [holdsT, h, Bool.true_or] at q
      exact q
    walk_at "e.3.Ev"
    refine Ev.comp (gens1 rfl (fun _ _ => rfl)) ?_ rfl (by decide) rfl
    walk_at "e0.4.Exists"
    refine ⟨_, _, _, MkIter.tup, CompOK.map (toV := .int) (items := d) (fun _ ρ => ∃ a b, ρ = [⟨".0", none, a⟩, ⟨"y", none, b⟩, ⟨"known", some (L + 1), some (.lst (K.map .int))⟩]) (fun y => .int (atL K y)) (fun L' => ⟨_, _, rfl⟩) (small_ok (by omega)) (fun _ _ => trivial) ?_ ?_⟩
    · intro L' Kp' hKp y hy ρ' M' hM hP ⟨b', c, hρ⟩
      subst hρ
      walk_at "a0.1.TW"; walk_at "e0.3.Op2"
      have hb := hvs y (List.mem_append_right _ hy)
      refine Op2.iL y.toNat (atK hb) ?_ (by omega) (by omega)
      exact ⟨rfl, rfl, _, _, rfl⟩
    walk_at "run.0.Op2"
    refine Op2.inL (x := .int 0) rfl (datas_at _ _) (by decide) ?_
    rw [any_at]
    refine ⟨_, X, .ret _, rfl, .refl _, ?_⟩
    simp only [holdsT, h, Bool.false_or] at q
    exact q
  | reif b r =>
    simp only [Told.vars, List.length_cons] at hlen
    simp only [Told.vars] at hvs
    dsimp only [Told.v, reifV, Row.v]
    walk_at "b0.7.Exs"
    refine Exs.cons ?_
    refine Ex.ite ?_
    walk_at "t0.3.Op2"
    refine Op2.eqD (by decide +kernel) (by decide +kernel) (by decide) ?_
    rw [show (V.str (Str.ofString "reif")).eqb (.str (Str.ofString "reif")) = true by decide +kernel]
    walk_at "run.1.TW"; walk_at "b0.14.Ev"
    refine Ev.comp (gens1 rfl (fun _ _ => rfl)) ?_ rfl (by decide) rfl
    walk_at "e0.3.OpL"
    refine OpL.zip (k1 := false) (k2 := false) (la := r.co.map .int) (lb := r.xs.map .int) fun za => ?_
    refine ⟨(r.co.zip r.xs).map fun p => V.tup [.int p.1, .int p.2], _, _, (by rw [← pairsZ_int]; exact MkIter.zip (k1 := false) (k2 := false) rfl), CompOK.map (items := r.co.zip r.xs) (fun _ ρ => ∃ a b c, ρ = [⟨".0", none, a⟩, ⟨"a", none, b⟩, ⟨"y", none, c⟩, ⟨"known", some (L + 1), some (.lst (K.map .int))⟩]) (fun p => .int (p.1 * atL K p.2)) (fun L' => ⟨_, _, _, rfl⟩) (small_ok (by rw [List.length_zip]; omega)) (fun _ _ => trivial) ?_ ?_⟩
    · rintro L' Kp' hKp p hp ρ' M' hM hP ⟨a', b', c', rfl⟩
      walk_at "a0.3.TW"; walk_at "e0.5.Op2"
      have hb := hvs p.2 (.tail _ (List.of_mem_zip hp).2)
      refine Op2.iL p.2.toNat (atK hb) ?_ (by omega) (by omega)
      walk_at "run.0.Op2"
      refine Op2.mul (IntMulOk.of_right (intBits_le_64 (by have := hT.ksm _ (atL_mem hb.1 hb.2); omega) (by have := hT.ksm _ (atL_mem hb.1 hb.2); omega))) ?_
      exact ⟨rfl, rfl, _, _, _, rfl⟩
    walk_at "run.0.OpL"
    rw [show ((r.co.zip r.xs).map fun p => V.int (p.1 * atL K p.2)) = ((r.co.zip r.xs).map fun p => p.1 * atL K p.2).map .int by rw [List.map_map]; rfl]
    refine OpL.sum ?_
    rw [dot_zip]
    walk_at "run.7.Op2"
    refine Op2.eqD (kindS_ok _) (by decide +kernel) (Nat.zero_le _) ?_
    rw [kle]
    walk_at "run.1."
    have hb := hvs b (.head _)
    refine ifB (fun hle => ?_) fun hle => ?_
    · walk_at "e.15.Op2"
      refine Op2.iL b.toNat (atK hb) ?_ (by omega) (by omega)
      walk_at "run.3.Op2"
      refine Op2.eqD rfl rfl (Nat.zero_le _) ?_
      rw [eqb_bool, beq_dec]
      refine ⟨_, X, .ret _, rfl, .refl _, ?_⟩
      simp only [holdsT, evR, hle, if_true] at q
      exact q
    · walk_at "e.8.Op2"
      refine Op2.eqD (kindS_ok _) (by decide +kernel) (Nat.zero_le _) ?_
      rw [keq]
      walk_at "run.0.Op2"
      refine Op2.eqD rfl rfl (Nat.zero_le _) ?_
      rw [eqb_bool, beq_dec]
      walk_at "run.11.Op2"
      refine Op2.iL b.toNat (atK hb) ?_ (by omega) (by omega)
      walk_at "run.3.Op2"
      refine Op2.eqD rfl rfl (Nat.zero_le _) ?_
      rw [eqb_bool, beq_dec]
      refine ⟨_, X, .ret _, rfl, .refl _, ?_⟩
      simp only [holdsT, evR, hle, Bool.false_eq_true, if_false] at q
      have e : ∀ b : Bool, (b == !false) = b := by decide
      rw [hle, e]
      exact q
structure Speaks (t : Told) (b : Int) : Prop where
  mem : b ∈ t.vars
  le : ∀ y ∈ t.vars, y ≤ b
  nn : 0 ≤ b
theorem speaks_spec {t : Told} {b : Int} (hG : HG C) (hlv : C.lv = n+1) (hS : Speaks t b) (hl : t.vars.length ≤ 20) (q : Q (.int b) X) : OpL C X (fun vs => call (.ref 470) vs) [t.v] RV Q := by
  refine OpL.fnP (n := n) ((congrArg (fun K => List.lookup 470 K) hG).trans rfl) (by rw [hG]; rfl) hlv (len1 fun _ => rfl) rfl rfl rfl (by decide) rfl rfl rfl ?h
  intro L A Kp hK C'
  have hm := hS.mem
  have hle := hS.le
  have hnn := hS.nn
  cases t with
  | reif b' r =>
    simp only [Told.vars, List.length_cons] at hl hm hle
    dsimp only [Told.v, reifV, Row.v]
    walk_at "b0.7.Exs"
    refine Exs.cons ?_
    refine Ex.ite ?_
    walk_at "t0.3.Op2"
    refine Op2.eqD (by decide +kernel) (by decide +kernel) (by decide) ?_
    rw [show (V.str (Str.ofString "reif")).eqb (.str (Str.ofString "reif")) = true by decide +kernel]
    walk_at "run.1.TW"; walk_at "b0.17.Op2"
    refine Op2.addT (k := r.xs.map .int) (small_ok (by simp; omega)) ?_
    walk_at "run.0.OpL"
    refine OpL.maxT (ns := b' :: r.xs) (by simp) fun M hM hle' => ?_
    have : M = b := by have := hle M hM; have := hle' b hm; omega
    subst this
    exact ⟨_, X, .ret _, rfl, .refl _, q⟩
  | clause u d =>
    simp only [Told.vars, List.length_append] at hl hm hle
    dsimp only [Told.v, clauseV]
    walk_at "b0.7.Exs"
    refine Exs.cons ?_
    refine Ex.ite ?_
    walk_at "t0.3.Op2"
    refine Op2.eqD (by decide +kernel) (by decide +kernel) (by decide) ?_
    rw [show (V.str (Str.ofString "clause")).eqb (.str (Str.ofString "reif")) = false by decide +kernel]
    walk_at "run.1.TW"; walk_at "b0.1.TW"
    refine Exs.cons ?_
    refine Ex.ite ?_
    walk_at "t0.3.Op2"
    refine Op2.eqD (by decide +kernel) (by decide +kernel) (by decide) ?_
    rw [show (V.str (Str.ofString "clause")).eqb (.str (Str.ofString "clause")) = true by decide +kernel]
    walk_at "run.1.TW"; walk_at "b0.8.Op1"
    refine Op1.neg ?_
    walk_at "run.5.Op2"
    refine Op2.addT (k := u.map .int) (small_ok (by simp; omega)) ?_
    walk_at "run.4.Op2"
    refine Op2.addT (k := d.map .int) (small_ok (by simp; omega)) ?_
    walk_at "run.0.OpL"
    rw [show ([V.int (-1)] ++ u.map .int) ++ d.map .int = ((-1 :: u) ++ d).map .int by simp]
    refine OpL.maxT (ns := (-1 :: u) ++ d) (by simp) fun M hM hle' => ?_
    have : M = b := by
      have h1 := hle' b (by rcases List.mem_append.mp hm with h | h; exact List.mem_append_left _ (.tail _ h); exact List.mem_append_right _ h)
      rcases List.mem_append.mp hM with h | h
      · rcases List.mem_cons.mp h with h | h
        · omega
        · have := hle M (List.mem_append_left _ h); omega
      · have := hle M (List.mem_append_right _ h); omega
    subst this
    exact ⟨_, X, .ret _, rfl, .refl _, q⟩
  | and xs b' =>
    simp only [Told.vars, List.length_append, List.length_cons, List.length_nil] at hl hm hle
    dsimp only [Told.v, andV]
    walk_at "b0.7.Exs"
    refine Exs.cons ?_
    refine Ex.ite ?_
    walk_at "t0.3.Op2"
    refine Op2.eqD (by decide +kernel) (by decide +kernel) (by decide) ?_
    rw [show (V.str (Str.ofString "and")).eqb (.str (Str.ofString "reif")) = false by decide +kernel]
    walk_at "run.1.TW"; walk_at "b0.1.TW"
    refine Exs.cons ?_
    refine Ex.ite ?_
    walk_at "t0.3.Op2"
    refine Op2.eqD (by decide +kernel) (by decide +kernel) (by decide) ?_
    rw [show (V.str (Str.ofString "and")).eqb (.str (Str.ofString "clause")) = false by decide +kernel]
    walk_at "run.1.TW"; walk_at "b0.1.TW"; walk_at "b.9.Op2"
    refine Op2.inT (by decide +kernel) (by decide +kernel) (by decide) ?_
    rw [show ([V.str (Str.ofString "and"), V.str (Str.ofString "or")].any fun z => z.eqb (.str (Str.ofString "and"))) = true by decide +kernel]
    walk_at "run.14.Op2"
    refine Op2.addT (l := xs.map .int) (small_ok (by simp; omega)) ?_
    walk_at "run.0.OpL"
    rw [show xs.map V.int ++ [V.int b'] = (xs ++ [b']).map .int by simp]
    refine OpL.maxT (ns := xs ++ [b']) (by simp) fun M hM hle' => ?_
    have : M = b := by have := hle M hM; have := hle' b hm; omega
    subst this
    exact ⟨_, X, .ret _, rfl, .refl _, q⟩
  | or xs b' =>
    simp only [Told.vars, List.length_append, List.length_cons, List.length_nil] at hl hm hle
    dsimp only [Told.v, orV]
    walk_at "b0.7.Exs"
    refine Exs.cons ?_
    refine Ex.ite ?_
    walk_at "t0.3.Op2"
    refine Op2.eqD (by decide +kernel) (by decide +kernel) (by decide) ?_
    rw [show (V.str (Str.ofString "or")).eqb (.str (Str.ofString "reif")) = false by decide +kernel]
    walk_at "run.1.TW"; walk_at "b0.1.TW"
    refine Exs.cons ?_
    refine Ex.ite ?_
    walk_at "t0.3.Op2"
    refine Op2.eqD (by decide +kernel) (by decide +kernel) (by decide) ?_
    rw [show (V.str (Str.ofString "or")).eqb (.str (Str.ofString "clause")) = false by decide +kernel]
    walk_at "run.1.TW"; walk_at "b0.1.TW"; walk_at "b.9.Op2"
    refine Op2.inT (by decide +kernel) (by decide +kernel) (by decide) ?_
    rw [show ([V.str (Str.ofString "and"), V.str (Str.ofString "or")].any fun z => z.eqb (.str (Str.ofString "or"))) = true by decide +kernel]
    walk_at "run.14.Op2"
    refine Op2.addT (l := xs.map .int) (small_ok (by simp; omega)) ?_
    walk_at "run.0.OpL"
    rw [show xs.map V.int ++ [V.int b'] = (xs ++ [b']).map .int by simp]
    refine OpL.maxT (ns := xs ++ [b']) (by simp) fun M hM hle' => ?_
    have : M = b := by have := hle M hM; have := hle' b hm; omega
    subst this
    exact ⟨_, X, .ret _, rfl, .refl _, q⟩
end
end
section
variable {D : Int → List (Int × Int)}
noncomputable def BoolV (D : Int → List (Int × Int)) (x : Int) : Prop := 3 ≤ x ∨ D x = [(0, 1)]
noncomputable def KD (D : Int → List (Int × Int)) : Key → Prop
  | .reif _ => True
  | .or xs => ∀ x ∈ xs, BoolV D x
  | .all bs => ∀ b ∈ bs, BoolV D b.1
noncomputable def TvD (D : Int → List (Int × Int)) (t : Tv) : Prop := ∀ x s, t = .bit x s → BoolV D x
structure BD (D : Int → List (Int × Int)) (r : Tv × List Key) : Prop where
  t : TvD D r.1
  k : ∀ k ∈ r.2, KD D k
theorem TvD.not {t : Tv} (h : TvD D t) : TvD D t.not := fun x s e => by
  cases t with
  | tt b => cases e
  | bit y u => cases e; exact h _ _ rfl
theorem TvD.tt {b : Bool} : TvD D (.tt b) := fun x s e => by cases e
theorem BD.not {r : Tv × List Key} (h : BD D r) : BD D (r.1.not, r.2) := ⟨h.t.not, h.k⟩
theorem mem_addK {ks : List Key} {k k' : Key} (h : k' ∈ addK ks k) : k' ∈ ks ∨ k' = k := by
  unfold addK at h
  split at h
  · exact .inl h
  · rcases List.mem_append.mp h with h | h
    · exact .inl h
    · exact .inr (List.mem_singleton.mp h)
theorem BD.add {ks : List Key} {k : Key} {s : Bool} (h : ∀ k ∈ ks, KD D k) (hk : KD D k) : BD D (.bit (idxK ks k) s, addK ks k) := by
  refine ⟨fun x u e => ?_, fun k' h' => ?_⟩
  · cases e
    refine .inl ?_
    unfold idxK; omega
  · rcases mem_addK h' with h' | rfl
    · exact h _ h'
    · exact hk
theorem tellK_bd {ks : List Key} {r : Row} (h : ∀ k ∈ ks, KD D k) : BD D (tellK D ks r) := by
  unfold tellK
  split
  · rename_i hi
    refine ⟨fun x s e => ?_, h⟩
    cases e
    unfold isDirect at hi
    simp only [Bool.and_eq_true, beq_iff_eq] at hi
    obtain ⟨_, hi⟩ := hi
    cases hx : r.xs with
    | nil => rw [hx] at hi; simp at hi
    | cons a l => rw [hx] at hi; exact .inr (by simpa using hi)
  · exact BD.add h trivial
theorem truthK_bd {le : Bool} {e : Lin} {ks : List Key} (h : ∀ k ∈ ks, KD D k) : BD D (truthK D le e ks) := by
  unfold truthK
  cases rowZ D le e with
  | inl b => exact ⟨TvD.tt, h⟩
  | inr r =>
    dsimp only
    split
    · split
      · exact (tellK_bd h).not
      · exact tellK_bd h
    · exact tellK_bd h
theorem pairK_bd {p q : Int × Bool} {ks : List Key} (h : ∀ k ∈ ks, KD D k) (hp : BoolV D p.1) (hq : BoolV D q.1) : BD D (pairK p q ks) := by
  unfold pairK
  split
  · exact BD.add h (fun x hx => by simp only [List.mem_cons, List.not_mem_nil, or_false] at hx; rcases hx with rfl | rfl; exact hp; exact hq)
  · exact BD.add h (fun x hx => by simp only [List.mem_cons, List.not_mem_nil, or_false] at hx; rcases hx with rfl | rfl; exact hp; exact hq)
theorem allL_bd {ts : List Tv} {ks : List Key} (h : ∀ k ∈ ks, KD D k) (ht : ∀ t ∈ ts, TvD D t) : BD D (allL ts ks) := by
  unfold allL
  cases hk : allK ts with
  | none => exact ⟨TvD.tt, h⟩
  | some l =>
    obtain ⟨_, hm⟩ := foldK_inv hk .nil
    have hb : ∀ p ∈ l, BoolV D p.1 := fun p hp => by
      rcases hm p hp with h' | h'
      · cases h'
      · exact ht _ h' _ _ rfl
    match l, hb with
    | [], _ => exact ⟨TvD.tt, h⟩
    | [p], hb => exact ⟨fun x s e => by cases e; exact hb p (.head _), h⟩
    | p :: q :: r, hb =>
      dsimp only
      split
      · exact pairK_bd h (hb p (.head _)) (hb q (.tail _ (.head _)))
      · exact pairK_bd h (hb q (.tail _ (.head _))) (hb p (.head _))
theorem anyL_bd {ts : List Tv} {ks : List Key} (h : ∀ k ∈ ks, KD D k) (ht : ∀ t ∈ ts, TvD D t) : BD D (anyL ts ks) :=
  (allL_bd h fun t hm => by obtain ⟨u, hu, rfl⟩ := List.mem_map.mp hm; exact (ht u hu).not).not
theorem stepL_bd {f : Tv × List Key} {p : Lin × Lin} (h : BD D f) : BD D (stepL D f p) := by
  have a : BD D (truthK D true (ltL p) f.2) := truthK_bd h.k
  have b : BD D (truthK D false (eqL p) (truthK D true (ltL p) f.2).2) := truthK_bd a.k
  have c : BD D (allL [(truthK D false (eqL p) (truthK D true (ltL p) f.2).2).1, f.1] (truthK D false (eqL p) (truthK D true (ltL p) f.2).2).2) := allL_bd b.k fun t ht => by
    simp only [List.mem_cons, List.not_mem_nil, or_false] at ht
    rcases ht with rfl | rfl
    · exact b.t
    · exact h.t
  refine anyL_bd c.k fun t ht => ?_
  simp only [List.mem_cons, List.not_mem_nil, or_false] at ht
  rcases ht with rfl | rfl
  · exact a.t
  · exact c.t
theorem lessL_bd {xs ys : List Lin} {st : Bool} {ks : List Key} (h : ∀ k ∈ ks, KD D k) : BD D (lessL D xs ys st ks) := by
  unfold lessL
  have key : ∀ (l : List (Lin × Lin)) (f : Tv × List Key), BD D f → BD D (l.foldl (stepL D) f) := by
    intro l
    induction l with
    | nil => intro f hf; exact hf
    | cons p l ih => intro f hf; exact ih _ (stepL_bd hf)
  exact key _ _ ⟨TvD.tt, h⟩
noncomputable def B01 (v : Int) : Prop := v = 0 ∨ v = 1
theorem ups_mem {so : List (Int × Bool)} {x : Int} : x ∈ (clauseT so).vars ↔ x ∈ so.map (·.1) := by
  simp only [clauseT, Told.vars, ups, downs, List.mem_append, List.mem_filterMap, List.mem_map]
  constructor
  · rintro (⟨p, hp, e⟩ | ⟨p, hp, e⟩)
    · split at e
      · cases e; exact ⟨p, hp, rfl⟩
      · cases e
    · split at e
      · cases e
      · cases e; exact ⟨p, hp, rfl⟩
  · rintro ⟨p, hp, rfl⟩
    cases hs : p.2 with
    | true => exact .inl ⟨p, hp, by rw [hs]; rfl⟩
    | false => exact .inr ⟨p, hp, by rw [hs]; rfl⟩
theorem clause_len (so : List (Int × Bool)) : (clauseT so).vars.length ≤ 2 * so.length := by
  simp only [clauseT, Told.vars, ups, downs, List.length_append]
  have h1 := List.length_filterMap_le (fun p : Int × Bool => if p.2 = true then some p.1 else none) so
  have h2 := List.length_filterMap_le (fun p : Int × Bool => if p.2 = true then none else some p.1) so
  omega
theorem clause_right {f : Int → Int} : ∀ {so : List (Int × Bool)}, (∀ p ∈ so, B01 (f p.1)) → holdsT f (clauseT so) = so.any (evB f)
  | [], _ => rfl
  | (x, s) :: so, h => by
    have ih := clause_right (f := f) (so := so) fun p hp => h p (.tail _ hp)
    have hx := h (x, s) (.head _)
    simp only [clauseT, holdsT, ups, downs] at ih ⊢
    cases s with
    | true =>
      simp only [List.filterMap_cons, if_true, List.any_cons, evB]
      rw [← ih]
      cases decide (f x = 1) <;> simp
    | false =>
      simp only [List.filterMap_cons, Bool.false_eq_true, if_false, List.any_cons, evB]
      rw [← ih]
      rcases hx with hx | hx <;> simp only at hx <;> simp [hx]
theorem tells_right {f : Int → Int} {k : Key} {b : Int} (hs : shapeK k) (hb : B01 (f b)) (hv : match k with | .all bs => ∀ p ∈ bs, B01 (f p.1) | _ => True) : (tellsT b k).all (holdsT f) = (decide (f b = 1) == evK f k) := by
  cases k with
  | reif r => exact Bool.and_true _
  | or xs => exact (Bool.and_true _).trans (Bool.beq_comm ..)
  | all bs =>
    obtain ⟨p, q, rfl, hne⟩ := hs
    have hp := hv p (.head _)
    have hq := hv q (.tail _ (.head _))
    show (if (p.2 && q.2) = true then [Told.and [p.1, q.1] b] else [clauseT [p, (b, false)], clauseT [q, (b, false)], clauseT [(p.1, !p.2), (q.1, !q.2), (b, true)]]).all (holdsT f) = (decide (f b = 1) == (evB f p && (evB f q && true)))
    rw [Bool.and_true]
    split
    · rename_i h
      simp only [Bool.and_eq_true] at h
      simp only [List.all_cons, List.all_nil, Bool.and_true, holdsT, evB, h.1, h.2, List.any_cons, List.any_nil, Bool.or_false]
      rcases hp with hp | hp <;> rcases hq with hq | hq <;> simp [hp, hq] <;> rcases hb with hb | hb <;> simp [hb]
    · have c1 : holdsT f (clauseT [p, (b, false)]) = _ := clause_right (f := f) fun z hz => by simp only [List.mem_cons, List.not_mem_nil, or_false] at hz; rcases hz with rfl | rfl; exact hp; exact hb
      have c2 : holdsT f (clauseT [q, (b, false)]) = _ := clause_right (f := f) fun z hz => by simp only [List.mem_cons, List.not_mem_nil, or_false] at hz; rcases hz with rfl | rfl; exact hq; exact hb
      have c3 : holdsT f (clauseT [(p.1, !p.2), (q.1, !q.2), (b, true)]) = _ := clause_right (f := f) fun z hz => by simp only [List.mem_cons, List.not_mem_nil, or_false] at hz; rcases hz with rfl | rfl | rfl; exact hp; exact hq; exact hb
      simp only [List.all_cons, List.all_nil, Bool.and_true, c1, c2, c3, List.any_cons, List.any_nil, Bool.or_false, evB_not]
      have e1 : evB f (p.1, p.2) = evB f p := rfl
      have e2 : evB f (q.1, q.2) = evB f q := rfl
      rw [e1, e2]
      generalize evB f p = bp
      generalize evB f q = bq
      have hb1 : evB f (b, false) = !decide (f b = 1) := by unfold evB; cases decide (f b = 1) <;> rfl
      have hb2 : evB f (b, true) = decide (f b = 1) := by unfold evB; cases decide (f b = 1) <;> rfl
      rw [hb1, hb2]
      cases bp <;> cases bq <;> cases decide (f b = 1) <;> rfl
noncomputable def tellsI : Nat → List Key → List (Int × Told)
  | _, [] => []
  | i, k :: ks => (tellsT (i : Int) k).map (fun t => ((i : Int), t)) ++ tellsI (i + 1) ks
theorem tellsI_c (i : Nat) (k : Key) (ks : List Key) : tellsI i (k :: ks) = (tellsT (i : Int) k).map (fun t => ((i : Int), t)) ++ tellsI (i + 1) ks := rfl
theorem tellsL_I : ∀ (i : Nat) (ks : List Key), tellsL i ks = (tellsI i ks).map fun p => p.2.v
  | _, [] => rfl
  | i, k :: ks => by rw [tellsL_c, tellsI_c, List.map_append, List.map_map, tells_T, tellsL_I (i + 1) ks]; rfl
theorem tellsI_ge : ∀ (i : Nat) (ks : List Key), ∀ p ∈ tellsI i ks, (i : Int) ≤ p.1
  | _, [], p, h => by cases h
  | i, k :: ks, p, h => by
    rcases List.mem_append.mp h with h | h
    · obtain ⟨t, _, rfl⟩ := List.mem_map.mp h; exact Int.le_refl _
    · have := tellsI_ge (i + 1) ks p h; omega
theorem filter_none {l : List (Int × Told)} {j : Int} (h : ∀ p ∈ l, p.1 ≠ j) : l.filter (fun p => decide (p.1 = j)) = [] := by
  rw [List.filter_eq_nil_iff]
  intro p hp
  simpa using h p hp
theorem filter_own (j : Int) (ts : List Told) : ((ts.map fun t => (j, t)).filter fun p => decide (p.1 = j)).map (·.2) = ts := by
  induction ts with
  | nil => rfl
  | cons t ts ih => simp only [List.map_cons, List.filter_cons, decide_true, if_true]; rw [ih]
theorem tellsI_at : ∀ (i : Nat) (ks : List Key) (j : Nat) (k : Key), ks[j]? = some k → ((tellsI i ks).filter fun p => decide (p.1 = ((i + j : Nat) : Int))).map (·.2) = tellsT ((i + j : Nat) : Int) k
  | i, [], j, k, h => by simp at h
  | i, k' :: ks, 0, k, h => by
    simp at h; subst h
    rw [tellsI_c, List.filter_append, List.map_append, Nat.add_zero]
    rw [filter_none (l := tellsI (i + 1) ks) fun p hp => by have := tellsI_ge (i + 1) ks p hp; omega, filter_own]
    simp
  | i, k' :: ks, j + 1, k, h => by
    simp at h
    rw [tellsI_c, List.filter_append, List.map_append]
    rw [filter_none (l := (tellsT (i : Int) k').map fun t => ((i : Int), t)) fun p hp => by obtain ⟨t, _, rfl⟩ := List.mem_map.mp hp; simp only; omega]
    rw [show i + (j + 1) = i + 1 + j by omega]
    simpa using tellsI_at (i + 1) ks j k h
theorem tellsI_mem : ∀ (i : Nat) (ks : List Key) (p : Int × Told), p ∈ tellsI i ks → ∃ j k, ks[j]? = some k ∧ p.1 = ((i + j : Nat) : Int) ∧ p.2 ∈ tellsT p.1 k
  | _, [], p, h => by cases h
  | i, k :: ks, p, h => by
    rcases List.mem_append.mp h with h | h
    · obtain ⟨t, ht, rfl⟩ := List.mem_map.mp h; exact ⟨0, k, rfl, rfl, ht⟩
    · obtain ⟨j, k', h1, h2, h3⟩ := tellsI_mem (i + 1) ks p h
      exact ⟨j + 1, k', by simpa using h1, by rw [h2]; omega, h3⟩
theorem tells_speaks {n : Nat} {k : Key} (h : KW n k) {t : Told} (ht : t ∈ tellsT (n : Int) k) : Speaks t (n : Int) ∧ t.vars.length ≤ 20 ∧ (∀ y ∈ t.vars, 0 ≤ y) := by
  cases k with
  | reif r =>
    have e : t = .reif n r := List.mem_singleton.mp ht
    subst e
    have hl := h.len
    simp only [vsK] at hl
    exact ⟨⟨.head _, fun y hy => by rcases List.mem_cons.mp hy with rfl | hy; exact Int.le_refl _; exact Int.le_of_lt (h.vs y hy).2, by omega⟩, by simp only [Told.vars, List.length_cons]; omega, fun y hy => by rcases List.mem_cons.mp hy with rfl | hy; omega; exact (h.vs y hy).1⟩
  | or xs =>
    have e : t = .or xs n := List.mem_singleton.mp ht
    subst e
    have hl := h.len
    simp only [vsK] at hl
    refine ⟨⟨List.mem_append_right _ (.head _), fun y hy => ?_, by omega⟩, by simp only [Told.vars, List.length_append, List.length_cons, List.length_nil]; omega, fun y hy => ?_⟩
    · rcases List.mem_append.mp hy with hy | hy
      · exact Int.le_of_lt (h.vs y hy).2
      · rw [List.mem_singleton.mp hy]; exact Int.le_refl _
    · rcases List.mem_append.mp hy with hy | hy
      · exact (h.vs y hy).1
      · rw [List.mem_singleton.mp hy]; omega
  | all bs =>
    obtain ⟨p, q, rfl, _⟩ := h.sh
    have hp := h.vs p.1 (by simp [vsK])
    have hq := h.vs q.1 (by simp [vsK])
    have cl : ∀ so : List (Int × Bool), so.length ≤ 3 → (∀ z ∈ so, z.1 = p.1 ∨ z.1 = q.1 ∨ z.1 = (n : Int)) → (∃ z ∈ so, z.1 = (n : Int)) → Speaks (clauseT so) (n : Int) ∧ (clauseT so).vars.length ≤ 20 ∧ ∀ y ∈ (clauseT so).vars, 0 ≤ y := by
      intro so hl hz hn
      have hy : ∀ y ∈ (clauseT so).vars, y = p.1 ∨ y = q.1 ∨ y = (n : Int) := fun y hy => by
        obtain ⟨z, hz', rfl⟩ := List.mem_map.mp (ups_mem.mp hy); exact hz z hz'
      refine ⟨⟨ups_mem.mpr (by obtain ⟨z, h1, h2⟩ := hn; exact List.mem_map.mpr ⟨z, h1, h2⟩), fun y h' => ?_, by omega⟩, by have := clause_len so; omega, fun y h' => ?_⟩
      · rcases hy y h' with rfl | rfl | rfl <;> omega
      · rcases hy y h' with rfl | rfl | rfl <;> omega
    replace ht : t ∈ (if (p.2 && q.2) = true then [Told.and [p.1, q.1] n] else [clauseT [p, ((n : Int), false)], clauseT [q, ((n : Int), false)], clauseT [(p.1, !p.2), (q.1, !q.2), ((n : Int), true)]]) := ht
    split at ht
    · have e : t = .and [p.1, q.1] n := List.mem_singleton.mp ht
      subst e
      refine ⟨⟨List.mem_append_right _ (.head _), fun y hy => ?_, by omega⟩, (by show 3 ≤ 20; decide), fun y hy => ?_⟩
      · simp only [Told.vars, List.mem_append, List.mem_cons, List.not_mem_nil, or_false] at hy
        rcases hy with (rfl | rfl) | rfl <;> omega
      · simp only [Told.vars, List.mem_append, List.mem_cons, List.not_mem_nil, or_false] at hy
        rcases hy with (rfl | rfl) | rfl <;> omega
    · simp only [List.mem_cons, List.not_mem_nil, or_false] at ht
      rcases ht with rfl | rfl | rfl
      · exact cl _ (by simp) (fun z hz => by simp only [List.mem_cons, List.not_mem_nil, or_false] at hz; rcases hz with rfl | rfl <;> simp) ⟨_, .tail _ (.head _), rfl⟩
      · exact cl _ (by simp) (fun z hz => by simp only [List.mem_cons, List.not_mem_nil, or_false] at hz; rcases hz with rfl | rfl <;> simp) ⟨_, .tail _ (.head _), rfl⟩
      · exact cl _ (by simp) (fun z hz => by simp only [List.mem_cons, List.not_mem_nil, or_false] at hz; rcases hz with rfl | rfl | rfl <;> simp) ⟨_, .tail _ (.tail _ (.head _)), rfl⟩
theorem tells_ne {n : Nat} {k : Key} (h : KW n k) : tellsT (n : Int) k ≠ [] := by
  cases k with
  | reif r => exact List.cons_ne_nil _ _
  | or xs => exact List.cons_ne_nil _ _
  | all bs => obtain ⟨p, q, rfl, _⟩ := h.sh; show (if (p.2 && q.2) = true then [Told.and [p.1, q.1] n] else _ :: _) ≠ []; split <;> exact List.cons_ne_nil _ _
theorem turn_right {one : List Int} (h3 : one.length = 3) {ks : List Key} (W : WFk ks) (hk : ∀ k ∈ ks, KD D k) (hD : ∀ x, 0 ≤ x → x < 3 → InD D (atL one) x) {j : Nat} {k : Key} (hj : ks[j]? = some k) (v : Int) (hv : B01 v) :
    (tellsT ((3 + j : Nat) : Int) k).all (holdsT (atL (vls one (ks.take j) ++ [v]))) = (decide (v = 1) == evK (atL (vls one (ks.take j))) k) := by
  have hlt := (List.getElem?_eq_some_iff.mp hj).1
  have hl : (vls one (ks.take j)).length = 3 + j := by rw [vls_len, h3, List.length_take]; omega
  have hw := W j k hj
  have hat : atL (vls one (ks.take j) ++ [v]) ((3 + j : Nat) : Int) = v := by
    unfold atL
    rw [List.getD_eq_getElem?_getD, Int.toNat_natCast, ← hl, List.getElem?_append_right (Nat.le_refl _)]; simp
  have agree : ∀ x : Int, 0 ≤ x → x < ((3 + j : Nat) : Int) → atL (vls one (ks.take j) ++ [v]) x = atL (vls one (ks.take j)) x := fun x h0 hx => atL_pre (List.prefix_append _ _) (by rw [hl]; exact hx) h0
  rw [tells_right hw.sh (by rw [hat]; exact hv) ?_, hat, evK_congr (f := atL (vls one (ks.take j) ++ [v])) (g := atL (vls one (ks.take j))) fun x hx => agree x (hw.vs x hx).1 (hw.vs x hx).2]
  cases k with
  | all bs =>
    intro p hp
    have hx := hw.vs p.1 (by simp only [vsK]; exact List.mem_map_of_mem hp)
    rw [agree p.1 hx.1 hx.2]
    have hb : BoolV D p.1 := hk _ (List.mem_of_getElem? hj) p hp
    by_cases h3' : p.1 < 3
    · have e : atL (vls one (ks.take j)) p.1 = atL one p.1 := atL_pre (vls_pre _ _) (by rw [h3]; exact h3') hx.1
      rw [e]
      rcases hb with hb | hb
      · omega
      · have := hD p.1 hx.1 h3'
        unfold InD loD hiD at this
        rw [hb] at this
        simp at this
        unfold B01; omega
    · obtain ⟨i, hi⟩ : ∃ i : Nat, p.1 = ((3 + i : Nat) : Int) := ⟨(p.1 - 3).toNat, by omega⟩
      have hij : i < j := by omega
      obtain ⟨k', hk'⟩ : ∃ k', (ks.take j)[i]? = some k' := ⟨_, List.getElem?_eq_getElem (by rw [List.length_take]; omega)⟩
      have W' : WFk (ks.take j) := fun i k h => W i k (by rw [List.getElem?_take] at h; split at h; exact h; cases h)
      rw [hi, vls_at h3 W' hk']
      unfold B01 b01
      split <;> simp
  | _ => trivial
theorem vls_snoc (one : List Int) (ks : List Key) (k : Key) : vls one (ks ++ [k]) = vls one ks ++ [b01 (evK (atL (vls one ks)) k)] := by
  rw [vls_append]; rfl
end
section
theorem Exs.nilP {C : Cx} {X Y : AS} {Q : Fl → AS → Prop} (p : X.mem.Perm Y.mem) (e : Y.ρ = X.ρ) (q : Q .next Y) : Exs C X [] Q := fun s S => by
  obtain ⟨ρ, M⟩ := X
  obtain ⟨ρ', M'⟩ := Y
  dsimp only at p e
  subst e
  exact wpAny_execs_nil ⟨.next, _, q, ⟨S.H.perm p, S.gens, S.os⟩, .next, Mono.perm p⟩
noncomputable abbrev BLs := List (Int × Addr × List V)
noncomputable def valsAt (bl : BLs) (k : Int) : List V := ((bl.find? fun e => decide (e.1 = k)).map (·.2.2)).getD []
noncomputable def blD (bl : BLs) : List (Int × V) := bl.map fun e => (e.1, .raw (.ref e.2.1))
noncomputable def blM (bl : BLs) : List (Addr × MO) := bl.map fun e => (e.2.1, .lst e.2.2)
structure BL (bl : BLs) (pre : List (Int × V)) : Prop where
  nd : (bl.map (·.1)).Nodup
  vals : ∀ k, valsAt bl k = (pre.filter fun p => decide (p.1 = k)).map (·.2)
  keys : ∀ e ∈ bl, e.1 ∈ pre.map (·.1)
  len : bl.length ≤ pre.length
theorem look_blD (bl : BLs) (k : Int) : lookK (blD bl) k = (bl.find? fun e => decide (e.1 = k)).map fun e => .raw (.ref e.2.1) := by
  unfold lookK blD
  rw [List.find?_map, Option.map_map]
  rfl
theorem BL.nil : BL [] [] := ⟨List.Pairwise.nil, fun k => rfl, fun e h => (nomatch h), Nat.le_refl _⟩
theorem find_none {bl : BLs} {k : Int} (h : lookK (blD bl) k = none) : k ∉ bl.map (·.1) := by
  rw [look_blD] at h
  intro hm
  obtain ⟨e, he, rfl⟩ := List.mem_map.mp hm
  have := List.find?_eq_none.mp (Option.map_eq_none_iff.mp h) e he
  simp at this
theorem stI_new {bl : BLs} {k : Int} {v : V} (h : lookK (blD bl) k = none) : stI (blD bl) k v = blD bl ++ [(k, v)] := by
  have hn := find_none h
  unfold stI
  rw [if_neg]
  simp only [blD, List.any_map, List.any_eq_true, not_exists, not_and]
  intro e he q
  exact hn (List.mem_map.mpr ⟨e, he, by simpa using q⟩)
theorem valsAt_cons (e : Int × Addr × List V) (bl : BLs) (k : Int) : valsAt (e :: bl) k = if e.1 = k then e.2.2 else valsAt bl k := by
  unfold valsAt
  rw [List.find?_cons]
  by_cases h : e.1 = k <;> simp [h]
theorem valsAt_none {bl : BLs} {k : Int} (h : k ∉ bl.map (·.1)) : valsAt bl k = [] := by
  induction bl with
  | nil => rfl
  | cons e bl ih =>
    simp only [List.map_cons, List.mem_cons, not_or] at h
    rw [valsAt_cons, if_neg (fun q => h.1 q.symm), ih h.2]
theorem valsAt_append (b1 b2 : BLs) (k : Int) : valsAt (b1 ++ b2) k = if k ∈ b1.map (·.1) then valsAt b1 k else valsAt b2 k := by
  induction b1 with
  | nil => simp
  | cons e b1 ih =>
    rw [List.cons_append, valsAt_cons, valsAt_cons, ih]
    by_cases h : e.1 = k
    · simp [h]
    · have h' : ¬ k = e.1 := fun q => h q.symm
      simp only [h, if_false, List.map_cons, List.mem_cons, h', false_or]
theorem filter_snoc (pre : List (Int × V)) (k : Int) (t : V) (k' : Int) : (((pre ++ [(k, t)]).filter fun p => decide (p.1 = k')).map (·.2)) = ((pre.filter fun p => decide (p.1 = k')).map (·.2)) ++ if k = k' then [t] else [] := by
  rw [List.filter_append, List.map_append]
  congr 1
  by_cases h : k = k' <;> simp [h]
theorem BL.new {bl : BLs} {pre : List (Int × V)} (B : BL bl pre) {k : Int} (a : Addr) (t : V) (h : lookK (blD bl) k = none) : BL (bl ++ [(k, a, [t])]) (pre ++ [(k, t)]) := by
  have hn := find_none h
  refine ⟨?_, fun k' => ?_, fun e he => ?_, by have := B.len; simp; omega⟩
  · rw [List.map_append, List.nodup_append]
    exact ⟨B.nd, by simp, fun x hx y hy e => by simp at hy; subst hy; exact hn (e ▸ hx)⟩
  · rw [filter_snoc, ← B.vals, valsAt_append]
    by_cases hk : k' ∈ bl.map (·.1)
    · have : ¬ k = k' := fun e => hn (e ▸ hk)
      rw [if_pos hk, if_neg this]; simp
    · rw [if_neg hk, valsAt_none hk, valsAt_cons]
      by_cases e : k = k' <;> simp [e, valsAt]
  · rw [List.map_append]
    rcases List.mem_append.mp he with he | he
    · exact List.mem_append_left _ (B.keys e he)
    · have : e = (k, a, [t]) := List.mem_singleton.mp he
      rw [this]; simp
theorem there_split {bl : BLs} {k : Int} {z : V} (h : lookK (blD bl) k = some z) : ∃ b1 a vs b2, bl = b1 ++ (k, a, vs) :: b2 ∧ z = .raw (.ref a) := by
  rw [look_blD] at h
  obtain ⟨e, he, rfl⟩ := Option.map_eq_some_iff.mp h
  obtain ⟨b1, b2, rfl⟩ := List.append_of_mem (List.mem_of_find?_eq_some he)
  have hk : e.1 = k := by simpa using List.find?_some he
  obtain ⟨k', a, vs⟩ := e
  dsimp only at hk
  subst hk
  exact ⟨b1, a, vs, b2, rfl, rfl⟩
theorem BL.there {b1 b2 : BLs} {k : Int} {a : Addr} {vs : List V} {pre : List (Int × V)} (B : BL (b1 ++ (k, a, vs) :: b2) pre) (t : V) : BL (b1 ++ (k, a, vs ++ [t]) :: b2) (pre ++ [(k, t)]) := by
  have nd := B.nd
  simp only [List.map_append, List.map_cons, List.nodup_append, List.nodup_cons] at nd
  have hk1 : k ∉ b1.map (·.1) := fun hm => nd.2.2 k hm k (.head _) rfl
  refine ⟨by simpa using B.nd, fun k' => ?_, fun e he => ?_, by have := B.len; simp at this ⊢; omega⟩
  · rw [filter_snoc, ← B.vals, valsAt_append, valsAt_append]
    by_cases h1 : k' ∈ b1.map (·.1)
    · have : ¬ k = k' := fun e => hk1 (e ▸ h1)
      rw [if_pos h1, if_pos h1, if_neg this]; simp
    · rw [if_neg h1, if_neg h1, valsAt_cons, valsAt_cons]
      by_cases e : k = k' <;> simp [e]
  · rw [List.map_append]
    rcases List.mem_append.mp he with he | he
    · exact List.mem_append_left _ (B.keys e (List.mem_append_left _ he))
    · rcases List.mem_cons.mp he with rfl | he
      · exact List.mem_append_right _ (by simp)
      · exact List.mem_append_left _ (B.keys e (List.mem_append_right _ (.tail _ he)))
theorem BL.len_at {b1 b2 : BLs} {k : Int} {a : Addr} {vs : List V} {pre : List (Int × V)} (B : BL (b1 ++ (k, a, vs) :: b2) pre) : vs.length ≤ pre.length := by
  have nd := B.nd
  simp only [List.map_append, List.map_cons, List.nodup_append, List.nodup_cons] at nd
  have hk1 : k ∉ b1.map (·.1) := fun hm => nd.2.2 k hm k (.head _) rfl
  have := B.vals k
  rw [valsAt_append, if_neg hk1, valsAt_cons, if_pos rfl] at this
  rw [show vs = _ from this, List.length_map]
  exact List.length_filter_le _ _
theorem perm_ins {α : Type} (a : α) (F B R : List α) : (a :: (F ++ (B ++ R))).Perm (F ++ ((B ++ [a]) ++ R)) := by
  have := perm_mid a (F ++ B) R
  simpa using this
theorem varsL_at : ∀ (i : Nat) (ks : List Key) (j : Nat), j < ks.length → (varsL i ks)[j]? = some (.tup [nameV (i + j), TR])
  | i, [], j, h => by simp at h
  | i, _ :: ks, 0, _ => rfl
  | i, _ :: ks, j + 1, h => by
    rw [varsL_c, List.getElem?_cons_succ, varsL_at (i + 1) ks j (by simpa using h), show i + (j + 1) = i + 1 + j by omega]
theorem st_var {V0 : List V} (h0 : V0.length = 3) {ks : List Key} {j : Nat} (h : j < ks.length) : (stG V0 ks).vars[3 + j]? = some (.tup [nameV (3 + j), TR]) := by
  show (V0 ++ varsL 3 ks)[3 + j]? = _
  rw [List.getElem?_append_right (by omega), h0, Nat.add_sub_cancel_left]
  exact varsL_at 3 ks j h
theorem find_key {bl : BLs} {k : Int} (h : valsAt bl k ≠ []) : ∃ a, lookK (blD bl) k = some (.raw (.ref a)) ∧ (a, MO.lst (valsAt bl k)) ∈ blM bl := by
  cases hf : bl.find? fun e => decide (e.1 = k) with
  | none => unfold valsAt at h; rw [hf] at h; exact absurd rfl h
  | some e =>
    refine ⟨e.2.1, by rw [look_blD, hf]; rfl, List.mem_map.mpr ⟨e, List.mem_of_find?_eq_some hf, ?_⟩⟩
    unfold valsAt; rw [hf]; rfl
theorem Op2.addML' {C : Cx} {X : AS} {Q : V → AS → Prop} {l k : List V} {a : Addr} (hm : (a, .lst l) ∈ X.mem) (hz : l.length + k.length ≤ sizeLine) (q : Q (.lst (l ++ k)) X) : Op2 C X (binaryOp .Add) (.raw (.ref a)) (.lst k) RV Q := let ⟨i, hi⟩ := mem_idx hm; Op2.addML i hi hz q
section
variable {C : Cx} {ρ : List Sl} {n : Nat} {Q : V → AS → Prop} {σ : Sg} {P T : List (Addr × MO)} {D : Int → List (Int × Int)} {V0 : List V} {ks : List Key} {one : List Int}
theorem Ev.dict0I {X : AS} {pos : Pos} {Q : V → AS → Prop} (q : ∀ a, Q (.raw (.ref a)) { X with mem := (a, .dI []) :: X.mem }) : Ev C X (.Dict [] [] pos) Q := fun s S =>
  wpAny_Dict_empty (fin S (Y := { X with mem := (s.heap.objs.size, .dI []) :: X.mem }) (S.H.alloc (mo := .dI []) ⟨[], Heap.DictOf.new _, .nil⟩) (Mono.alloc _ _) (.raw _) (q _))
noncomputable def frK (L x kd bd : Addr) (one : List Int) (tv xv sv : Option V) : List Sl := [⟨"flat_now", none, some (.raw (.ref x))⟩, ⟨"one", none, some (.tup (one.map .int))⟩, ⟨"known", some (L + 1), some (.raw (.ref kd))⟩, ⟨"by_last", some (L + 1 + 1), some (.raw (.ref bd))⟩, ⟨"told", none, tv⟩, ⟨"x", some (L + 1 + 1 + 1), xv⟩, ⟨"some", none, sv⟩]
noncomputable def kM (kd bd : Addr) (bl : BLs) (l : List Int) (M : List (Addr × MO)) : List (Addr × MO) := blM bl ++ (bd, .dI (blD bl)) :: (kd, .lst (l.map .int)) :: M
noncomputable def preT (ks : List Key) (j : Nat) : List (Int × V) := ((tellsI 3 ks).take j).map fun p => (p.1, p.2.v)
noncomputable def rK (r : Addr) (ks : List Key) : Addr × MO := (r, .obj (rngP 3 ((3 + ks.length : Nat) : Int)))
inductive K1 (L x kd bd : Addr) (one : List Int) (ks : List Key) (M : List (Addr × MO)) (j : Nat) (Z : AS) : Prop where
  | mk (bl : BLs) (tv : Option V) : BL bl (preT ks j) → Z = ⟨frK L x kd bd one tv none none, kM kd bd bl one M⟩ → K1 L x kd bd one ks M j Z
inductive K2 (L x kd bd : Addr) (one : List Int) (ks : List Key) (bl : BLs) (M : List (Addr × MO)) (j : Nat) (Z : AS) : Prop where
  | mk (r : Addr) (tv xv sv : Option V) : Z = ⟨frK L x kd bd one tv xv sv, rK r ks :: kM kd bd bl (vls one (ks.take j)) M⟩ → K2 L x kd bd one ks bl M j Z
noncomputable def frV (L L' kd bd : Addr) (x : Int) (a b : Option V) : List Sl := [⟨".0", none, a⟩, ⟨"v", some (L' + 1), b⟩, ⟨"by_last", some (L + 1 + 1), some (.raw (.ref bd))⟩, ⟨"known", some (L + 1), some (.raw (.ref kd))⟩, ⟨"x", some (L + 1 + 1 + 1), some (.int x)⟩]
inductive K3 (L L' kd bd : Addr) (x : Int) (ρ : List Sl) : Prop where
  | mk (a b : Option V) : ρ = frV L L' kd bd x a b → K3 L L' kd bd x ρ
noncomputable def frW (L L' kd : Addr) (v : Int) (a b : Option V) : List Sl := [⟨".0", none, a⟩, ⟨"told", none, b⟩, ⟨"known", some (L + 1), some (.raw (.ref kd))⟩, ⟨"v", some (L' + 1), some (.int v)⟩]
inductive K4 (L L' kd : Addr) (v : Int) (ρ : List Sl) : Prop where
  | mk (a b : Option V) : ρ = frW L L' kd v a b → K4 L L' kd v ρ
theorem preT_len (ks : List Key) (j : Nat) : (preT ks j).length ≤ (tellsI 3 ks).length := by rw [preT, List.length_map]; exact List.length_take_le' ..
theorem preT_add {ks : List Key} {j : Nat} {p : Int × Told} (h : (tellsI 3 ks)[j]? = some p) : preT ks (j + 1) = preT ks j ++ [(p.1, p.2.v)] := by rw [preT, List.take_add_one, h, List.map_append]; rfl
theorem kM_new {kd bd a : Addr} {bl : BLs} {one : List Int} {F M : List (Addr × MO)} {k : Int} {t : V} : ((((a, MO.lst []) :: (F ++ kM kd bd bl one M)).set (F.length + bl.length + 1) (bd, MO.dI (blD bl ++ [(k, V.raw (.ref a))]))).set 0 (a, MO.lst ([] ++ [t]))).Perm (F ++ kM kd bd (bl ++ [(k, a, [t])]) one M) := by
  have e : (((a, MO.lst []) :: (F ++ kM kd bd bl one M)).set (F.length + bl.length + 1) (bd, MO.dI (blD bl ++ [(k, V.raw (.ref a))]))).set 0 (a, MO.lst ([] ++ [t])) = (a, MO.lst [t]) :: (F ++ (blM bl ++ (bd, MO.dI (blD bl ++ [(k, V.raw (.ref a))])) :: (kd, MO.lst (one.map .int)) :: M)) := by simp [kM, blM]
  refine List.Perm.trans (List.Perm.of_eq e) ?_
  have := perm_ins (a, MO.lst [t]) F (blM bl) ((bd, MO.dI (blD bl ++ [(k, V.raw (.ref a))])) :: (kd, MO.lst (one.map .int)) :: M)
  simpa [kM, blM, blD] using this
theorem kM_there {kd bd a : Addr} {b1 b2 : BLs} {vs : List V} {one : List Int} {F M : List (Addr × MO)} {k : Int} {t : V} : (F ++ kM kd bd (b1 ++ (k, a, vs) :: b2) one M).set (F.length + b1.length) (a, MO.lst (vs ++ [t])) = F ++ kM kd bd (b1 ++ (k, a, vs ++ [t]) :: b2) one M := by simp [kM, blM, blD]
theorem kM_d {kd bd : Addr} {bl : BLs} {one : List Int} {F M : List (Addr × MO)} : (F ++ kM kd bd bl one M)[F.length + bl.length]? = some (bd, .dI (blD bl)) := by simp [kM, blM]
theorem kM_a {kd bd a : Addr} {b1 b2 : BLs} {vs : List V} {one : List Int} {F M : List (Addr × MO)} {k : Int} : (F ++ kM kd bd (b1 ++ (k, a, vs) :: b2) one M)[F.length + b1.length]? = some (a, .lst vs) := by simp [kM, blM]
theorem kM_g {kd bd : Addr} {bl : BLs} {one : List Int} {F P M : List (Addr × MO)} {a : Addr × MO} : F ++ a :: kM kd bd bl one (P ++ M) = (F ++ a :: kM kd bd bl one P) ++ M := by simp [kM]
theorem kM_k {kd bd : Addr} {bl : BLs} {one : List Int} {F P M : List (Addr × MO)} {a : Addr × MO} : (F ++ a :: kM kd bd bl one P) ++ M = (F ++ a :: (blM bl ++ [(bd, MO.dI (blD bl))])) ++ (kd, MO.lst (one.map .int)) :: (P ++ M) := by simp [kM]
theorem kM_o {kd bd : Addr} {bl : BLs} {one : List Int} {F M : List (Addr × MO)} {a : Addr × MO} {v : Int} : (F ++ a :: (blM bl ++ [(bd, MO.dI (blD bl))])) ++ (kd, MO.lst ((one.map .int) ++ [.int v])) :: M = F ++ a :: kM kd bd bl (one ++ [v]) M := by simp [kM]
theorem kM_in {kd bd : Addr} {bl : BLs} {one : List Int} {M : List (Addr × MO)} {x : Addr × MO} (h : x ∈ blM bl) : x ∈ kM kd bd bl one M := List.mem_append_left _ h
theorem kM_bd {kd bd : Addr} {bl : BLs} {one : List Int} {M : List (Addr × MO)} : (bd, MO.dI (blD bl)) ∈ kM kd bd bl one M := List.mem_append_right _ (.head _)
theorem kM_kd {kd bd : Addr} {bl : BLs} {one : List Int} {M : List (Addr × MO)} : (kd, MO.lst (one.map .int)) ∈ kM kd bd bl one M := List.mem_append_right _ (.tail _ (.head _))
theorem vls_small {ks : List Key} {a : List Int} (h : ∀ v ∈ a, v.natAbs ≤ 100) : ∀ v ∈ vls a ks, v.natAbs ≤ 100 := by
  induction ks generalizing a with
  | nil => exact h
  | cons k ks ih =>
    refine ih fun v hv => ?_
    rcases List.mem_append.mp hv with hv | hv
    · exact h v hv
    · rw [List.mem_singleton.mp hv]; unfold b01; split <;> decide
theorem known_spec (hG : HG C) (hlv : C.lv = n+3) (hS : Self C.Kp σ) (h0 : V0.length = 3) (h3 : one.length = 3) (ho : ∀ v ∈ one, v.natAbs ≤ 100) (hWF : WFk ks) (hk : ∀ k ∈ ks, KD D k) (hD : ∀ x, 0 ≤ x → x < 3 → InD D (atL one) x) (hz : ks.length ≤ 200)
    (q : Q (.lst ((vls one ks).map .int)) ⟨ρ, P ++ gmem σ (stG V0 ks) T⟩) : OpL C ⟨ρ, P ++ gmem σ (stG V0 ks) T⟩ (fun vs => call (.ref 475) vs) [.raw (.ref σ.fl), .tup (one.map .int)] RV Q := by
  refine OpL.freeze ?_
  refine OpL.fnP (n := n+2) ((congrArg (fun K => List.lookup 475 K) hG).trans rfl) (by rw [hG]; rfl) hlv (len2 fun _ _ => rfl) rfl rfl rfl (by decide) rfl rfl rfl ?h
  intro L A Kp hK C'
  refine TW.endE fun E hE => ?_
  have hS' := hS.weaken hK
  walk_at "b0.4.OpL"
  refine OpL.list (l := one.map .int) (.inr rfl) (by rw [List.length_map]; exact small_ok (by omega)) fun kd => ?_
  walk_at "run.1.And"; refine ⟨by first | exact memA | exact memB | exact memC | exact memD, ?_⟩; walk_at "run.2.Ev"
  refine Ev.dict0I fun bd => ?_
  walk_at "run.1.And"; refine ⟨by first | exact memA | exact memB | exact memC | exact memD, ?_⟩; walk_at "run.0.Exs"
  refine Exs.seq (K1 L σ.fl kd bd one ks (P ++ gmem σ (stG V0 ks) T) (tellsI 3 ks).length) ?_ ?_
  · refine Ex.for (l := (stG V0 ks).tolds) (ok := fun M => (σ.td, .lst (stG V0 ks).tolds) ∈ M) (K1 L σ.fl kd bd one ks (P ++ gmem σ (stG V0 ks) T)) ?_ ?_ ?_ ?_
    · walk_at "e0.2.Exists"; refine ⟨_, at_tolds (by assumption) (by assumption), ?_⟩; walk_at "run.0.Exists"
      exact ⟨_, MkIter.mlst (by simp [gmem]), [], none, BL.nil, rfl⟩
    · rintro j Z ⟨bl, tv, B, rfl⟩
      simp [gmem, kM]
    · rintro j x Z F hj ⟨bl, tv, B, rfl⟩
      have htl : (stG V0 ks).tolds = (tellsI 3 ks).map fun p => p.2.v := tellsL_I 3 ks
      rw [htl, List.getElem?_map] at hj
      obtain ⟨p, hp, rfl⟩ := Option.map_eq_some_iff.mp hj
      obtain ⟨j', k', hk', hp1, hp2⟩ := tellsI_mem 3 ks p (List.mem_of_getElem? hp)
      rw [hp1] at hp2
      have hsp := tells_speaks (hWF j' k' hk') hp2
      rw [← hp1] at hsp
      have htn : (preT ks j).length ≤ 600 := by
        have h2 := st_tolds V0 ks
        rw [htl, List.length_map] at h2
        have := preT_len ks j
        omega
      have hbl := Nat.le_trans B.len htn
      have hsz : 700 ≤ sizeLine := by rw [sizeLine_eq]; decide
      refine As.endE fun E1 h1 => ?_
      walk_at "a0.1.TW"; walk_at "b0.5.Exists"
      refine ⟨_, IsMeth.setdef (kvs := blD bl) (F.length + bl.length) kM_d, ?_⟩
      walk_at "m.2.OpL"
      refine speaks_spec (by exact hG) (by rfl) hsp.1 hsp.2.1 ?_
      walk_at "run.0.Ev"
      cases hl : lookK (blD bl) p.1 with
      | none =>
        refine Ev.mlst (EvL.nil ⟨small_ok (by decide), fun a => ?_⟩)
        walk_at "run.0.OpL"
        refine OpL.setdefNew (kvs := blD bl) (F.length + bl.length + 1) kM_d hl (by rw [blD, List.length_map]; omega) ?_
        rw [stI_new hl]
        refine ⟨_, IsMeth.append (l := []) 0 (by simp), ?_⟩
        walk_at "m.1.OpL"
        refine OpL.append (l := []) 0 (by simp) (small_ok (by decide)) ?_
        refine ⟨.none, ?_⟩
        refine Exs.nilP (Y := ⟨frK L σ.fl kd bd one (some p.2.v) none none, F ++ kM kd bd (bl ++ [(p.1, a, [p.2.v])]) one (P ++ gmem σ (stG V0 ks) T)⟩) kM_new rfl ?_
        exact h1 .next _ (turnOK ⟨_, _, preT_add hp ▸ B.new a p.2.v hl, rfl⟩)
      | some z =>
        obtain ⟨b1, a, vs, b2, rfl, rfl⟩ := there_split hl
        refine Ev.lst ?_
        walk_at "l.1.OpL"
        refine OpL.setdefThere (kvs := blD (b1 ++ (p.1, a, vs) :: b2)) (F.length + (b1 ++ (p.1, a, vs) :: b2).length) kM_d hl (by rw [blD, List.length_map]; omega) ?_
        refine ⟨_, IsMeth.append (l := vs) (F.length + b1.length) kM_a, ?_⟩
        walk_at "m.1.OpL"
        refine OpL.append (l := vs) (F.length + b1.length) kM_a (by have := B.len_at; omega) ?_
        walk_at "run.2."
        exact h1 .next _ (backE kM_there ⟨_, _, preT_add hp ▸ B.there p.2.v, rfl⟩)
    · rintro Z h
      rwa [show (stG V0 ks).tolds = (tellsI 3 ks).map fun p => p.2.v from tellsL_I 3 ks, List.length_map] at h
  · rintro _ ⟨bl, tv, B, rfl⟩
    have hbl : bl.length ≤ 600 := by
      have h1 := B.len
      have h2 := st_tolds V0 ks
      rw [show (stG V0 ks).tolds = _ from tellsL_I 3 ks, List.length_map] at h2
      have := preT_len ks (tellsI 3 ks).length
      omega
    have hsz : 1000 ≤ sizeLine := by rw [sizeLine_eq]; decide
    refine Exs.mem (M' := kM kd bd bl one P ++ gmem σ (stG V0 ks) T) (by simp [kM]) ?_
    refine Exs.cons ?_
    refine Ex.for (l := (List.range ks.length).map fun i : Nat => .int (3 + (i : Int))) (ok := fun _ => True) (K2 L σ.fl kd bd one ks bl (P ++ gmem σ (stG V0 ks) T)) ?_ (fun _ _ _ => trivial) ?_ ?_
    · walk_at "e0.4.Exists"
      refine ⟨_, m_size (by exact hG) (by exact hS'), ?_⟩
      walk_at "m.0.OpL"
      refine size_spec (by exact hG) (by rfl) (by exact hS') (by rw [st_vars h0]; omega) ?_
      rw [st_vars h0]
      walk_at "run.0.OpL"
      refine OpL.range2 fun r => ?_
      refine ⟨_, MkIter.rng (a := 3) (n := ks.length) rfl (by have := rngP_is (a := 3) (b := ((3 + ks.length : Nat) : Int)) (by decide) (by decide) (by omega) (by omega); rwa [show (((3 + ks.length : Nat) : Int) - 3).toNat = ks.length by omega] at this), r, tv, none, none, ?_⟩
      simp [vls_n, kM, rK]
    · rintro j x Z F hj ⟨r, tv, xv, sv, rfl⟩
      rw [List.getElem?_map] at hj
      obtain ⟨j', hj', rfl⟩ := Option.map_eq_some_iff.mp hj
      obtain ⟨hjl, hje⟩ := List.getElem?_eq_some_iff.mp hj'
      rw [List.getElem_range] at hje
      subst hje
      rw [List.length_range] at hjl
      have hjk : ks[j]? = some ks[j] := List.getElem?_eq_getElem hjl
      generalize ks[j] = k at hjk
      have hw := hWF j k hjk
      have hKl : (vls one (ks.take j)).length = 3 + j := by rw [vls_len, h3, List.length_take]; omega
      have hKs : ∀ v ∈ vls one (ks.take j), v.natAbs ≤ 100 := vls_small ho
      have hval : valsAt bl ((3 + j : Nat) : Int) = (tellsT ((3 + j : Nat) : Int) k).map Told.v := by
        rw [B.vals, ← tellsI_at 3 ks j k hjk, preT, List.take_length, List.filter_map, List.map_map, List.map_map]
        rfl
      obtain ⟨a, hla, hma⟩ := find_key (bl := bl) (k := ((3 + j : Nat) : Int)) (by rw [hval]; simpa using tells_ne hw)
      rw [hval] at hma
      rw [show (3 : Int) + (j : Int) = ((3 + j : Nat) : Int) by omega]
      refine As.endE fun E2 h2 => ?_
      walk_at "a0.1.And"; refine ⟨by first | exact memA | exact memB | exact memC | exact memD, ?_⟩; walk_at "run.0.TW"; walk_at "b0.1.Ex"
      refine Ex.asgComp (gens1 rfl (fun _ _ => rfl)) 6 ?_ rfl rfl (by decide) rfl
      walk_at "e0.4.Exists"
      have htr := turn_right h3 hWF hk hD hjk
      have htk : vls one (ks.take (j + 1)) = vls one (ks.take j) ++ [b01 (evK (atL (vls one (ks.take j))) k)] := by rw [List.take_add_one, hjk]; exact vls_snoc _ _ _
      generalize hes : evK (atL (vls one (ks.take j))) k = eb at htr htk
      generalize hgu : vls one (ks.take j) = us at *
      refine ⟨_, _, _, MkIter.tup, CompOK.fm (toV := .int) (items := [0, 1]) (fun L' => K3 L L' kd bd ((3 + j : Nat) : Int)) (fun v : Int => if (decide (v = 1) == eb) = true then some (V.int v) else none) (fun L' => ⟨_, _, rfl⟩) (small_ok (Nat.le_of_ble_eq_true rfl)) (fun _ _ => trivial) ?_ ?_⟩
      · rintro L' Kp' hKp v hv ρ' M' hM _ ⟨a', b', rfl⟩
        replace hM : ∀ x, x ∈ kM kd bd bl us (P ++ gmem σ (stG V0 ks) T) → x ∈ M' := fun x h => hM.subset (List.mem_append_right _ (.tail _ h))
        have hv01 : B01 v := by simpa [B01] using hv
        have hturn := htr v hv01
        walk_at "a0.1.And"; refine ⟨by first | exact memA | exact memB | exact memC | exact memD, ?_⟩; walk_at "run.0.TW"
        refine Ifs.one ?_
        refine TW.endE fun E3 h3' => ?_
        walk_at "t0.2.Ev"
        refine Ev.comp (gens1 rfl (fun _ _ => rfl)) ?_ rfl (by decide) rfl
        walk_at "e0.2.Exists"
        refine ⟨_, IsMeth.getI' (kvs := blD bl) (hM _ kM_bd), ?_⟩
        walk_at "m.1.Ev"
        refine Ev.lst ?_
        walk_at "l.1.OpL"
        refine OpL.getI' (kvs := blD bl) (hM _ kM_bd) ?_
        rw [hla, Option.getD_some]
        refine ⟨_, _, _, MkIter.mlst (a := a) (hM _ (kM_in hma)), CompOK.map (toV := Told.v) (items := tellsT ((3 + j : Nat) : Int) k) (fun L'' => K4 L L' kd v) (fun t => .bool (holdsT (atL (us ++ [v])) t)) (fun L'' => ?_) ?_ ?_ ?_ ?_⟩
        · exact ⟨_, _, rfl⟩
        · have := tellsK_len ((3 + j : Nat) : Int) k
          rw [tells_T, List.length_map] at this
          exact small_ok (by omega)
        · exact fun _ _ => .tail _ (hM _ (kM_in hma))
        · rintro L'' Kp'' hKp' t ht ρ'' M'' hM' _ ⟨a'', b'', rfl⟩
          have hsp := tells_speaks hw ht
          refine As.endV fun E4 h4 => ?_
          walk_at "a0.1.TW"; walk_at "e0.4.Ev"
          refine Ev.lst ?_
          walk_at "l.2.Op2"
          refine Op2.addML' (l := us.map .int) (hM'.subset (hM _ kM_kd)) (by rw [List.length_map, hKl]; show 3 + j + 1 ≤ _; omega) ?_
          walk_at "run.0.OpL"
          rw [show us.map V.int ++ [V.int v] = (us ++ [v]).map V.int from (List.map_append (l₂ := [v])).symm]
          have hul : (us ++ [v]).length = 3 + j + 1 := by rw [List.length_append, hKl]; rfl
          refine holds_spec (by exact hG) (by rfl) ⟨fun y hy => ⟨hsp.2.2 y hy, ?_⟩, hsp.2.1, ?_, fun z hz => ?_⟩ ?_
          · have := hsp.1.le y hy
            omega
          · omega
          · rcases List.mem_append.mp hz with hz | hz
            · exact hKs z hz
            · rw [List.mem_singleton.mp hz]; rcases hv01 with h | h <;> rw [h] <;> decide
          · exact h4 _ _ ⟨rfl, rfl, _, _, rfl⟩
        · walk_at "run.0.OpL"
          rw [show ((tellsT ((3 + j : Nat) : Int) k).map fun t => V.bool (holdsT (atL (us ++ [v])) t)) = ((tellsT ((3 + j : Nat) : Int) k).map (holdsT (atL (us ++ [v])))).map .bool from List.map_map.symm]
          refine OpL.all ?_
          rw [List.all_map]
          rw [show (tellsT ((3 + j : Nat) : Int) k).all (id ∘ holdsT (atL (us ++ [v]))) = _ from hturn]
          walk_at "run.1."
          refine h3' _ _ (ifB (fun h => ?_) fun h => ?_)
          · walk_at "e0.1.And"
            exact ⟨by rw [if_pos h], rfl, _, _, rfl⟩
          · exact ⟨by rw [if_neg (by rw [h]; decide)], rfl, _, _, rfl⟩
      · refine ⟨⟨_, rfl⟩, ?_⟩
        rw [show (([0, 1] : List Int).filterMap fun v => if (decide (v = 1) == eb) = true then some (V.int v) else none) = [.int (b01 eb)] by cases eb <;> rfl]
        generalize b01 eb = bv at htk
        refine (?_ : Exs _ ⟨frK L σ.fl kd bd one tv (some (.int ((3 + j : Nat) : Int))) (some (.lst [.int bv])), _⟩ _ _)
        refine Exs.mem kM_g ?_
        refine Exs.cons ?_
        refine Ex.ite ?_
        walk_at "t0.4.OpL"
        refine OpL.lenL (by show 1 < 2 ^ 63; decide) ?_
        walk_at "run.8.Exists"
        refine ⟨_, m_domain_of (by exact hG) (by exact hS'), ?_⟩
        walk_at "m.1.OpL"
        refine domain_of_spec (nm := nameV (3 + j)) (dom := TR) (by exact hG) (by rfl) (by exact hS') (by omega) (by omega) (by rw [Int.toNat_natCast]; exact st_var h0 hjl) ?_
        walk_at "run.6.Op2"
        refine Op2.neD (by decide +kernel) (by decide +kernel) (by decide) ?_
        rw [show (!TR.eqb (.tup [.tup [.int 0, .int 1]])) = false by decide +kernel]
        walk_at "run.3.TW"; walk_at "b0.1.TW"; refine Exs.mem kM_k ?_; walk_at "b.4.Exists"
        refine ⟨_, IsMeth.append _ (mid_get _ _ _), ?_⟩
        walk_at "m.3.Op2"
        refine Op2.iL 0 rfl ?_
        walk_at "run.0.OpL"
        refine OpL.append _ (mid_get _ _ _) (by rw [List.length_map, hKl]; omega) ?_
        walk_at "run.2."
        refine h2 .next _ (show Back _ _ _ from ?_)
        rw [mid_set]
        exact backE kM_o ⟨_, _, _, _, by rw [htk]⟩
    · rintro _ ⟨r, tv, xv, sv, rfl⟩
      rw [List.length_map, List.length_range, List.take_length]
      refine TW.pin (F := rK r ks :: blM bl) (kvs := blD bl) (d := bd) (M := (kd, .lst ((vls one ks).map .int)) :: (P ++ gmem σ (stG V0 ks) T)) rfl fun p xs ep hp hks => ?_
      walk_at "b.4.Ev"
      refine Ev.comp (gens1 rfl (fun _ _ => rfl)) ?_ rfl (by decide) rfl
      walk_at "e0.1.Exists"
      refine ⟨_, _, _, MkIter.keys hp (rK r ks :: blM bl).length (mid_get _ _ _), CompOK.fm (items := xs) (fun L' ρ => ∃ a b : Option V, ρ = [⟨".0", none, a⟩, ⟨"x", none, b⟩]) (fun x => none) (fun L' => ⟨_, _, rfl⟩) ?_ (fun _ _ => .tail _ (List.mem_append_right _ (.head _))) ?_ ?_⟩
      · have := congrArg List.length hks
        simp only [List.length_map, blD] at this
        omega
      · rintro L' Kp' hKp x hx ρ' M' hM _ ⟨a', b', rfl⟩
        have h3x : 3 ≤ x.1 := by
          have h1 : x.1 ∈ (blD bl).map (·.1) := by rw [← hks]; exact List.mem_map_of_mem hx
          obtain ⟨e, he, h2⟩ := List.mem_map.mp h1
          obtain ⟨e', he', rfl⟩ := List.mem_map.mp he
          obtain ⟨e2, h4, h5⟩ := List.mem_map.mp (B.keys e' he')
          obtain ⟨p2, h6, rfl⟩ := List.mem_map.mp h4
          have := tellsI_ge 3 ks p2 (List.mem_of_mem_take h6)
          dsimp only at h2 h5
          omega
        walk_at "a0.1.TW"
        refine Ifs.one ?_
        walk_at "t0.5."
        refine ifF (by simpa using h3x) ?_
        exact ⟨rfl, rfl, _, _, rfl⟩
      · refine Ev.lst ?_
        walk_at "l.1.Op2"
        rw [show (xs.filterMap fun x => (none : Option V)) = [] by simp]
        refine Op2.eqD rfl rfl (by decide) ?_
        rw [show (V.lst []).eqb (.lst []) = true by decide +kernel]
        walk_at "run.3."
        refine hE _ _ ⟨_, ⟨ρ, (kd, .lst ((vls one ks).map .int)) :: (P ++ gmem σ (stG V0 ks) T)⟩, .ret _, rfl, ?_, kd, _, [], _, rfl, rfl, q⟩
        exact (List.sublist_cons_self _ _).trans (List.sublist_append_right _ _)
end
end
section
theorem eqb_refl {x : V} (h : x.data = true) : x.eqb x = true := SeqAt.eqv_refl _ (V.canLay _ h)
theorem zip_maps {α β : Type} (f : α → β) (xs ys : List α) : (xs.map f).zip (ys.map f) = (xs.zip ys).map fun p => (f p.1, f p.2) := by rw [List.zip_map]; rfl
structure PointOK (D : Int → List (Int × Int)) (one : List Int) : Prop where
  len : one.length = 3
  small : ∀ v ∈ one, v.natAbs ≤ 100
  inD : ∀ x, 0 ≤ x → x < 3 → InD D (atL one) x
section
variable {C : Cx} {ρ : List Sl} {n : Nat} {Q : V → AS → Prop} {σ : Sg} {P T : List (Addr × MO)} {D : Int → List (Int × Int)} {V0 : List V} {ks : List Key}
noncomputable def frQ (L x : Addr) (pts : List (List Int)) (xs ys : List Lin) (st : Bool) (tv : V) (m : Nat) (a b c d e f : Option V) : List Sl := [⟨"functions", none, some (.raw (.ref x))⟩, ⟨"points", none, some (.lst (pts.map fun one => .tup (one.map .int)))⟩, ⟨"left", none, some (.lst (xs.map numV))⟩, ⟨"right", none, some (.lst (ys.map numV))⟩, ⟨"is_strict", none, some (.bool st)⟩, ⟨"truth", none, some tv⟩, ⟨"many", none, some (.int (m : Int))⟩, ⟨"one", some (L + 1), a⟩, ⟨"known", none, b⟩, ⟨"left_now", none, c⟩, ⟨"right_now", none, d⟩, ⟨"due", none, e⟩, ⟨"told", none, f⟩, ⟨"again", none, none⟩]
inductive Q1 (L x : Addr) (pts : List (List Int)) (xs ys : List Lin) (st : Bool) (r : Tv × List Key) (M : List (Addr × MO)) (Z : AS) : Prop where
  | mk (a b c d e f : Option V) : Z = ⟨frQ L x pts xs ys st r.1.v (3 + r.2.length) a b c d e f, M⟩ → Q1 L x pts xs ys st r M Z
noncomputable def KMd (_ : Addr) (ρ : List Sl) : Prop := ∃ a b c : Option V, ρ = [⟨".0", none, a⟩, ⟨"made", none, b⟩, ⟨"meant", none, c⟩]
noncomputable def KPr (L : Addr) (one : List Int) (ρ : List Sl) : Prop := ∃ a b : Option V, ρ = [⟨".0", none, a⟩, ⟨"pair", none, b⟩, ⟨"one", some (L + 1), some (.tup (one.map .int))⟩]
theorem pair_spec {pts : List (List Int)} {xs ys : List Lin} {st : Bool} (hG : HG C) (hlv : C.lv = n+8) (hS : Self C.Kp σ) (h0 : V0.length = 3) (hD : ∀ x, 0 ≤ x → x < 3 → DomAt (stG V0 []) D x) (hx : ∀ e ∈ xs, Num e) (hy : ∀ e ∈ ys, Num e) (hxl : xs.length ≤ 10) (hyl : ys.length ≤ 10)
    (hWF : WFk ks) (hk : ∀ k ∈ ks, KD D k) (hz : ks.length ≤ 100) (hp : ∀ one ∈ pts, PointOK D one) (hpl : pts.length ≤ 100)
    (q : Q (.bool true) ⟨ρ, P ++ gmem σ (stG V0 (lessL D xs ys st ks).2) T⟩) :
    OpL C ⟨ρ, P ++ gmem σ (stG V0 ks) T⟩ (fun vs => call (.ref 480) vs) [.raw (.ref σ.x), .lst (pts.map fun one => .tup (one.map .int)), .lst (xs.map numV), .lst (ys.map numV), .bool st] RV Q := by
  refine OpL.fnP (n := n+7) ((congrArg (fun K => List.lookup 480 K) hG).trans rfl) (by rw [hG]; rfl) hlv (len5 fun _ _ _ _ _ => rfl) rfl rfl rfl (by decide) rfl rfl rfl ?h
  intro L A Kp hK C'
  have hS' := hS.weaken hK
  have hl : ∀ p ∈ xs.zip ys, LinsOK p := fun p hp => linsOK (hx _ (List.of_mem_zip hp).1) (hy _ (List.of_mem_zip hp).2)
  walk_at "b0.4.Exists"
  refine ⟨_, m_is_less (by exact hG) (by exact hS'), ?_⟩
  walk_at "m.0.Ev"
  refine Ev.comp (gens1 rfl (fun _ _ => rfl)) ?_ rfl (by decide) rfl
  walk_at "e0.1.Exists"
  refine ⟨_, _, _, MkIter.lst, CompOK.map (toV := numV) (items := xs) KMd (fun e => e.v) (fun L' => ⟨_, _, _, rfl⟩) (small_ok (by omega)) (fun _ _ => trivial) ?_ ?_⟩
  · rintro L' Kp' hKp e he ρ' M' hM hP ⟨a, b, c, rfl⟩
    unfold numV
    walk_at "a0.3.TW"; walk_at "e0.1.And"; refine ⟨rfl, ?_⟩; refine ⟨rfl, ?_⟩
    first | exact ⟨rfl, rfl, _, _, _, rfl⟩ | exact ⟨_, _, _, rfl⟩
  walk_at "run.0.Ev"
  refine Ev.comp (gens1 rfl (fun _ _ => rfl)) ?_ rfl (by decide) rfl
  walk_at "e0.1.Exists"
  refine ⟨_, _, _, MkIter.lst, CompOK.map (toV := numV) (items := ys) KMd (fun e => e.v) (fun L' => ⟨_, _, _, rfl⟩) (small_ok (by omega)) (fun _ _ => trivial) ?_ ?_⟩
  · rintro L' Kp' hKp e he ρ' M' hM hP ⟨a, b, c, rfl⟩
    unfold numV
    walk_at "a0.3.TW"; walk_at "e0.1.And"; refine ⟨rfl, ?_⟩; refine ⟨rfl, ?_⟩
    first | exact ⟨rfl, rfl, _, _, _, rfl⟩ | exact ⟨_, _, _, rfl⟩
  walk_at "run.1.OpL"
  refine isless_spec h0 hD hl hxl hyl (by omega) (by exact hG) (by rfl) (by exact hS') ?_
  walk_at "run.6.Exists"; refine ⟨_, at_flat (by assumption) (by assumption), ?_⟩; walk_at "run.0.Exists"
  refine ⟨_, m_size (by exact hG) (by exact hS'), ?_⟩
  walk_at "m.0.OpL"
  have hext := foldE (D := D) ((xs.zip ys).reverse) (.tt (start0 xs ys st), ks) (fun p hp => hl p (List.mem_reverse.mp hp)) TvB.tt
  have hlen2 : (lessL D xs ys st ks).2.length ≤ 150 := by
    have h1 : (lessL D xs ys st ks).2.length ≤ ks.length + 4 * (xs.zip ys).reverse.length := hext.2.1
    rw [List.length_reverse, List.length_zip] at h1
    omega
  have hbd := lessL_bd (D := D) (xs := xs) (ys := ys) (st := st) hk
  have hright : ∀ one ∈ pts, Right one ks (lessL D xs ys st ks) (aheadP (start0 xs ys st) ((xs.zip ys).map fun p => (ev (atL one) p.1, ev (atL one) p.2))) := fun one ho => less_right (hp one ho).len (hp one ho).inD hWF hl
  have hW2 : ∀ one ∈ pts, WFk (lessL D xs ys st ks).2 := fun one ho => (hright one ho).wf
  have hstable := less_stable (D := D) (xs := xs) (ys := ys) (st := st) (ks := ks) hl
  have hTvB : TvB (3 + (lessL D xs ys st ks).2.length) (lessL D xs ys st ks).1 := hext.2.2
  generalize hr : lessL D xs ys st ks = r at *
  refine size_spec (by exact hG) (by rfl) (by exact hS') (by rw [st_vars h0]; omega) ?_
  rw [st_vars h0]
  walk_at "run.1.Exs"
  refine Exs.cons ?_
  refine Ex.for (l := pts.map fun one => .tup (one.map .int)) (ok := fun _ => True) (fun _ => Q1 L σ.x pts xs ys st r (P ++ gmem σ (stG V0 r.2) T)) ?_ (fun _ _ _ => trivial) ?_ ?_
  · walk_at "e0.1.Exists"
    exact ⟨_, MkIter.lst, none, none, none, none, none, none, rfl⟩
  · rintro j x Z F hj ⟨a, b, c, d, e, f, rfl⟩
    rw [List.getElem?_map] at hj
    obtain ⟨one, hone, rfl⟩ := Option.map_eq_some_iff.mp hj
    have hom : one ∈ pts := List.mem_of_getElem? hone
    have hpo := hp one hom
    have hRt := hright one hom
    dsimp only
    rw [← List.append_assoc]
    walk_at "a0.1.And"; refine ⟨by first | exact memA | exact memB | exact memC | exact memD, ?_⟩; walk_at "run.0.TW"; walk_at "b0.5.Exists"; refine ⟨_, at_flat (by assumption) (by assumption), ?_⟩; walk_at "run.1.OpL"
    refine known_spec (by exact hG) (by rfl) (by exact hS') h0 hpo.len hpo.small hRt.wf hbd.k hpo.inD (by omega) ?_
    walk_at "run.1.Exs"
    refine Exs.cons ?_
    refine Ex.ite ?_
    walk_at "t0.3.Op2"
    refine Op2.isNoneL ?_
    walk_at "run.1.TW"; walk_at "b0.1.TW"; walk_at "b.3.Ev"
    refine Ev.comp (gens1 rfl (fun _ _ => rfl)) ?_ rfl (by decide) rfl
    walk_at "e0.1.Exists"
    refine ⟨_, _, _, MkIter.lst, CompOK.map (toV := numV) (items := xs) (fun _ => KPr L one) (fun e => .int (ev (atL one) e)) (fun L' => ⟨_, _, rfl⟩) (small_ok (by omega)) (fun _ _ => trivial) ?_ ?_⟩
    · rintro L' Kp' hKp e he ρ' M' hM hP ⟨a', b', rfl⟩
      walk_at "a0.1.TW"; walk_at "e0.6.OpL"
      unfold numV
      skip
      refine worth_spec (by exact hG) (by rfl) (hx _ he) hpo.len hpo.small ?_
      exact ⟨rfl, rfl, _, _, rfl⟩
    walk_at "run.0.Ev"
    refine Ev.comp (gens1 rfl (fun _ _ => rfl)) ?_ rfl (by decide) rfl
    walk_at "e0.1.Exists"
    refine ⟨_, _, _, MkIter.lst, CompOK.map (toV := numV) (items := ys) (fun _ => KPr L one) (fun e => .int (ev (atL one) e)) (fun L' => ⟨_, _, rfl⟩) (small_ok (by omega)) (fun _ _ => trivial) ?_ ?_⟩
    · rintro L' Kp' hKp e he ρ' M' hM hP ⟨a', b', rfl⟩
      walk_at "a0.1.TW"; walk_at "e0.6.OpL"
      unfold numV
      skip
      refine worth_spec (by exact hG) (by rfl) (hy _ he) hpo.len hpo.small ?_
      exact ⟨rfl, rfl, _, _, rfl⟩
    walk_at "run.8.OpL"
    rw [show (xs.map fun e => V.int (ev (atL one) e)) = (xs.map (ev (atL one))).map .int by rw [List.map_map]; rfl, show (ys.map fun e => V.int (ev (atL one) e)) = (ys.map (ev (atL one))).map .int by rw [List.map_map]; rfl]
    refine ahead_spec (by exact hG) (by rfl) (by rw [List.length_map]; omega) (by rw [List.length_map]; omega) ?_
    rw [List.length_map, List.length_map, zip_maps]
    have hval : Tval (atL (vls one (r).2)) (r).1 = aheadP (startI xs.length ys.length st) ((xs.zip ys).map fun p => (ev (atL one) p.1, ev (atL one) p.2)) := hRt.val
    rw [← hval]
    obtain ⟨t, ht⟩ : ∃ t, (r).1 = t := ⟨_, rfl⟩
    have hTvB' := hTvB
    rw [ht] at hTvB' ⊢
    cases t with
    | tt bb =>
      rw [show Tval (atL (vls one (r).2)) (.tt bb) = bb from rfl]
      dsimp only [Tv.v]
      walk_at "run.8.OpL"
      refine OpL.isBool (Plain.bool _) ?_
      rw [show (V.bool bb).isBool = true from rfl]
      walk_at "run.4.Exs"
      refine Exs.cons ?_
      refine Ex.ite ?_
      walk_at "t0.3.Op2"
      refine Op2.isNotB ?_
      rw [bne_self_eq_false]
      walk_at "run.1.TW"; walk_at "b0.1.TW"; walk_at "b.1.Back"
      rw [List.append_assoc]
      exact turnOK ⟨_, _, _, _, _, _, by rw [ht]; rfl⟩
    | bit x s =>
      have hb := hTvB' x s rfl
      have hb' : 0 ≤ x ∧ x < ((vls one (r).2).length : Int) := by rw [vls_len, hpo.len]; exact hb
      rw [show Tval (atL (vls one (r).2)) (.bit x s) = (decide (atL (vls one (r).2) x = 1) == s) from rfl]
      walk_at "run.8.OpL"
      refine OpL.isBool (Tv.plain (.bit x s)) ?_
      rw [show (Tv.bit x s).v.isBool = false from rfl]
      dsimp only [Tv.v]
      walk_at "run.10.Op2"
      refine Op2.iL x.toNat (atK hb') ?_ (by omega) (by omega)
      walk_at "run.6.Op2"
      refine Op2.eqD rfl rfl (Nat.zero_le _) ?_
      rw [eqb_bool, beq_dec]
      walk_at "run.1.Exs"
      refine Exs.cons ?_
      refine Ex.ite ?_
      walk_at "t0.3.Op2"
      refine Op2.isNotB ?_
      rw [bne_self_eq_false]
      walk_at "run.1.TW"; walk_at "b0.1.TW"; walk_at "b.1.Back"
      rw [List.append_assoc]
      exact turnOK ⟨_, _, _, _, _, _, by rw [ht]; rfl⟩
  · rintro _ ⟨a, b, c, d, e, f, rfl⟩
    walk_at "b.4.Exists"
    refine ⟨_, m_is_less (by exact hG) (by exact hS'), ?_⟩
    walk_at "m.0.Ev"
    refine Ev.comp (gens1 rfl (fun _ _ => rfl)) ?_ rfl (by decide) rfl
    walk_at "e0.1.Exists"
    refine ⟨_, _, _, MkIter.lst, CompOK.map (toV := numV) (items := xs) KMd (fun e => e.v) (fun L' => ⟨_, _, _, rfl⟩) (small_ok (by omega)) (fun _ _ => trivial) ?_ ?_⟩
    · rintro L' Kp' hKp e he ρ' M' hM hP ⟨a, b, c, rfl⟩
      unfold numV
      walk_at "a0.3.TW"; walk_at "e0.1.And"; refine ⟨rfl, ?_⟩; refine ⟨rfl, ?_⟩
      first | exact ⟨rfl, rfl, _, _, _, rfl⟩ | exact ⟨_, _, _, rfl⟩
    walk_at "run.0.Ev"
    refine Ev.comp (gens1 rfl (fun _ _ => rfl)) ?_ rfl (by decide) rfl
    walk_at "e0.1.Exists"
    refine ⟨_, _, _, MkIter.lst, CompOK.map (toV := numV) (items := ys) KMd (fun e => e.v) (fun L' => ⟨_, _, _, rfl⟩) (small_ok (by omega)) (fun _ _ => trivial) ?_ ?_⟩
    · rintro L' Kp' hKp e he ρ' M' hM hP ⟨a, b, c, rfl⟩
      unfold numV
      walk_at "a0.3.TW"; walk_at "e0.1.And"; refine ⟨rfl, ?_⟩; refine ⟨rfl, ?_⟩
      first | exact ⟨rfl, rfl, _, _, _, rfl⟩ | exact ⟨_, _, _, rfl⟩
    walk_at "run.1.OpL"
    refine isless_spec (st := st) h0 hD hl hxl hyl (by omega) (by exact hG) (by rfl) (by exact hS') ?_
    rw [hstable]
    walk_at "run.7.Op2"
    refine Op2.eqD (Tv.data _) (Tv.data _) (by have := Tv.dep (r).1; omega) ?_
    rw [eqb_refl (Tv.data _)]
    walk_at "run.7.Exists"; refine ⟨_, at_flat (by assumption) (by assumption), ?_⟩; walk_at "run.0.Exists"
    refine ⟨_, m_size (by exact hG) (by exact hS'), ?_⟩
    walk_at "m.0.OpL"
    refine size_spec (by exact hG) (by rfl) (by exact hS') (by rw [st_vars h0]; omega) ?_
    rw [st_vars h0]
    walk_at "run.2.Out"
    rw [beq_self_eq_true]
    exact ⟨_, ⟨ρ, P ++ gmem σ (stG V0 (r).2) T⟩, .ret _, rfl, .refl _, q⟩
end
end
section
theorem rowL_form (cs : List Int) (k : Nat) : ∃ l : Int, -1 ≤ l ∧ l ≤ 1 ∧ (rowL cs k = [l] ∨ ∃ s : Int, 1 ≤ s ∧ s ≤ 3 ∧ rowL cs k = [l, l + s]) := by
  have h := drawZ_lt cs k (m := 3) (by decide)
  refine ⟨drawZ cs k 3 - 1, by omega, by omega, ?_⟩
  unfold rowL stepsZ
  by_cases h1 : drawZ cs (k + 1) 2 = 1
  · exact .inr ⟨1, by decide, by decide, by simp [h1]⟩
  · by_cases h2 : drawZ cs (k + 2) 2 = 1
    · exact .inr ⟨2, by decide, by decide, by simp [h1, h2]⟩
    · by_cases h3 : drawZ cs (k + 3) 2 = 1
      · exact .inr ⟨3, by decide, by decide, by simp [h1, h2, h3]⟩
      · exact .inl (by simp [h1, h2, h3])
theorem domL_one (a : Int) : domL [a] = [(a, a)] := rfl
theorem domL_two (a b : Int) : domL [a, b] = if a = b - 1 then [(a, b)] else [(a, a), (b, b)] := by
  show domStep [(a, a)] b = _
  have := domStep_snoc [] (a, a) b
  simpa using this
noncomputable def domR (cs : List Int) (x : Int) : List (Int × Int) := domL (rowL cs (4 * x.toNat))
structure DomR (d : List (Int × Int)) (row : List Int) : Prop where
  ne : d ≠ []
  small : ∀ p ∈ d, p.1.natAbs ≤ 10 ^ 6 ∧ p.2.natAbs ≤ 10 ^ 6
  inD : ∀ v ∈ row, (d.head?.map (·.1)).getD 0 ≤ v ∧ v ≤ (d.getLast?.map (·.2)).getD 0
theorem row_dom (cs : List Int) (k : Nat) : DomR (domL (rowL cs k)) (rowL cs k) ∧ rowL cs k ≠ [] ∧ (rowL cs k).length ≤ 2 ∧ ∀ v ∈ rowL cs k, v.natAbs ≤ 100 := by
  obtain ⟨l, h1, h2, h3 | ⟨s, h4, h5, h3⟩⟩ := rowL_form cs k
  · rw [h3, domL_one]
    refine ⟨⟨by simp, fun p hp => ?_, fun v hv => ?_⟩, by simp, by simp, fun v hv => ?_⟩
    · rw [List.mem_singleton.mp hp]; dsimp only; omega
    · rw [List.mem_singleton.mp hv]; exact ⟨Int.le_refl _, Int.le_refl _⟩
    · rw [List.mem_singleton.mp hv]; omega
  · rw [h3, domL_two]
    refine ⟨?_, by simp, by simp, fun v hv => ?_⟩
    · split
      · refine ⟨by simp, fun p hp => ?_, fun v hv => ?_⟩
        · rw [List.mem_singleton.mp hp]; dsimp only; omega
        · simp only [List.mem_cons, List.not_mem_nil, or_false] at hv
          show l ≤ v ∧ v ≤ l + s
          omega
      · refine ⟨by simp, fun p hp => ?_, fun v hv => ?_⟩
        · simp only [List.mem_cons, List.not_mem_nil, or_false] at hp
          rcases hp with rfl | rfl <;> dsimp only <;> omega
        · simp only [List.mem_cons, List.not_mem_nil, or_false] at hv
          show l ≤ v ∧ v ≤ l + s
          omega
    · simp only [List.mem_cons, List.not_mem_nil, or_false] at hv
      omega
noncomputable def pointsL (a b c : List Int) : List (List Int) := a.flatMap fun x => b.flatMap fun y => c.map fun z => [x, y, z]
theorem point_ok {cs : List Int} {one : List Int} (h : one ∈ pointsL (rowL cs 0) (rowL cs 4) (rowL cs 8)) : PointOK (domR cs) one := by
  simp only [pointsL, List.mem_flatMap, List.mem_map] at h
  obtain ⟨x, hx, y, hy, z, hz, rfl⟩ := h
  obtain ⟨d0, _, _, s0⟩ := row_dom cs 0
  obtain ⟨d1, _, _, s1⟩ := row_dom cs 4
  obtain ⟨d2, _, _, s2⟩ := row_dom cs 8
  refine ⟨rfl, fun v hv => ?_, fun i h0 h3 => ?_⟩
  · simp only [List.mem_cons, List.not_mem_nil, or_false] at hv
    rcases hv with rfl | rfl | rfl
    · exact s0 _ hx
    · exact s1 _ hy
    · exact s2 _ hz
  · have hi : i = 0 ∨ i = 1 ∨ i = 2 := by omega
    rcases hi with rfl | rfl | rfl
    · exact d0.inD x hx
    · exact d1.inD y hy
    · exact d2.inD z hz
theorem points_ne (cs : List Int) : ∃ one, one ∈ pointsL (rowL cs 0) (rowL cs 4) (rowL cs 8) := by
  obtain ⟨x, hx⟩ := List.exists_mem_of_ne_nil _ (row_dom cs 0).2.1
  obtain ⟨y, hy⟩ := List.exists_mem_of_ne_nil _ (row_dom cs 4).2.1
  obtain ⟨z, hz⟩ := List.exists_mem_of_ne_nil _ (row_dom cs 8).2.1
  exact ⟨[x, y, z], by simp only [pointsL, List.mem_flatMap, List.mem_map]; exact ⟨x, hx, y, hy, z, hz, rfl⟩⟩
theorem flat_le {α β : Type} {f : α → List β} {k : Nat} : ∀ {l : List α}, (∀ x ∈ l, (f x).length ≤ k) → (l.flatMap f).length ≤ l.length * k
  | [], _ => by simp
  | x :: l, h => by
    have := flat_le (l := l) fun y hy => h y (.tail _ hy)
    have := h x (.head _)
    rw [List.flatMap_cons, List.length_append, List.length_cons, Nat.succ_mul]; omega
theorem points_len (cs : List Int) : (pointsL (rowL cs 0) (rowL cs 4) (rowL cs 8)).length ≤ 100 :=
  Nat.le_trans (flat_le (k := 4) fun x _ => Nat.le_trans (flat_le (k := 2) fun y _ => by rw [List.length_map]; exact (row_dom cs 8).2.2.1) (Nat.mul_le_mul_right 2 (row_dom cs 4).2.2.1)) (Nat.le_trans (Nat.mul_le_mul_right 4 (row_dom cs 0).2.2.1) (by decide))
section
variable {C : Cx} {X : AS} {Q : V → AS → Prop}
theorem OpL.intB {b : Bool} (q : Q (.int (if b then 1 else 0)) X) : OpL C X (fun vs => call (.type "int") vs) [.bool b] RV Q := fun s S vs r => by
  obtain ⟨_, _, ⟨⟩, r1, r2⟩ := r; cases r1; cases r2; exact call_int_bool (fin_tk S (.int ..) q)
theorem TW.self {α β : Type} {R : Heap → List Addr → α → β → Prop} {Q : β → AS → Prop} {t : Sem α} {x dx fl dfl vd td md : Addr} {M : List (Addr × MO)}
    (hX : X.mem.Perm ([(fl, .obj (atInst 128 dfl)), (dfl, .obj (DictIs [("vars", some (.ref vd)), ("tolds", some (.ref td)), ("goal", none), ("shown", none)])), (x, .obj (atInst 416 dx)), (dx, .obj (DictIs [("flat", some (.ref fl)), ("made", some (.ref md)), ("partial", none)]))] ++ M))
    (h : ∀ Kp : Addr → Obj → Prop, (∀ b o, C.Kp b o → Kp b o) → Self Kp ⟨x, fl, vd, td, md⟩ → TW ⟨C.G, C.lv, C.A, C.env, C.cells, Kp⟩ ⟨X.ρ, M⟩ t R Q) : TW C X t R Q := by
  refine TW.keep hX fun Kp hK hP => h Kp hK ?_
  obtain ⟨o1, k1, rfl⟩ := hP (fl, _) (.head _)
  obtain ⟨o2, k2, es2, n2, rfl, e2⟩ := hP (dfl, _) (.tail _ (.head _))
  obtain ⟨o3, k3, rfl⟩ := hP (x, _) (.tail _ (.tail _ (.head _)))
  obtain ⟨o4, k4, es4, n4, rfl, e4⟩ := hP (dx, _) (.tail _ (.tail _ (.tail _ (.head _))))
  obtain ⟨f, f1, f2, f3⟩ := EsIs.get (name := "flat") e4
  obtain ⟨g, g1, g2, g3⟩ := EsIs.get (name := "vars") e2
  refine ⟨⟨f, ⟨dx, es4, n4, k3, k4, f1⟩, f2 _ _ rfl, f2 _ _ rfl, fun n hn => f3 n ?_⟩, ⟨g, ⟨dfl, es2, n2, k1, k2, g1⟩, g2 _ _ rfl, g2 _ _ rfl, fun n hn => g3 n ?_⟩⟩
  · simp only [MN, List.mem_cons, List.not_mem_nil, or_false] at hn
    rcases hn with rfl | rfl | rfl | rfl | rfl | rfl | rfl | rfl | rfl | rfl | rfl | rfl | rfl | rfl | rfl <;> rfl
  · simp only [MN, List.mem_cons, List.not_mem_nil, or_false] at hn
    rcases hn with rfl | rfl | rfl | rfl | rfl | rfl | rfl | rfl | rfl | rfl | rfl | rfl | rfl | rfl | rfl <;> rfl
end
end
section
noncomputable def cellsL (ns : List Int) : List Int := ((ns.take 40).map fun i => (if i < 0 then -i else i).fmod 1000003) ++ (if ns = [] then [5] else [])
theorem cellsL_ok (ns : List Int) : CellsOK (cellsL ns) := by
  unfold cellsL
  refine ⟨?_, ?_, fun c hc => ?_⟩
  · cases ns with
    | nil => simp
    | cons a l => simp
  · rw [List.length_append, List.length_map, List.length_take]
    split <;> simp <;> omega
  · rcases List.mem_append.mp hc with h | h
    · obtain ⟨i, _, rfl⟩ := List.mem_map.mp h
      rw [Int.fmod_eq_emod_of_nonneg _ (by decide)]
      have h1 := Int.emod_nonneg (if i < 0 then -i else i) (b := 1000003) (by decide)
      have h2 := Int.emod_lt_of_pos (if i < 0 then -i else i) (b := 1000003) (by decide)
      omega
    · split at h
      · rw [List.mem_singleton.mp h]; decide
      · cases h
theorem perm7 {α : Type} (a b c d e f g : α) (R : List α) : (a :: b :: c :: d :: e :: f :: g :: R).Perm ([d, e, f, g] ++ (c :: b :: a :: R)) := by
  have h1 : ([a, b, c] ++ [d, e, f, g]).Perm ([d, e, f, g] ++ [a, b, c]) := List.perm_append_comm
  have h2 : ([d, e, f, g] ++ [a, b, c]).Perm ([d, e, f, g] ++ [c, b, a]) := List.Perm.append_left _ (List.reverse_perm [a, b, c]).symm
  exact (h1.trans h2).append_right R
section
variable {C : Cx} {n : Nat}
noncomputable def V0L (cs : List Int) : List V := [.tup [.str ⟨#[120]⟩, pairsV (domR cs 0)], .tup [.str ⟨#[121]⟩, pairsV (domR cs 1)], .tup [.str ⟨#[122]⟩, pairsV (domR cs 2)]]
theorem V0_dom (cs : List Int) : ∀ x, 0 ≤ x → x < 3 → DomAt (stG (V0L cs) []) (domR cs) x := by
  intro x h0 h3
  obtain ⟨d, _, _, _⟩ := row_dom cs (4 * x.toNat)
  refine ⟨h0, by omega, ?_, d.ne, d.small⟩
  have hx : x = 0 ∨ x = 1 ∨ x = 2 := by omega
  rcases hx with rfl | rfl | rfl <;> exact ⟨_, rfl⟩
theorem V0_st (cs : List Int) : (⟨V0L cs, [], []⟩ : G) = stG (V0L cs) [] := congrArg (fun l => (⟨l, [], []⟩ : G)) (List.append_nil _).symm
noncomputable def ptV (x y z : Int) : V := .tup [.int x, .int y, .int z]
theorem take_flat {α β : Type} {l : List α} {j : Nat} {x : α} (h : l[j]? = some x) (f : α → List β) : (l.take (j + 1)).flatMap f = (l.take j).flatMap f ++ f x := by
  rw [List.take_add_one, h, List.flatMap_append]; simp
theorem take_map {α β : Type} {l : List α} {j : Nat} {x : α} (h : l[j]? = some x) (f : α → β) : (l.take (j + 1)).map f = (l.take j).map f ++ [f x] := by
  rw [List.take_add_one, h, List.map_append]; rfl
theorem Exs.nilD {C : Cx} {X Y : AS} {Q : Fl → AS → Prop} (p : Y.mem.Sublist X.mem) (e : Y.ρ = X.ρ) (q : Q .next Y) : Exs C X [] Q := fun s S =>
  wpAny_execs_nil ⟨.next, Y, q, ⟨S.H.drop e p, S.gens, S.os⟩, .next, Mono.drop p⟩
theorem gens3 {g g2 g3 : Comprehension} (h1 : g.is_async = 0) (h2 : g2.is_async = 0) (h3 : g3.is_async = 0) (f1 : ∀ env x, foldedSetIterable g.iter env x = pure x) (f2 : ∀ env x, foldedSetIterable g2.iter env x = pure x) (f3 : ∀ env x, foldedSetIterable g3.iter env x = pure x) : gensOK g [g2, g3] := fun env g' h => by
  simp only [List.mem_cons, List.not_mem_nil, or_false] at h
  rcases h with rfl | rfl | rfl
  · exact ⟨h1, f1 env⟩
  · exact ⟨h2, f2 env⟩
  · exact ⟨h3, f3 env⟩
noncomputable def rowsV (cs : List Int) : V := .lst [.lst ((rowL cs 0).map .int), .lst ((rowL cs 4).map .int), .lst ((rowL cs 8).map .int)]
noncomputable def frL (L sa fd sx : Addr) (cs : List Int) (xv pv tv lv rv : Option V) : List Sl := [⟨"script", none, some (.raw (.ref sa))⟩, ⟨"feed", some (L + 1), some (.raw (.ref fd))⟩, ⟨"rows", some (L + 1 + 1), some (rowsV cs)⟩, ⟨"functions", none, some (.raw (.ref sx))⟩, ⟨"x", none, xv⟩, ⟨"points", none, pv⟩, ⟨"turn", none, tv⟩, ⟨"left", none, lv⟩, ⟨"right", none, rv⟩]
noncomputable def frP (L : Addr) (cs : List Int) (a b c d : Option V) : List Sl := [⟨".0", none, a⟩, ⟨"a", none, b⟩, ⟨"b", none, c⟩, ⟨"c", none, d⟩, ⟨"rows", some (L + 1 + 1), some (rowsV cs)⟩]
noncomputable def feM (fd : Addr) (cs : List Int) (k : Nat) : List (Addr × MO) := [(fd, .dS (feedV cs k))]
noncomputable def ptC (cs : List Int) (x y : Int) : List V := (rowL cs 8).map (ptV x y)
noncomputable def ptB (cs : List Int) (x : Int) : List V := (rowL cs 4).flatMap (ptC cs x)
noncomputable def ptA (cs : List Int) (j : Nat) : List V := ((rowL cs 0).take j).flatMap (ptB cs)
noncomputable def ptD (cs : List Int) (j : Nat) (x : Int) (i : Nat) : List V := ptA cs j ++ ((rowL cs 4).take i).flatMap (ptC cs x)
noncomputable def ptE (cs : List Int) (j : Nat) (x : Int) (i : Nat) (y : Int) (l : Nat) : List V := ptD cs j x i ++ ((rowL cs 8).take l).map (ptV x y)
noncomputable def ptsL (cs : List Int) : List (List Int) := pointsL (rowL cs 0) (rowL cs 4) (rowL cs 8)
noncomputable def ptsV (cs : List Int) : V := .lst ((ptsL cs).map fun one => .tup (one.map .int))
theorem ptA_all (cs : List Int) : V.lst (ptA cs (rowL cs 0).length) = ptsV cs := by
  rw [ptA, List.take_length, ptsV, ptsL]
  unfold pointsL
  simp only [List.map_flatMap, List.map_map]
  rfl
inductive I1 (L sa fd : Addr) (σ : Sg) (cs : List Int) (j : Nat) (Z : AS) : Prop where
  | mk (r : Addr) (xv : Option V) : Z = ⟨frL L sa fd σ.x cs xv none none none none, (r, .obj (rngP 0 3)) :: gmem σ ⟨(V0L cs).take j, [], []⟩ (feM fd cs 12)⟩ → I1 L sa fd σ cs j Z
inductive P1 (L D : Addr) (cs : List Int) (M : List (Addr × MO)) (j : Nat) (Z : AS) : Prop where
  | mk (a b c d : Option V) : Z = ⟨frP L cs a b c d, (D, .lst (ptA cs j)) :: M⟩ → P1 L D cs M j Z
inductive P2 (L D : Addr) (cs : List Int) (F M : List (Addr × MO)) (j : Nat) (x : Int) (i : Nat) (Z : AS) : Prop where
  | mk (a c d : Option V) : Z = ⟨frP L cs a (some (.int x)) c d, F ++ (D, .lst (ptD cs j x i)) :: M⟩ → P2 L D cs F M j x i Z
inductive P3 (L D : Addr) (cs : List Int) (F2 F M : List (Addr × MO)) (j : Nat) (x : Int) (i : Nat) (y : Int) (l : Nat) (Z : AS) : Prop where
  | mk (a d : Option V) : Z = ⟨frP L cs a (some (.int x)) (some (.int y)) d, F2 ++ (F ++ (D, .lst (ptE cs j x i y l)) :: M)⟩ → P3 L D cs F2 F M j x i y l Z
inductive I2 (L sa fd r0 : Addr) (σ : Sg) (cs : List Int) (xv : Option V) (j : Nat) (Z : AS) : Prop where
  | mk (r : Addr) (tv lv rv : Option V) (k : Nat) (ks : List Key) : k ≤ 12 + 30 * j → WFk ks → (∀ q ∈ ks, KD (domR cs) q) → ks.length ≤ 40 * j → Z = ⟨frL L sa fd σ.x cs xv (some (ptsV cs)) tv lv rv, [(r, .obj (rngP 0 2)), (r0, .obj (rngP 0 3))] ++ gmem σ (stG (V0L cs) ks) (feM fd cs k)⟩ → I2 L sa fd r0 σ cs xv j Z
inductive KI (L fd : Addr) (ρ : List Sl) : Prop where
  | mk (a b : Option V) : ρ = [⟨".0", none, a⟩, ⟨"k", none, b⟩, ⟨"feed", some (L + 1), some (.raw (.ref fd))⟩] → KI L fd ρ
noncomputable def numsL (cs : List Int) (k i : Nat) : List Lin := (List.range i).map fun t => numL cs (k + 3 * t)
theorem nums_add (cs : List Int) (k i : Nat) : (numsL cs k (i + 1)).map numV = (numsL cs k i).map numV ++ [numV (numL cs (k + 3 * i))] := by
  rw [numsL, List.range_succ, List.map_append, List.map_append]; rfl
theorem nums_num {cs : List Int} {k i : Nat} : ∀ z ∈ numsL cs k i, Num z := fun z hz => by obtain ⟨t, _, rfl⟩ := List.mem_map.mp hz; exact numL_ok _ _
theorem nums_len (cs : List Int) (k i : Nat) : (numsL cs k i).length = i := by rw [numsL, List.length_map, List.length_range]
theorem hideQ {P F A : List (Addr × MO)} {σ : Sg} {g : G} (hP : ∀ x, F ++ (A ++ gmem σ g [x]) = P ++ [x]) (a b x : Addr × MO) : (a :: b :: P) ++ [x] = (a :: b :: (F ++ A)) ++ gmem σ g [x] := by
  show a :: b :: (P ++ [x]) = a :: b :: (F ++ A ++ gmem σ g [x])
  rw [← hP, List.append_assoc]
theorem hideS {F A B : List (Addr × MO)} {a b : Addr × MO} : (F ++ (A ++ B)).Sublist ((a :: b :: (F ++ A)) ++ B) := by
  rw [← List.append_assoc]; exact (List.sublist_cons_self _ _).trans (List.sublist_cons_self _ _)
theorem hideP (F A : List (Addr × MO)) (σ : Sg) (g : G) : ∃ P, ∀ x, F ++ (A ++ gmem σ g [x]) = P ++ [x] := ⟨F ++ (A ++ gmem σ g []), fun x => by simp [gmem]⟩
theorem pt_le (cs : List Int) {j i l : Nat} {x y : Int} : (ptE cs j x i y l).length ≤ 60 := by
  have b8 : ∀ x y : Int, (ptC cs x y).length ≤ 2 := fun x y => by rw [ptC, List.length_map]; exact (row_dom cs 8).2.2.1
  have b4 : ∀ x : Int, (ptB cs x).length ≤ 4 := fun x => Nat.le_trans (flat_le (k := 2) fun y _ => b8 x y) (Nat.mul_le_mul_right 2 (row_dom cs 4).2.2.1)
  rw [ptE, ptD, ptA, List.length_append, List.length_append, List.length_map]
  exact Nat.le_trans (Nat.add_le_add (Nat.add_le_add
    (Nat.le_trans (flat_le (k := 4) fun x _ => b4 x) (Nat.mul_le_mul_right 4 (Nat.le_trans (List.length_take_le' ..) (row_dom cs 0).2.2.1)))
    (Nat.le_trans (flat_le (k := 2) fun y _ => b8 x y) (Nat.mul_le_mul_right 2 (Nat.le_trans (List.length_take_le' ..) (row_dom cs 4).2.2.1))))
    (Nat.le_trans (List.length_take_le' ..) (row_dom cs 8).2.2.1)) (by decide)
theorem law_tail {G : GCx} {A : Around} {L : Addr} {Kp : Addr → Obj → Prop} {scope : Scope} {cd : Value} {sa fd fa : Addr} {body : List Stmt} {σ : Sg} {cs : List Int}
    (hG : G.K = KF G.w.params) (hS : Self Kp σ) (hcs : CellsOK cs)
    (hb : (match (tp 35) with | .FunctionDef _ _ b _ _ _ sc _ _ _ => some (b, sc) | _ => none) = some (body, scope)) :
    Exs (cxC G (n+9) A scope L fa "law" cd (cellsP (L + 1) scope.names) Kp) ⟨frL L sa fd σ.x cs none none none none none, gmem σ ⟨[], [], []⟩ (feM fd cs 12)⟩ (body.drop 2) (fun fl Y => fl = .ret (.bool true)) := by
  cases hb
  dsimp only [cellsP, List.drop]
  refine Exs.seq (I1 L sa fd σ cs 3) ?_ ?_
  · refine Ex.for (l := (List.range 3).map fun i : Nat => .int (i : Int)) (ok := fun _ => True) (I1 L sa fd σ cs) ?_ (fun _ _ _ => trivial) ?_ fun _ h => h
    · walk_at "e0.2.OpL"
      refine OpL.range1 fun r => ?_
      exact ⟨_, MkIter.rng1 (n := 3) rfl (by decide), r, none, rfl⟩
    · rintro j x Z F hj ⟨r, xv, rfl⟩
      have hj3 : j < 3 := (show j < 3 from (List.getElem?_eq_some_iff.mp hj).1)
      have h012 : j = 0 ∨ j = 1 ∨ j = 2 := by omega
      refine As.mem (List.append_cons F _ _) ?_
      rcases h012 with rfl | rfl | rfl
      · cases hj
        walk_at "a0.1.TW"; walk_at "b0.5.Exists"; refine ⟨_, at_flat (by assumption) (by assumption), ?_⟩; walk_at "run.0.Exists"
        refine ⟨_, m_new_var (by exact hG) (by exact hS), ?_⟩
        walk_at "m.3.Op2"
        refine Op2.itemStr (c := 120) (by decide) (by rfl) ?_
        walk_at "run.4.Op2"
        refine Op2.iL 0 rfl ?_
        walk_at "run.0.OpL"
        refine domain_spec (by exact hG) (by rfl) (Nat.le_trans (row_dom cs 0).2.2.1 (by decide)) ?_
        walk_at "run.0.OpL"
        refine new_var_spec (by exact hG) (by rfl) (by exact hS) (by show 0 ≤ 1000000; decide) ?_
        refine ⟨.int _, ?_⟩
        walk_at "run.1.Back"
        exact backE (List.append_assoc F [_] _) ⟨r, _, rfl⟩
      · cases hj
        walk_at "a0.1.TW"; walk_at "b0.5.Exists"; refine ⟨_, at_flat (by assumption) (by assumption), ?_⟩; walk_at "run.0.Exists"
        refine ⟨_, m_new_var (by exact hG) (by exact hS), ?_⟩
        walk_at "m.3.Op2"
        refine Op2.itemStr (c := 121) (by decide) (by rfl) ?_
        walk_at "run.4.Op2"
        refine Op2.iL 1 rfl ?_
        walk_at "run.0.OpL"
        refine domain_spec (by exact hG) (by rfl) (Nat.le_trans (row_dom cs 4).2.2.1 (by decide)) ?_
        walk_at "run.0.OpL"
        refine new_var_spec (by exact hG) (by rfl) (by exact hS) (by show 1 ≤ 1000000; decide) ?_
        refine ⟨.int _, ?_⟩
        walk_at "run.1.Back"
        exact backE (List.append_assoc F [_] _) ⟨r, _, rfl⟩
      · cases hj
        walk_at "a0.1.TW"; walk_at "b0.5.Exists"; refine ⟨_, at_flat (by assumption) (by assumption), ?_⟩; walk_at "run.0.Exists"
        refine ⟨_, m_new_var (by exact hG) (by exact hS), ?_⟩
        walk_at "m.3.Op2"
        refine Op2.itemStr (c := 122) (by decide) (by rfl) ?_
        walk_at "run.4.Op2"
        refine Op2.iL 2 rfl ?_
        walk_at "run.0.OpL"
        refine domain_spec (by exact hG) (by rfl) (Nat.le_trans (row_dom cs 8).2.2.1 (by decide)) ?_
        walk_at "run.0.OpL"
        refine new_var_spec (by exact hG) (by rfl) (by exact hS) (by show 2 ≤ 1000000; decide) ?_
        refine ⟨.int _, ?_⟩
        walk_at "run.1.Back"
        exact backE (List.append_assoc F [_] _) ⟨r, _, rfl⟩
  · rintro _ ⟨r0, xv, rfl⟩
    refine Exs.mem (M' := [(r0, .obj (rngP 0 3))] ++ gmem σ (stG (V0L cs) []) (feM fd cs 12)) (by rw [← V0_st]; rfl) ?_
    refine Exs.cons ?_
    refine Ex.asgComp (gens3 rfl rfl rfl (fun _ _ => rfl) (fun _ _ => rfl) (fun _ _ => rfl)) 5 ?_ rfl rfl (by decide) rfl
    walk_at "e0.3.Op2"
    refine Op2.iL 0 rfl ?_
    refine ⟨_, _, _, MkIter.lst, fun L' D Kp' hKp => ⟨P1 L D cs ([(r0, .obj (rngP 0 3))] ++ gmem σ (stG (V0L cs) []) (feM fd cs 12)), ⟨_, _, _, _, rfl⟩, fun _ _ _ => trivial, ?_, ?_⟩⟩
    · rintro j v Z F hj ⟨a, b, c, d, rfl⟩
      rw [List.getElem?_map] at hj
      obtain ⟨x, hx, rfl⟩ := Option.map_eq_some_iff.mp hj
      dsimp only
      walk_at "a0.1.TW"
      refine Ifs.nil (ifT rfl ?_)
      change Ev _ _ _ _
      walk_at "e0.3.Op2"
      refine Op2.iL 1 rfl ?_
      refine ⟨_, _, _, MkIter.lst, P2 L D cs F ([(r0, .obj (rngP 0 3))] ++ gmem σ (stG (V0L cs) []) (feM fd cs 12)) j x, ⟨a, c, d, by rw [ptD]; exact congrArg _ (congrArg _ (congrArg (fun l => (D, MO.lst l) :: _) (List.append_nil _).symm))⟩, fun _ _ _ => trivial, ?_, ?_⟩
      · rintro i v Z F2 hi ⟨a, c, d, rfl⟩
        rw [List.getElem?_map] at hi
        obtain ⟨y, hy, rfl⟩ := Option.map_eq_some_iff.mp hi
        dsimp only
        walk_at "a0.1.TW"
        refine Ifs.nil (ifT rfl ?_)
        change Ev _ _ _ _
        walk_at "e0.3.Op2"
        refine Op2.iL 2 rfl ?_
        refine ⟨_, _, _, MkIter.lst, P3 L D cs F2 F ([(r0, .obj (rngP 0 3))] ++ gmem σ (stG (V0L cs) []) (feM fd cs 12)) j x i y, ⟨a, d, by rw [ptE]; exact congrArg _ (congrArg _ (congrArg _ (congrArg (fun l => (D, MO.lst l) :: _) (List.append_nil _).symm)))⟩, fun _ _ _ => trivial, ?_, ?_⟩
        · rintro l v Z F3 hl ⟨a, d, rfl⟩
          rw [List.getElem?_map] at hl
          obtain ⟨z, hz, rfl⟩ := Option.map_eq_some_iff.mp hl
          dsimp only
          walk_at "a0.1.TW"
          refine Ifs.nil (ifT rfl ?_)
          refine Emit.mk ?_
          walk_at "e0.5.Exists"
          refine ⟨F3 ++ (F2 ++ F), ptE cs j x i y l, [(r0, .obj (rngP 0 3))] ++ gmem σ (stG (V0L cs) []) (feM fd cs 12), by simp, small_ok (pt_le cs), ⟨frP L cs a (some (.int x)) (some (.int y)) (some (.int z)), F2 ++ (F ++ (D, .lst (ptE cs j x i y (l + 1))) :: ([(r0, .obj (rngP 0 3))] ++ gmem σ (stG (V0L cs) []) (feM fd cs 12)))⟩, ?_, a, some (.int z), rfl⟩
          rw [ptE, ptE, take_map hz]
          simp [ptV]; rfl
        · rintro _ ⟨a, d, rfl⟩
          rw [List.length_map]
          refine ⟨⟨frP L cs a (some (.int x)) (some (.int y)) d, F ++ (D, .lst (ptD cs j x (i + 1))) :: ([(r0, .obj (rngP 0 3))] ++ gmem σ (stG (V0L cs) []) (feM fd cs 12))⟩, ?_, a, some (.int y), d, rfl⟩
          rw [ptE, List.take_length, ptD, ptD, take_flat hy, List.append_assoc]; rfl
      · rintro _ ⟨a, c, d, rfl⟩
        rw [List.length_map]
        refine ⟨⟨frP L cs a (some (.int x)) c d, (D, .lst (ptA cs (j + 1))) :: ([(r0, .obj (rngP 0 3))] ++ gmem σ (stG (V0L cs) []) (feM fd cs 12))⟩, ?_, a, some (.int x), c, d, rfl⟩
        rw [ptD, List.take_length, ptA, ptA, take_flat hx]; rfl
    · rintro _ ⟨a, b, c, d, rfl⟩
      rw [List.length_map]
      refine ⟨_, _, rfl, ⟨_, rfl⟩, ?_⟩
      rw [ptA_all]
      refine (?_ : Exs _ ⟨frL L sa fd σ.x cs xv (some (ptsV cs)) none none none, _⟩ _ _)
      refine Exs.cons ?_
      refine Ex.for (l := (List.range 2).map fun i : Nat => .int (i : Int)) (ok := fun _ => True) (I2 L sa fd r0 σ cs xv) ?_ (fun _ _ _ => trivial) ?_ ?_
      · walk_at "e0.2.OpL"
        refine OpL.range1 fun r => ?_
        exact ⟨_, MkIter.rng1 (n := 2) rfl (by decide), r, none, none, none, 12, [], by decide, fun i q h => (nomatch h), fun q h => (nomatch h), Nat.zero_le _, rfl⟩
      · rintro j x Z F hj ⟨r, tv, lv, rv, k, ks, hk, hWF, hkd, hkl, rfl⟩
        have hj2 : j < 2 := (show j < 2 from (List.getElem?_eq_some_iff.mp hj).1)
        have hxj : x = .int (j : Int) := by
          rw [List.getElem?_map, List.getElem?_range hj2] at hj; exact (Option.some.inj hj).symm
        subst hxj
        obtain ⟨d, hd1, hd⟩ : ∃ d : Nat, drawZ cs k (4 - (j : Int)) = d ∧ d < 4 := ⟨(drawZ cs k (4 - (j : Int))).toNat, by have := drawZ_lt cs k (m := 4 - (j : Int)) (by omega); omega, by have := drawZ_lt cs k (m := 4 - (j : Int)) (by omega); omega⟩
        obtain ⟨e, he1, he⟩ : ∃ e : Nat, drawZ cs (k + 1 + 3 * d) (4 - (j : Int)) = e ∧ e < 4 := ⟨(drawZ cs (k + 1 + 3 * d) (4 - (j : Int))).toNat, by have := drawZ_lt cs (k + 1 + 3 * d) (m := 4 - (j : Int)) (by omega); omega, by have := drawZ_lt cs (k + 1 + 3 * d) (m := 4 - (j : Int)) (by omega); omega⟩
        obtain ⟨P, hP⟩ := hideP F [(r, MO.obj (rngP 0 2)), (r0, MO.obj (rngP 0 3))] σ (stG (V0L cs) ks)
        refine As.mem (hP _) ?_
        walk_at "a0.1.TW"; walk_at "b0.1.Ex"
        refine Ex.asgComp (gens1 rfl (fun _ _ => rfl)) 7 ?_ rfl rfl (by decide) rfl
        walk_at "e0.7.OpL"
        refine draw_spec (by exact hG) (by rfl) hcs (by omega) (by omega) ?_
        rw [hd1]
        walk_at "run.0.OpL"
        refine OpL.range1 fun r2 => ?_
        refine ⟨_, _, _, MkIter.rng1 (n := d) rfl (by omega), CompOK.thr (fun _ => KI L fd) (fun i => (numsL cs (k + 1) i).map numV) (fun i => (r2, .obj (rngP 0 (d : Int))) :: (P ++ feM fd cs (k + 1 + 3 * i))) rfl rfl (fun L' => ⟨_, _, rfl⟩) ?_ (fun _ _ => trivial) ?_ ?_⟩
        · intro i hi'
          rw [List.length_map, List.length_range] at hi'
          rw [List.length_map, nums_len]
          exact small_ok (by omega)
        · rintro L' D' Kp' hKp i v F' hi' ρ' ⟨a, b, rfl⟩
          have hid : i < d := by have := (List.getElem?_eq_some_iff.mp hi').1; simpa using this
          refine As.mem (M' := ((F' ++ [(D', MO.lst ((numsL cs (k + 1) i).map numV))]) ++ (r2, MO.obj (rngP 0 (d : Int))) :: P) ++ (fd, MO.dS (feedV cs (k + 1 + 3 * i))) :: []) (List.append_assoc _ (_ :: P) _).symm ?_
          walk_at "a0.1.TW"
          refine Ifs.nil (ifT rfl ?_)
          walk_at "e0.2.OpL"
          refine number_spec (by exact hG) (by rfl) hcs (by omega) ?_
          exact ⟨List.append_assoc _ (_ :: P) _, nums_add _ _ _, _, _, rfl⟩
        · refine ⟨⟨_, rfl⟩, ?_⟩
          rw [List.length_map, List.length_range]
          refine (?_ : Exs _ ⟨frL L sa fd σ.x cs xv (some (ptsV cs)) (some (.int j)) (some (.lst ((numsL cs (k + 1) d).map numV))) rv, _⟩ _ _)
          walk_at "b0.1.Ex"
          refine Ex.asgComp (gens1 rfl (fun _ _ => rfl)) 8 ?_ rfl rfl (by decide) rfl
          walk_at "e0.7.OpL"
          refine draw_spec (P := _ :: P) (by exact hG) (by rfl) hcs (by omega) (by omega) ?_
          rw [he1]
          walk_at "run.0.OpL"
          refine OpL.range1 fun r3 => ?_
          refine ⟨_, _, _, MkIter.rng1 (n := e) rfl (by omega), CompOK.thr (fun _ => KI L fd) (fun i => (numsL cs (k + 1 + 3 * d + 1) i).map numV) (fun i => (r3, .obj (rngP 0 (e : Int))) :: (((r2, .obj (rngP 0 (d : Int))) :: P) ++ feM fd cs (k + 1 + 3 * d + 1 + 3 * i))) rfl rfl (fun L' => ⟨_, _, rfl⟩) ?_ (fun _ _ => trivial) ?_ ?_⟩
          · intro i hi'
            rw [List.length_map, List.length_range] at hi'
            rw [List.length_map, nums_len]
            exact small_ok (by omega)
          · rintro L' D' Kp' hKp i v F' hi' ρ' ⟨a, b, rfl⟩
            have hid : i < e := by have := (List.getElem?_eq_some_iff.mp hi').1; simpa using this
            refine As.mem (M' := ((F' ++ [(D', MO.lst ((numsL cs (k + 1 + 3 * d + 1) i).map numV))]) ++ (r3, MO.obj (rngP 0 (e : Int))) :: (r2, .obj (rngP 0 (d : Int))) :: P) ++ (fd, MO.dS (feedV cs (k + 1 + 3 * d + 1 + 3 * i))) :: []) (List.append_assoc _ (_ :: _ :: P) _).symm ?_
            walk_at "a0.1.TW"
            refine Ifs.nil (ifT rfl ?_)
            walk_at "e0.2.OpL"
            refine number_spec (by exact hG) (by rfl) hcs (by omega) ?_
            exact ⟨List.append_assoc _ (_ :: _ :: P) _, nums_add _ _ _, _, _, rfl⟩
          · refine ⟨⟨_, rfl⟩, ?_⟩
            rw [List.length_map, List.length_range]
            refine (?_ : Exs _ ⟨frL L sa fd σ.x cs xv (some (ptsV cs)) (some (.int j)) (some (.lst ((numsL cs (k + 1) d).map numV))) (some (.lst ((numsL cs (k + 1 + 3 * d + 1) e).map numV))), _⟩ _ _)
            have hX := nums_num (cs := cs) (k := k + 1) (i := d)
            have hY := nums_num (cs := cs) (k := k + 1 + 3 * d + 1) (i := e)
            have lX := nums_len cs (k + 1) d
            have lY := nums_len cs (k + 1 + 3 * d + 1) e
            generalize numsL cs (k + 1) d = xs at hX lX
            generalize numsL cs (k + 1 + 3 * d + 1) e = ys at hY lY
            refine Exs.cons ?_
            refine Ex.ite ?_
            walk_at "t0.11.OpL"
            refine draw_spec (P := _ :: _ :: P) (by exact hG) (by rfl) hcs (by omega) (by decide) ?_
            walk_at "run.2.OpL"
            generalize (drawZ cs (k + 1 + 3 * d + 1 + 3 * e) 2 == 0) = st
            have hlin : ∀ p ∈ xs.zip ys, LinsOK p := fun p hp => linsOK (hX _ (List.of_mem_zip hp).1) (hY _ (List.of_mem_zip hp).2)
            have hext := foldE (D := domR cs) ((xs.zip ys).reverse) (.tt (start0 xs ys st), ks) (fun p hp => hlin p (List.mem_reverse.mp hp)) TvB.tt
            have hlen2 : (lessL (domR cs) xs ys st ks).2.length ≤ ks.length + 40 := by
              have h1 : (lessL (domR cs) xs ys st ks).2.length ≤ ks.length + 4 * (xs.zip ys).reverse.length := hext.2.1
              rw [List.length_reverse, List.length_zip] at h1
              omega
            obtain ⟨one, ho⟩ := points_ne cs
            have hpo := point_ok ho
            have hRt := less_right (D := domR cs) (one := one) (st := st) hpo.len hpo.inD hWF hlin
            have hbd := lessL_bd (D := domR cs) (xs := xs) (ys := ys) (st := st) hkd
            refine OpL.mem (hideQ hP _ _ _) ?_
            refine pair_spec (by exact hG) (by rfl) (by exact hS) rfl (V0_dom cs) hX hY (by omega) (by omega) hWF hkd (by omega) (fun one ho => point_ok ho) (points_len cs) ?_
            refine ⟨_, rfl, ?_⟩
            refine ifF Bool.false_ne_true ?_
            refine Exs.nilD (Y := ⟨_, F ++ ([(r, MO.obj (rngP 0 2)), (r0, MO.obj (rngP 0 3))] ++ gmem σ (stG (V0L cs) (lessL (domR cs) xs ys st ks).2) (feM fd cs (k + 1 + 3 * d + 1 + 3 * e + 1)))⟩) hideS rfl ?_
            refine Exs.nil ?_
            exact turnOK ⟨r, _, _, _, _, _, by omega, hRt.wf, hbd.k, by omega, rfl⟩
      · rintro _ ⟨r, tv, lv, rv, k, ks, hk, hWF, hkd, hkl, rfl⟩
        walk_at "b0.3.Eq"; exact rfl
theorem law_body {G : GCx} {A : Around} {L : Addr} {Kp : Addr → Obj → Prop} {scope : Scope} {cd : Value} {sa fa : Addr} {so : Obj} {sk : Nat} {vs : List Value} {ns : List Int} {body : List Stmt}
    (hG : G.K = KF G.w.params) (hfile : ((G.prog.main.file : Str) == "/claim/cut.py") = true) (htop : (G.prog.main.scope.names.lookup ("super" : Str)).isSome = false)
    (hK : Kp sa so) (hc : so.cls = .type "list") (hd : so.data = .seq vs.toArray sk) (hi : IntsAre vs ns) (hz : vs.length ≤ 63)
    (hb : (match (tp 35) with | .FunctionDef _ _ b _ _ _ sc _ _ _ => some (b, sc) | _ => none) = some (body, scope)) :
    Exs (cxC G (n+9) A scope L fa "law" cd (cellsP (L + 1) scope.names) Kp) ⟨slotsP [.raw (.ref sa)] (L + 1) scope.names, []⟩ body (fun fl Y => fl = .ret (.bool true)) := by
  cases hb
  walk_at "b0.2.Ev"
  refine Ev.dict2 (by decide) fun fd => ?_
  walk_at "e0.1.Ev"
  refine Ev.comp (gens1 rfl (fun _ _ => rfl)) ?_ rfl (by decide) rfl
  walk_at "e0.2.Ev"
  refine Ev.slice ?_
  dsimp only [EvO]
  walk_at "e0.1.Exists"; refine ⟨_, rfl, ?_⟩
  intro sl
  have hvl : vs.length = ns.length := hi.length
  refine Op2.slice_takeK (sl := sl) hK hc hd hi 40 rfl (by rw [sizeLine_eq]; omega) ?_
  refine ⟨_, _, _, MkIter.lst, CompOK.map (toV := .int) (items := ns.take 40) (fun _ ρ => ∃ a b, ρ = [⟨".0", none, a⟩, ⟨"cell", none, b⟩]) (fun i => .int ((if i < 0 then -i else i).fmod 1000003)) (fun L' => ⟨_, _, rfl⟩) (small_ok (by rw [List.length_take]; omega)) (fun _ _ => trivial) ?_ ?_⟩
  · rintro L' Kp' hKp i hi' ρ' M' hM hP ⟨a, b, rfl⟩
    walk_at "a0.1.TW"; walk_at "e0.3.OpL"
    refine OpL.abs ?_
    walk_at "run.1.Op2"
    refine Op2.mod (by decide) ?_
    exact ⟨rfl, rfl, _, _, rfl⟩
  walk_at "run.1.Ev"
  refine Ev.lst ?_
  walk_at "l.6.OpL"
  refine OpL.lenK hK hc hd (by omega) ?_
  walk_at "run.2.OpL"
  refine OpL.intB ?_
  walk_at "run.0.Op2"
  refine Op2.mulL (by split <;> decide) (by split <;> decide) (by decide) ?_
  walk_at "run.0.Op2"
  have hcells : ((ns.take 40).map fun i => V.int ((if i < 0 then -i else i).fmod 1000003)) ++ (List.replicate (if ((vs.length : Int) == 0) = true then (1 : Int) else 0).toNat [V.int 5]).flatten = (cellsL ns).map .int := by
    unfold cellsL
    rw [List.map_append, List.map_map]
    congr 1
    rw [hvl]
    cases ns with
    | nil => rfl
    | cons a l =>
      rw [show (((a :: l).length : Int) == 0) = false by rw [beq_dec]; simp; omega]
      rfl
  refine Op2.addL (Nat.le_trans (Nat.le_of_eq (by rw [← List.length_append, hcells, List.length_map])) (Nat.le_trans (cellsL_ok ns).len (by rw [sizeLine_eq]; decide))) ?_
  rw [hcells]
  walk_at "run.0.TW"; walk_at "e0.1.Exists"; refine ⟨_, rfl, ?_⟩; walk_at "run.1.And"; refine ⟨by first | exact memA | exact memB | exact memC | exact memD, ?_⟩; walk_at "run.5.OpL"
  refine rows_spec (P := []) (T := []) (k := 0) (cs := cellsL ns) (by exact hG) (by rfl) (cellsL_ok ns) (by decide) ?_
  walk_at "run.1.OpL"
  refine functions_new (by exact hG) (by rfl) (by exact hfile) (by exact htop) fun x dx fl dfl vd td md => ?_
  walk_at "run.3.And"; refine ⟨by first | exact memA | exact memB | exact memC | exact memD, ?_⟩; walk_at "run.1.Exs"
  refine TW.self (x := x) (dx := dx) (fl := fl) (dfl := dfl) (vd := vd) (td := td) (md := md) (M := gmem ⟨x, fl, vd, td, md⟩ ⟨[], [], []⟩ [(fd, .dS (feedV (cellsL ns) 12))]) (perm7 _ _ _ _ _ _ _ _) fun Kp' hKp hS => ?_
  generalize hσ : (⟨x, fl, vd, td, md⟩ : Sg) = σ at hS
  have hx : x = σ.x := by rw [← hσ]
  subst hx
  generalize hcs : cellsL ns = cs
  have hcs' : CellsOK cs := by rw [← hcs]; exact cellsL_ok ns
  exact TW.mono (law_tail (n := n) hG hS hcs' rfl) fun fl Y h => by cases h; rfl
end
end
section
theorem law_run {w : World} {s₁ : Shared} {mg mb : Str → Option Value} {p : Program} {loose : List Str} {mean : ExcName → Option Value} {fa sa : Addr} {so : Obj} {sk : Nat} {vs : List Value} {ns : List Int} {cd : Value} {h₁ : Heap} {tk : Nat} {m : Str → Option Value} {w1 w2 : Obj} {u1 u2 : Option Value} {body : List Stmt} {scope : Scope}
    (hb : (match (tp 35) with | .FunctionDef _ _ b _ _ _ sc _ _ _ => some (b, sc) | _ => none) = some (body, scope))
    (T : Top p loose mean mg mb s₁.heap) (Y : (KF w.params).In s₁.heap) (hg : s₁.gens = #[])
    (hs : s₁.heap.get? sa = some so) (hc : so.cls = .type "list") (hd : so.data = .seq vs.toArray sk) (hi : IntsAre vs ns) (hz : vs.length ≤ 63)
    (F : Fr s₁.heap s₁.heap.objs.size h₁ m) (hm : m "script" = some (.ref sa))
    (e1 : w1.data = .cell u1) (e2 : w2.data = .cell u2) (N : News s₁.heap s₁.heap.objs.size h₁ [(s₁.heap.objs.size + 1 + 1, w1), (s₁.heap.objs.size + 1, w2)])
    {P : Flow → Shared → Prop} {E : Value → Shared → Prop} (q : ∀ s', (∀ b o, s₁.heap.get? b = some o → s'.heap.get? b = some o) → s'.gens = #[] → s'.os = s₁.os → P (.ret (.bool true)) s') :
    wpAny (model rw0.row.prog w) (callerA.deeper (envC scope s₁.heap.objs.size fa "law" cd)) (execs body (envC scope s₁.heap.objs.size fa "law" cd)) P E { heap := h₁, gens := s₁.gens, drawn := s₁.drawn, toks := tk, os := s₁.os } := by
  let G : GCx := ⟨rw0.row.prog, w, KF w.params, p, loose, mean, mg, mb, s₁.heap, s₁.os⟩
  let C : Cx := cxC G 9 (callerA.deeper (envC scope s₁.heap.objs.size fa "law" cd)) scope s₁.heap.objs.size fa "law" cd (cellsP (s₁.heap.objs.size + 1) scope.names) (fun b o => s₁.heap.get? b = some o)
  have hrun : Exs C ⟨slotsP [.raw (.ref sa)] (s₁.heap.objs.size + 1) scope.names, []⟩ body (fun fl Y => fl = .ret (.bool true)) :=
    law_body (n := 0) (G := G) rfl (by rfl) (by rfl) hs hc hd hi hz hb
  have S : St C ⟨slotsP [.raw (.ref sa)] (s₁.heap.objs.size + 1) scope.names, []⟩ { heap := h₁, gens := s₁.gens, drawn := s₁.drawn, toks := tk, os := s₁.os } := by
    cases hb
    have h3 : 3 < s₁.heap.objs.size := T.g.lt
    have f1 := N _ (.head _)
    have f2 := N _ (.tail _ (.head _))
    have big : ∀ a, s₁.heap.objs.size ≤ a → ∀ o, ¬ s₁.heap.get? a = some o := fun a ha o e => absurd (Heap.lt_size e) (Nat.not_lt.mpr ha)
    have hmem : ∀ a, a ∈ s₁.heap.objs.size :: ([s₁.heap.objs.size + 1, s₁.heap.objs.size + 1 + 1] ++ ([] : List Addr)) → s₁.heap.objs.size ≤ a := fun a ha => by
      simp only [List.append_nil, List.mem_cons, List.not_mem_nil, or_false] at ha
      rcases ha with rfl | rfl | rfl <;> omega
    refine ⟨⟨⟨rfl, rfl, rfl, ⟨_, rfl⟩, fun b o e => e, T, Y, rfl, by show 1 + claimMargin + 1 + 20 * 9 < recursionLimit; decide +kernel, by show 4 + 3 + 100 * 9 + 300 < cLine; decide +kernel⟩, F.keep, fun a ha => big a (hmem a ha), fun a ha => Nat.lt_of_lt_of_le h3 (hmem a ha), ?_, ⟨m, F.ns, fun e he => ?_⟩, fun c hc => ?_, ?_, ?_, fun p hp => (nomatch hp)⟩, hg, rfl⟩
    · show (s₁.heap.objs.size :: ([s₁.heap.objs.size + 1, s₁.heap.objs.size + 1 + 1] ++ ([] : List Addr))).Nodup
      rw [List.append_nil, List.nodup_cons, List.nodup_cons]
      exact ⟨fun h => by simp only [List.mem_cons, List.not_mem_nil, or_false] at h; omega, fun h => by simp only [List.mem_cons, List.not_mem_nil, or_false] at h; omega, by simp⟩
    · have he' : e ∈ ([⟨"script", none, some (.raw (.ref sa))⟩, ⟨"feed", some (s₁.heap.objs.size + 1), none⟩, ⟨"rows", some (s₁.heap.objs.size + 1 + 1), none⟩, ⟨"functions", none, none⟩, ⟨"x", none, none⟩, ⟨"points", none, none⟩, ⟨"turn", none, none⟩, ⟨"left", none, none⟩, ⟨"right", none, none⟩] : List Sl) := he
      simp only [List.mem_cons, List.not_mem_nil, or_false] at he'
      rcases he' with rfl | rfl | rfl | rfl | rfl | rfl | rfl | rfl | rfl
      · exact ⟨rfl, fun v hv => by cases hv; exact ⟨_, hm, .raw _⟩⟩
      · exact ⟨.inl rfl, rfl, fun h => (nomatch h), f2.2.1, w2, u2, f2.1, e2, fun v hv => by cases hv⟩
      · exact ⟨.inl rfl, rfl, fun h => (nomatch h), f1.2.1, w1, u1, f1.1, e1, fun v hv => by cases hv⟩
      all_goals exact ⟨rfl, fun v hv => by cases hv⟩
    · have hc' : c ∈ [s₁.heap.objs.size + 1, s₁.heap.objs.size + 1 + 1] := hc
      simp only [List.mem_cons, List.not_mem_nil, or_false] at hc'
      rcases hc' with rfl | rfl
      · exact ⟨w2, u2, f2.1, e2⟩
      · exact ⟨w1, u1, f1.1, e1⟩
    · show (["script", "feed", "rows", "functions", "x", "points", "turn", "left", "right"] : List Str).Nodup
      decide +kernel
    · show ([s₁.heap.objs.size + 1, s₁.heap.objs.size + 1 + 1] : List Addr).Nodup
      rw [List.nodup_cons]
      exact ⟨fun h => absurd (List.mem_singleton.mp h) (Nat.ne_of_lt (Nat.lt_succ_self (s₁.heap.objs.size + 1))), by simp⟩
  refine hrun.run S fun f fl Y' s' hfl S' rf mo => ?_
  subst hfl
  obtain ⟨_, e, r⟩ := RF.ret_inv rf
  cases r
  rw [e]
  exact q s' (fun b o e => S'.H.kept b o e) S'.gens S'.os
set_option tactic.hygienic true in
theorem tt0 (v : Program) (hv : vw = v) : PySem.Challenge.rw_nz0030_01.Holds := by
  w_on
  refine holds_law said fun said => ?_
  refine holds_open (q := v) (loose := ["TURNED"]) (Xt := xt) (XP := XL v []) (YP := InK KF) (hv ▸ left) (InK.of kas) InK.keeps (fun s e => hv ▸ xl_of s (Bool.and_eq_true_iff.mp e).1) XL.keeps (by rw [← hv]; rfl) (by rfl) (by rfl) (fun s e => recFacts_of (Bool.and_eq_true_iff.mp e).2) (by rfl) (by assumption) (by rw [← hv]; decide +kernel) ⟨rfl, rfl, rfl, rfl, rfl, by decide +kernel⟩ ?_ ?_
  · w_witness2
  intro w s₀ s₁ mg mb G Y fa o pm cd dcl dV kV ho hd hcd hD hmg hg args vals as hpre hlay hrd hwl hlo
  w_strict k_behind G ho hd hcd hD hmg hpre hlay hrd hwl hlo cd
  have T : Top v (looseW v ["TURNED"]) (ExcName.means s₀.heap) mg mb s₁.heap := by assumption
  rename_i hL ra w1 r0 hI hr hcond hcond' K0 h1 tk F o1 o2 e1 e2 N X0
  obtain ⟨so, hs, hc, sk, hdt⟩ := hL
  refine law_run rfl T Y hg hs hc hdt hI ?_ F rfl e1 e2 N fun s' keep hgens hos => ?_
  · have := hI.length; omega
  · exact ⟨.inl ⟨_, .bool true, [], rfl, fun cls => by rfl, .bool true, (by kc_post), unshared_nil⟩, keep, hos, hgens⟩
theorem tt : PySem.Challenge.rw_nz0030_01.Holds := tt0 vw rfl
end
end Nz
set_option maxRecDepth 100000 in
set_option maxHeartbeats 8000000 in
theorem PySem.Challenge.cw_nz0030_01_holds : PySem.Challenge.rw_nz0030_01.Holds := by
  exact Nz.tt
