import PyProof.Rows.All
import Wide.All
import OpenK.AllK
import Wide.FinOn
import KE.KEqDat
import KE.RegKSuper
import KE.KPar
import KE.KSlice
import KE.KDictNew
import KE.LcTurns
import Lean
import PySem.Challenge.RW_pc0028_01
open PySem PySem.W PyProof.Rows PySem.Calls
set_option Elab.async false
set_option maxRecDepth 100000
set_option linter.unusedVariables false
namespace Mine
/-- the program's own top level, and what stands in it -/
noncomputable abbrev MB : List Stmt := PySem.Challenge.rw_pc0028_01.row.prog.main.body
def nth : List Stmt → Nat → Stmt
  | s :: _, 0 => s
  | _ :: r, n + 1 => nth r n
  | [], _ => .Pass default
def fA : Stmt → Arguments
  | .FunctionDef _ a .. => a
  | _ => ⟨[], [], none, [], [], none, []⟩
def fB : Stmt → List Stmt
  | .FunctionDef _ _ b .. => b
  | .ClassDef _ _ _ b .. => b
  | _ => []
def fS : Stmt → Scope
  | .FunctionDef _ _ _ _ _ _ s .. => s
  | .ClassDef _ _ _ _ _ _ s .. => s
  | _ => default
/-- the objects of the text's own run that the proof speaks of -/
noncomputable def KK : Params → Frag := fun P => (fun (_ : (Str.ofString "n").length = 1) => ((
  (nat_lit 2, { cls := .none, data := .dict #[{ hash := PyData.keyHash P (Str.ofString "type.__subclasses__.Exception.0"), key := .str (Str.ofString "type.__subclasses__.Exception.0") 223, val := .int 40 0 }, { hash := PyData.keyHash P (Str.ofString "type.__subclasses__.Exception.n"), key := .str (Str.ofString "type.__subclasses__.Exception.n") 224, val := .int 1 0 }] 2 }) ::
  (nat_lit 3, { cls := .type "dict", data := .dict #[{ hash := PyData.keyHash P (Str.ofString "__name__"), key := .str (Str.ofString "__name__") 165, val := .str (Str.ofString "law_pc0028_01") 488 }, { hash := PyData.keyHash P (Str.ofString "__doc__"), key := .str (Str.ofString "__doc__") 166, val := .none }, { hash := PyData.keyHash P (Str.ofString "__package__"), key := .str (Str.ofString "__package__") 167, val := .none }, { hash := PyData.keyHash P (Str.ofString "__loader__"), key := .str (Str.ofString "__loader__") 168, val := .builtin "__main__.__loader__#opaque" }, { hash := PyData.keyHash P (Str.ofString "__spec__"), key := .str (Str.ofString "__spec__") 169, val := .none }, { hash := PyData.keyHash P (Str.ofString "__annotations__"), key := .str (Str.ofString "__annotations__") 170, val := .ref 6 }, { hash := PyData.keyHash P (Str.ofString "__builtins__"), key := .str (Str.ofString "__builtins__") 171, val := .ref 4 }, { hash := PyData.keyHash P (Str.ofString "__file__"), key := .str (Str.ofString "__file__") 173, val := .str (Str.ofString "/claim/cut.py") 172 }, { hash := PyData.keyHash P (Str.ofString "__cached__"), key := .str (Str.ofString "__cached__") 174, val := .none }, { hash := PyData.keyHash P (Str.ofString "FdError"), key := .str (Str.ofString "FdError") 226, val := .ref 40 }, { hash := PyData.keyHash P (Str.ofString "SpotFault"), key := .str (Str.ofString "SpotFault") 261, val := .ref 69 }, { hash := PyData.keyHash P (Str.ofString "TextFault"), key := .str (Str.ofString "TextFault") 277, val := .ref 81 }, { hash := PyData.keyHash P (Str.ofString "WORDS"), key := .str (Str.ofString "WORDS") 317, val := .ref 84 }, { hash := PyData.keyHash P (Str.ofString "SIGNS"), key := .str (Str.ofString "SIGNS") 349, val := .ref 85 }, { hash := PyData.keyHash P (Str.ofString "ESCAPES"), key := .str (Str.ofString "ESCAPES") 362, val := .ref 86 }, { hash := PyData.keyHash P (Str.ofString "BLANKS"), key := .str (Str.ofString "BLANKS") 364, val := .str (Str.ofString " \t\x0d\n") 363 }, { hash := PyData.keyHash P (Str.ofString "FIGURES"), key := .str (Str.ofString "FIGURES") 366, val := .str (Str.ofString "0123456789") 365 }, { hash := PyData.keyHash P (Str.ofString "LETTERS"), key := .str (Str.ofString "LETTERS") 368, val := .str (Str.ofString "abcdefghijklmnopqrstuvwxyzABCDEFGHIJKLMNOPQRSTUVWXYZ") 367 }, { hash := PyData.keyHash P (Str.ofString "MOST_FIGURES"), key := .str (Str.ofString "MOST_FIGURES") 370, val := .int 60 369 }, { hash := PyData.keyHash P (Str.ofString "MOST_STRINGS"), key := .str (Str.ofString "MOST_STRINGS") 372, val := .int 4 371 }, { hash := PyData.keyHash P (Str.ofString "Scanner"), key := .str (Str.ofString "Scanner") 487, val := .ref 167 }, { hash := PyData.keyHash P (Str.ofString "_law_escapes"), key := .str (Str.ofString "_law_escapes") 499, val := .ref 177 }, { hash := PyData.keyHash P (Str.ofString "_law_turn"), key := .str (Str.ofString "_law_turn") 508, val := .ref 184 }, { hash := PyData.keyHash P (Str.ofString "_law_inner"), key := .str (Str.ofString "_law_inner") 523, val := .ref 191 }, { hash := PyData.keyHash P (Str.ofString "_law_string"), key := .str (Str.ofString "_law_string") 529, val := .ref 196 }, { hash := PyData.keyHash P (Str.ofString "_law_refusal"), key := .str (Str.ofString "_law_refusal") 544, val := .ref 203 }, { hash := PyData.keyHash P (Str.ofString "law"), key := .str (Str.ofString "law") 550, val := .ref 208 }] 27 }) ::
  (nat_lit 15, { cls := .type "tuple", data := .seq #[.type "Exception"] }) ::
  (nat_lit 18, { cls := .type "cell", data := .cell (some (.ref 40)) }) ::
  (nat_lit 23, { cls := .type "tuple", data := .seq #[.ref 18] }) ::
  (nat_lit 24, { cls := .type "tuple", data := .seq #[.str (Str.ofString "__class__") 204] }) ::
  (nat_lit 26, { cls := .type "tuple", data := .seq #[.str (Str.ofString "self") 205, .str (Str.ofString "what") 206] }) ::
  (nat_lit 29, { cls := .type "code", data := .fields #[.str (Str.ofString "__init__") 201, .str (Str.ofString "FdError.__init__") 202, .str (Str.ofString "/claim/cut.py") 203, .int 4 0, .int 2 0, .int 0 0, .int 0 0, .int 3 0, .ref 24, .bool true, .int 181 0, .ref 25, .none, .ref 26, .ref 27, .ref 28, .int 207 0, .int 4 0, .str (Str.ofString "/claim/cut.py") 208] }) ::
  (nat_lit 30, { cls := .type "function", data := .func { name := Str.ofString "__init__", qualname := Str.ofString "FdError.__init__", params := (fA (nth (fB (nth MB 1)) 0)), body := .stmts (fB (nth (fB (nth MB 1)) 0)), scope := (fS (nth (fB (nth MB 1)) 0)), globals := 3, closure := [(Str.ofString "__class__", 18)], defaults := .none, kwdefaults := .none, pyModule := .str (Str.ofString "fdsolve.errors") 187, code := .ref 29, closureTuple := .ref 23 } }) ::
  (nat_lit 33, { cls := .type "tuple", data := .seq #[.str (Str.ofString "self") 213] }) ::
  (nat_lit 36, { cls := .type "code", data := .fields #[.str (Str.ofString "told") 210, .str (Str.ofString "FdError.told") 211, .str (Str.ofString "/claim/cut.py") 212, .int 8 0, .int 1 0, .int 0 0, .int 0 0, .int 3 0, .ref 31, .bool true, .int 181 0, .ref 32, .none, .ref 33, .ref 34, .ref 35, .int 214 0, .int 8 0, .str (Str.ofString "/claim/cut.py") 215] }) ::
  (nat_lit 37, { cls := .type "function", data := .func { name := Str.ofString "told", qualname := Str.ofString "FdError.told", params := (fA (nth (fB (nth MB 1)) 1)), body := .stmts (fB (nth (fB (nth MB 1)) 1)), scope := (fS (nth (fB (nth MB 1)) 1)), globals := 3, closure := [], defaults := .none, kwdefaults := .none, pyModule := .str (Str.ofString "fdsolve.errors") 187, code := .ref 36 } }) ::
  (nat_lit 38, { cls := .type "tuple", data := .seq #[.str (Str.ofString "what") 217] }) ::
  (nat_lit 39, { cls := .type "dict", data := .dict #[{ hash := PyData.keyHash P (Str.ofString "__module__"), key := .str (Str.ofString "__module__") 196, val := .str (Str.ofString "fdsolve.errors") 187 }, { hash := PyData.keyHash P (Str.ofString "__firstlineno__"), key := .str (Str.ofString "__firstlineno__") 200, val := .int 2 199 }, { hash := PyData.keyHash P (Str.ofString "__init__"), key := .str (Str.ofString "__init__") 209, val := .ref 30 }, { hash := PyData.keyHash P (Str.ofString "told"), key := .str (Str.ofString "told") 216, val := .ref 37 }, { hash := PyData.keyHash P (Str.ofString "__static_attributes__"), key := .str (Str.ofString "__static_attributes__") 218, val := .ref 38 }, { hash := PyData.keyHash P (Str.ofString "__weakref__"), key := .str (Str.ofString "__weakref__") 221, val := .ref 41 }, { hash := PyData.keyHash P (Str.ofString "__doc__"), key := .str (Str.ofString "__doc__") 222, val := .none }] 4 }) ::
  (nat_lit 40, { cls := .type "type", data := .cls { name := Str.ofString "FdError", bases := [.type "Exception"], mro := [.ref 40, .type "Exception", .type "BaseException", .type "object"], ns := 39, qualname := Str.ofString "FdError", subclasses := [.ref 69] }, slots := #[some (.ref 15), none, some (.str (Str.ofString "FdError") 189), some (.str (Str.ofString "FdError") 197), some (.builtin "Exception.__new__"), some (.bool true)] }) ::
  (nat_lit 41, { cls := .type "getset_descriptor", data := .fields #[.str (Str.ofString "__weakref__") 220, .ref 40, .builtin "ExceptionGroup.__weakref__", .none] }) ::
  (nat_lit 44, { cls := .type "tuple", data := .seq #[.ref 40] }) ::
  (nat_lit 47, { cls := .type "cell", data := .cell (some (.ref 69)) }) ::
  (nat_lit 52, { cls := .type "tuple", data := .seq #[.ref 47] }) ::
  (nat_lit 53, { cls := .type "tuple", data := .seq #[.str (Str.ofString "__class__") 242] }) ::
  (nat_lit 55, { cls := .type "tuple", data := .seq #[.str (Str.ofString "self") 243, .str (Str.ofString "what") 244, .str (Str.ofString "spot") 245] }) ::
  (nat_lit 58, { cls := .type "code", data := .fields #[.str (Str.ofString "__init__") 239, .str (Str.ofString "SpotFault.__init__") 240, .str (Str.ofString "/claim/cut.py") 241, .int 12 0, .int 3 0, .int 0 0, .int 0 0, .int 3 0, .ref 53, .bool true, .int 181 0, .ref 54, .none, .ref 55, .ref 56, .ref 57, .int 246 0, .int 12 0, .str (Str.ofString "/claim/cut.py") 247] }) ::
  (nat_lit 59, { cls := .type "function", data := .func { name := Str.ofString "__init__", qualname := Str.ofString "SpotFault.__init__", params := (fA (nth (fB (nth MB 2)) 0)), body := .stmts (fB (nth (fB (nth MB 2)) 0)), scope := (fS (nth (fB (nth MB 2)) 0)), globals := 3, closure := [(Str.ofString "__class__", 47)], defaults := .none, kwdefaults := .none, pyModule := .str (Str.ofString "fdsolve.errors") 187, code := .ref 58, closureTuple := .ref 52 } }) ::
  (nat_lit 62, { cls := .type "tuple", data := .seq #[.str (Str.ofString "self") 252] }) ::
  (nat_lit 65, { cls := .type "code", data := .fields #[.str (Str.ofString "told") 249, .str (Str.ofString "SpotFault.told") 250, .str (Str.ofString "/claim/cut.py") 251, .int 16 0, .int 1 0, .int 0 0, .int 0 0, .int 3 0, .ref 60, .bool true, .int 181 0, .ref 61, .none, .ref 62, .ref 63, .ref 64, .int 253 0, .int 16 0, .str (Str.ofString "/claim/cut.py") 254] }) ::
  (nat_lit 66, { cls := .type "function", data := .func { name := Str.ofString "told", qualname := Str.ofString "SpotFault.told", params := (fA (nth (fB (nth MB 2)) 1)), body := .stmts (fB (nth (fB (nth MB 2)) 1)), scope := (fS (nth (fB (nth MB 2)) 1)), globals := 3, closure := [], defaults := .none, kwdefaults := .none, pyModule := .str (Str.ofString "fdsolve.errors") 187, code := .ref 65 } }) ::
  (nat_lit 67, { cls := .type "tuple", data := .seq #[.str (Str.ofString "spot") 256] }) ::
  (nat_lit 68, { cls := .type "dict", data := .dict #[{ hash := PyData.keyHash P (Str.ofString "__module__"), key := .str (Str.ofString "__module__") 234, val := .str (Str.ofString "fdsolve.errors") 187 }, { hash := PyData.keyHash P (Str.ofString "__firstlineno__"), key := .str (Str.ofString "__firstlineno__") 238, val := .int 10 237 }, { hash := PyData.keyHash P (Str.ofString "__init__"), key := .str (Str.ofString "__init__") 248, val := .ref 59 }, { hash := PyData.keyHash P (Str.ofString "told"), key := .str (Str.ofString "told") 255, val := .ref 66 }, { hash := PyData.keyHash P (Str.ofString "__static_attributes__"), key := .str (Str.ofString "__static_attributes__") 257, val := .ref 67 }, { hash := PyData.keyHash P (Str.ofString "__doc__"), key := .str (Str.ofString "__doc__") 259, val := .none }] 3 }) ::
  (nat_lit 69, { cls := .type "type", data := .cls { name := Str.ofString "SpotFault", bases := [.ref 40], mro := [.ref 69, .ref 40, .type "Exception", .type "BaseException", .type "object"], ns := 68, qualname := Str.ofString "SpotFault", subclasses := [.ref 81] }, slots := #[some (.ref 44), none, some (.str (Str.ofString "SpotFault") 227), some (.str (Str.ofString "SpotFault") 235), some (.builtin "Exception.__new__"), some (.bool true)] }) ::
  (nat_lit 72, { cls := .type "tuple", data := .seq #[.ref 69] }) ::
  (nat_lit 80, { cls := .type "dict", data := .dict #[{ hash := PyData.keyHash P (Str.ofString "__module__"), key := .str (Str.ofString "__module__") 269, val := .str (Str.ofString "fdsolve.errors") 187 }, { hash := PyData.keyHash P (Str.ofString "__firstlineno__"), key := .str (Str.ofString "__firstlineno__") 273, val := .int 18 272 }, { hash := PyData.keyHash P (Str.ofString "__static_attributes__"), key := .str (Str.ofString "__static_attributes__") 274, val := .ref 79 }, { hash := PyData.keyHash P (Str.ofString "__doc__"), key := .str (Str.ofString "__doc__") 275, val := .none }] 2 }) ::
  (nat_lit 81, { cls := .type "type", data := .cls { name := Str.ofString "TextFault", bases := [.ref 69], mro := [.ref 81, .ref 69, .ref 40, .type "Exception", .type "BaseException", .type "object"], ns := 80, qualname := Str.ofString "TextFault" }, slots := #[some (.ref 72), none, some (.str (Str.ofString "TextFault") 262), some (.str (Str.ofString "TextFault") 270), some (.builtin "Exception.__new__"), some (.bool true)] }) ::
  (nat_lit 84, { cls := .type "tuple", data := .seq #[.str (Str.ofString "array") 280, .str (Str.ofString "bool") 281, .str (Str.ofString "constraint") 282, .str (Str.ofString "diff") 283, .str (Str.ofString "div") 284, .str (Str.ofString "else") 285, .str (Str.ofString "elseif") 286, .str (Str.ofString "endif") 287, .str (Str.ofString "false") 288, .str (Str.ofString "if") 289, .str (Str.ofString "in") 290, .str (Str.ofString "include") 291, .str (Str.ofString "int") 292, .str (Str.ofString "intersect") 293, .str (Str.ofString "let") 294, .str (Str.ofString "maximize") 295, .str (Str.ofString "minimize") 296, .str (Str.ofString "mod") 297, .str (Str.ofString "not") 298, .str (Str.ofString "of") 299, .str (Str.ofString "output") 300, .str (Str.ofString "par") 301, .str (Str.ofString "predicate") 302, .str (Str.ofString "satisfy") 303, .str (Str.ofString "set") 304, .str (Str.ofString "solve") 305, .str (Str.ofString "string") 306, .str (Str.ofString "subset") 307, .str (Str.ofString "superset") 308, .str (Str.ofString "symdiff") 309, .str (Str.ofString "test") 310, .str (Str.ofString "then") 311, .str (Str.ofString "true") 312, .str (Str.ofString "union") 313, .str (Str.ofString "var") 314, .str (Str.ofString "where") 315, .str (Str.ofString "xor") 316] }) ::
  (nat_lit 85, { cls := .type "tuple", data := .seq #[.str (Str.ofString "(") 318, .str (Str.ofString ")") 319, .str (Str.ofString ",") 320, .str (Str.ofString ";") 321, .str (Str.ofString "]") 322, .str (Str.ofString "{") 323, .str (Str.ofString "}") 324, .str (Str.ofString "<->") 325, .str (Str.ofString "->") 326, .str (Str.ofString "<-") 327, .str (Str.ofString "\\/") 328, .str (Str.ofString "/\\") 329, .str (Str.ofString "<=") 330, .str (Str.ofString ">=") 331, .str (Str.ofString "==") 332, .str (Str.ofString "!=") 333, .str (Str.ofString "..") 334, .str (Str.ofString "++") 335, .str (Str.ofString "::") 336, .str (Str.ofString "[|") 337, .str (Str.ofString "|]") 338, .str (Str.ofString "[") 339, .str (Str.ofString "|") 340, .str (Str.ofString "<") 341, .str (Str.ofString ">") 342, .str (Str.ofString "=") 343, .str (Str.ofString "+") 344, .str (Str.ofString "-") 345, .str (Str.ofString "*") 346, .str (Str.ofString "^") 347, .str (Str.ofString ":") 348] }) ::
  (nat_lit 86, { cls := .type "dict", data := .dict #[{ hash := PyData.keyHash P (Str.ofString "n"), key := .str (Str.ofString "n") 350, val := .str (Str.ofString "\n") 351 }, { hash := PyData.keyHash P (Str.ofString "t"), key := .str (Str.ofString "t") 352, val := .str (Str.ofString "\t") 353 }, { hash := PyData.keyHash P (Str.ofString "\""), key := .str (Str.ofString "\"") 354, val := .str (Str.ofString "\"") 355 }, { hash := PyData.keyHash P (Str.ofString "\\"), key := .str (Str.ofString "\\") 356, val := .str (Str.ofString "\\") 357 }] 4 }) ::
  (nat_lit 94, { cls := .type "tuple", data := .seq #[.int 0 385] }) ::
  (nat_lit 97, { cls := .type "tuple", data := .seq #[.str (Str.ofString "self") 389, .str (Str.ofString "text") 390, .str (Str.ofString "spot") 391, .str (Str.ofString "end") 392, .str (Str.ofString "depth") 393] }) ::
  (nat_lit 100, { cls := .type "code", data := .fields #[.str (Str.ofString "__init__") 386, .str (Str.ofString "Scanner.__init__") 387, .str (Str.ofString "/claim/cut.py") 388, .int 31 0, .int 5 0, .int 0 0, .int 0 0, .int 3 0, .ref 95, .bool true, .int 181 0, .ref 96, .none, .ref 97, .ref 98, .ref 99, .int 394 0, .int 31 0, .str (Str.ofString "/claim/cut.py") 395] }) ::
  (nat_lit 101, { cls := .type "function", data := .func { name := Str.ofString "__init__", qualname := Str.ofString "Scanner.__init__", params := (fA (nth (fB (nth MB 13)) 0)), body := .stmts (fB (nth (fB (nth MB 13)) 0)), scope := (fS (nth (fB (nth MB 13)) 0)), globals := 3, closure := [], defaults := .ref 94, kwdefaults := .none, pyModule := .str (Str.ofString "fdsolve.reader") 278, code := .ref 100 } }) ::
  (nat_lit 104, { cls := .type "tuple", data := .seq #[.str (Str.ofString "self") 400] }) ::
  (nat_lit 107, { cls := .type "code", data := .fields #[.str (Str.ofString "sign") 397, .str (Str.ofString "Scanner.sign") 398, .str (Str.ofString "/claim/cut.py") 399, .int 37 0, .int 1 0, .int 0 0, .int 0 0, .int 3 0, .ref 102, .bool true, .int 181 0, .ref 103, .none, .ref 104, .ref 105, .ref 106, .int 401 0, .int 37 0, .str (Str.ofString "/claim/cut.py") 402] }) ::
  (nat_lit 108, { cls := .type "function", data := .func { name := Str.ofString "sign", qualname := Str.ofString "Scanner.sign", params := (fA (nth (fB (nth MB 13)) 1)), body := .stmts (fB (nth (fB (nth MB 13)) 1)), scope := (fS (nth (fB (nth MB 13)) 1)), globals := 3, closure := [], defaults := .none, kwdefaults := .none, pyModule := .str (Str.ofString "fdsolve.reader") 278, code := .ref 107 } }) ::
  (nat_lit 111, { cls := .type "tuple", data := .seq #[.str (Str.ofString "self") 407, .str (Str.ofString "close") 408] }) ::
  (nat_lit 114, { cls := .type "code", data := .fields #[.str (Str.ofString "skip") 404, .str (Str.ofString "Scanner.skip") 405, .str (Str.ofString "/claim/cut.py") 406, .int 40 0, .int 1 0, .int 0 0, .int 0 0, .int 3 0, .ref 109, .bool true, .int 181 0, .ref 110, .none, .ref 111, .ref 112, .ref 113, .int 409 0, .int 40 0, .str (Str.ofString "/claim/cut.py") 410] }) ::
  (nat_lit 115, { cls := .type "function", data := .func { name := Str.ofString "skip", qualname := Str.ofString "Scanner.skip", params := (fA (nth (fB (nth MB 13)) 2)), body := .stmts (fB (nth (fB (nth MB 13)) 2)), scope := (fS (nth (fB (nth MB 13)) 2)), globals := 3, closure := [], defaults := .none, kwdefaults := .none, pyModule := .str (Str.ofString "fdsolve.reader") 278, code := .ref 114 } }) ::
  (nat_lit 118, { cls := .type "tuple", data := .seq #[.str (Str.ofString "self") 415, .str (Str.ofString "signs") 416, .str (Str.ofString "begin") 417] }) ::
  (nat_lit 121, { cls := .type "code", data := .fields #[.str (Str.ofString "run_of") 412, .str (Str.ofString "Scanner.run_of") 413, .str (Str.ofString "/claim/cut.py") 414, .int 55 0, .int 2 0, .int 0 0, .int 0 0, .int 3 0, .ref 116, .bool true, .int 181 0, .ref 117, .none, .ref 118, .ref 119, .ref 120, .int 418 0, .int 55 0, .str (Str.ofString "/claim/cut.py") 419] }) ::
  (nat_lit 122, { cls := .type "function", data := .func { name := Str.ofString "run_of", qualname := Str.ofString "Scanner.run_of", params := (fA (nth (fB (nth MB 13)) 3)), body := .stmts (fB (nth (fB (nth MB 13)) 3)), scope := (fS (nth (fB (nth MB 13)) 3)), globals := 3, closure := [], defaults := .none, kwdefaults := .none, pyModule := .str (Str.ofString "fdsolve.reader") 278, code := .ref 121 } }) ::
  (nat_lit 125, { cls := .type "tuple", data := .seq #[.str (Str.ofString "self") 424, .str (Str.ofString "begin") 425, .str (Str.ofString "figures") 426] }) ::
  (nat_lit 128, { cls := .type "code", data := .fields #[.str (Str.ofString "number") 421, .str (Str.ofString "Scanner.number") 422, .str (Str.ofString "/claim/cut.py") 423, .int 61 0, .int 1 0, .int 0 0, .int 0 0, .int 3 0, .ref 123, .bool true, .int 181 0, .ref 124, .none, .ref 125, .ref 126, .ref 127, .int 427 0, .int 61 0, .str (Str.ofString "/claim/cut.py") 428] }) ::
  (nat_lit 129, { cls := .type "function", data := .func { name := Str.ofString "number", qualname := Str.ofString "Scanner.number", params := (fA (nth (fB (nth MB 13)) 4)), body := .stmts (fB (nth (fB (nth MB 13)) 4)), scope := (fS (nth (fB (nth MB 13)) 4)), globals := 3, closure := [], defaults := .none, kwdefaults := .none, pyModule := .str (Str.ofString "fdsolve.reader") 278, code := .ref 128 } }) ::
  (nat_lit 132, { cls := .type "tuple", data := .seq #[.str (Str.ofString "self") 433, .str (Str.ofString "begin") 434, .str (Str.ofString "name") 435] }) ::
  (nat_lit 135, { cls := .type "code", data := .fields #[.str (Str.ofString "word") 430, .str (Str.ofString "Scanner.word") 431, .str (Str.ofString "/claim/cut.py") 432, .int 70 0, .int 1 0, .int 0 0, .int 0 0, .int 3 0, .ref 130, .bool true, .int 181 0, .ref 131, .none, .ref 132, .ref 133, .ref 134, .int 436 0, .int 70 0, .str (Str.ofString "/claim/cut.py") 437] }) ::
  (nat_lit 136, { cls := .type "function", data := .func { name := Str.ofString "word", qualname := Str.ofString "Scanner.word", params := (fA (nth (fB (nth MB 13)) 5)), body := .stmts (fB (nth (fB (nth MB 13)) 5)), scope := (fS (nth (fB (nth MB 13)) 5)), globals := 3, closure := [], defaults := .none, kwdefaults := .none, pyModule := .str (Str.ofString "fdsolve.reader") 278, code := .ref 135 } }) ::
  (nat_lit 139, { cls := .type "tuple", data := .seq #[.str (Str.ofString "self") 442, .str (Str.ofString "begin") 443, .str (Str.ofString "depth") 444, .str (Str.ofString "spot") 445] }) ::
  (nat_lit 142, { cls := .type "code", data := .fields #[.str (Str.ofString "inner_end") 439, .str (Str.ofString "Scanner.inner_end") 440, .str (Str.ofString "/claim/cut.py") 441, .int 75 0, .int 2 0, .int 0 0, .int 0 0, .int 3 0, .ref 137, .bool true, .int 181 0, .ref 138, .none, .ref 139, .ref 140, .ref 141, .int 446 0, .int 75 0, .str (Str.ofString "/claim/cut.py") 447] }) ::
  (nat_lit 143, { cls := .type "function", data := .func { name := Str.ofString "inner_end", qualname := Str.ofString "Scanner.inner_end", params := (fA (nth (fB (nth MB 13)) 6)), body := .stmts (fB (nth (fB (nth MB 13)) 6)), scope := (fS (nth (fB (nth MB 13)) 6)), globals := 3, closure := [], defaults := .none, kwdefaults := .none, pyModule := .str (Str.ofString "fdsolve.reader") 278, code := .ref 142 } }) ::
  (nat_lit 146, { cls := .type "tuple", data := .seq #[.str (Str.ofString "self") 452, .str (Str.ofString "begin") 453, .str (Str.ofString "pieces") 454, .str (Str.ofString "found") 455, .str (Str.ofString "close") 456] }) ::
  (nat_lit 149, { cls := .type "code", data := .fields #[.str (Str.ofString "string") 449, .str (Str.ofString "Scanner.string") 450, .str (Str.ofString "/claim/cut.py") 451, .int 86 0, .int 1 0, .int 0 0, .int 0 0, .int 3 0, .ref 144, .bool true, .int 181 0, .ref 145, .none, .ref 146, .ref 147, .ref 148, .int 457 0, .int 86 0, .str (Str.ofString "/claim/cut.py") 458] }) ::
  (nat_lit 150, { cls := .type "function", data := .func { name := Str.ofString "string", qualname := Str.ofString "Scanner.string", params := (fA (nth (fB (nth MB 13)) 7)), body := .stmts (fB (nth (fB (nth MB 13)) 7)), scope := (fS (nth (fB (nth MB 13)) 7)), globals := 3, closure := [], defaults := .none, kwdefaults := .none, pyModule := .str (Str.ofString "fdsolve.reader") 278, code := .ref 149 } }) ::
  (nat_lit 153, { cls := .type "tuple", data := .seq #[.str (Str.ofString "self") 463, .str (Str.ofString "sign") 464] }) ::
  (nat_lit 156, { cls := .type "code", data := .fields #[.str (Str.ofString "mark") 460, .str (Str.ofString "Scanner.mark") 461, .str (Str.ofString "/claim/cut.py") 462, .int 111 0, .int 1 0, .int 0 0, .int 0 0, .int 3 0, .ref 151, .bool true, .int 181 0, .ref 152, .none, .ref 153, .ref 154, .ref 155, .int 465 0, .int 111 0, .str (Str.ofString "/claim/cut.py") 466] }) ::
  (nat_lit 157, { cls := .type "function", data := .func { name := Str.ofString "mark", qualname := Str.ofString "Scanner.mark", params := (fA (nth (fB (nth MB 13)) 8)), body := .stmts (fB (nth (fB (nth MB 13)) 8)), scope := (fS (nth (fB (nth MB 13)) 8)), globals := 3, closure := [], defaults := .none, kwdefaults := .none, pyModule := .str (Str.ofString "fdsolve.reader") 278, code := .ref 156 } }) ::
  (nat_lit 160, { cls := .type "tuple", data := .seq #[.str (Str.ofString "self") 471, .str (Str.ofString "found") 472] }) ::
  (nat_lit 163, { cls := .type "code", data := .fields #[.str (Str.ofString "tokens") 468, .str (Str.ofString "Scanner.tokens") 469, .str (Str.ofString "/claim/cut.py") 470, .int 118 0, .int 1 0, .int 0 0, .int 0 0, .int 3 0, .ref 158, .bool true, .int 181 0, .ref 159, .none, .ref 160, .ref 161, .ref 162, .int 473 0, .int 118 0, .str (Str.ofString "/claim/cut.py") 474] }) ::
  (nat_lit 164, { cls := .type "function", data := .func { name := Str.ofString "tokens", qualname := Str.ofString "Scanner.tokens", params := (fA (nth (fB (nth MB 13)) 9)), body := .stmts (fB (nth (fB (nth MB 13)) 9)), scope := (fS (nth (fB (nth MB 13)) 9)), globals := 3, closure := [], defaults := .none, kwdefaults := .none, pyModule := .str (Str.ofString "fdsolve.reader") 278, code := .ref 163 } }) ::
  (nat_lit 165, { cls := .type "tuple", data := .seq #[.str (Str.ofString "depth") 476, .str (Str.ofString "end") 477, .str (Str.ofString "spot") 478, .str (Str.ofString "text") 479] }) ::
  (nat_lit 166, { cls := .type "dict", data := .dict #[{ hash := PyData.keyHash P (Str.ofString "__module__"), key := .str (Str.ofString "__module__") 380, val := .str (Str.ofString "fdsolve.reader") 278 }, { hash := PyData.keyHash P (Str.ofString "__firstlineno__"), key := .str (Str.ofString "__firstlineno__") 384, val := .int 29 383 }, { hash := PyData.keyHash P (Str.ofString "__init__"), key := .str (Str.ofString "__init__") 396, val := .ref 101 }, { hash := PyData.keyHash P (Str.ofString "sign"), key := .str (Str.ofString "sign") 403, val := .ref 108 }, { hash := PyData.keyHash P (Str.ofString "skip"), key := .str (Str.ofString "skip") 411, val := .ref 115 }, { hash := PyData.keyHash P (Str.ofString "run_of"), key := .str (Str.ofString "run_of") 420, val := .ref 122 }, { hash := PyData.keyHash P (Str.ofString "number"), key := .str (Str.ofString "number") 429, val := .ref 129 }, { hash := PyData.keyHash P (Str.ofString "word"), key := .str (Str.ofString "word") 438, val := .ref 136 }, { hash := PyData.keyHash P (Str.ofString "inner_end"), key := .str (Str.ofString "inner_end") 448, val := .ref 143 }, { hash := PyData.keyHash P (Str.ofString "string"), key := .str (Str.ofString "string") 459, val := .ref 150 }, { hash := PyData.keyHash P (Str.ofString "mark"), key := .str (Str.ofString "mark") 467, val := .ref 157 }, { hash := PyData.keyHash P (Str.ofString "tokens"), key := .str (Str.ofString "tokens") 475, val := .ref 164 }, { hash := PyData.keyHash P (Str.ofString "__static_attributes__"), key := .str (Str.ofString "__static_attributes__") 480, val := .ref 165 }, { hash := PyData.keyHash P (Str.ofString "__dict__"), key := .str (Str.ofString "__dict__") 482, val := .ref 168 }, { hash := PyData.keyHash P (Str.ofString "__weakref__"), key := .str (Str.ofString "__weakref__") 484, val := .ref 169 }, { hash := PyData.keyHash P (Str.ofString "__doc__"), key := .str (Str.ofString "__doc__") 485, val := .none }] 4 }) ::
  (nat_lit 167, { cls := .type "type", data := .cls { name := Str.ofString "Scanner", bases := [.type "object"], mro := [.ref 167, .type "object"], ns := 166, qualname := Str.ofString "Scanner" }, slots := #[none, none, some (.str (Str.ofString "Scanner") 373), some (.str (Str.ofString "Scanner") 381), some (.builtin "object.__new__"), some (.bool true)] }) ::
  (nat_lit 168, { cls := .type "getset_descriptor", data := .fields #[.str (Str.ofString "__dict__") 481, .ref 167, .builtin "function.__dict__", .builtin "function.__dict__#set"] }) ::
  (nat_lit 169, { cls := .type "getset_descriptor", data := .fields #[.str (Str.ofString "__weakref__") 483, .ref 167, .builtin "ExceptionGroup.__weakref__", .none] }) ::
  (nat_lit 172, { cls := .type "tuple", data := .seq #[.str (Str.ofString "n") 490, .str (Str.ofString "\n") 491] }) ::
  (nat_lit 173, { cls := .type "tuple", data := .seq #[.str (Str.ofString "t") 492, .str (Str.ofString "\t") 493] }) ::
  (nat_lit 174, { cls := .type "tuple", data := .seq #[.str (Str.ofString "\"") 494, .str (Str.ofString "\"") 495] }) ::
  (nat_lit 175, { cls := .type "tuple", data := .seq #[.str (Str.ofString "\\") 496, .str (Str.ofString "\\") 497] }) ::
  (nat_lit 176, { cls := .type "tuple", data := .seq #[.str (Str.ofString "q") 498, .none] }) ::
  (nat_lit 177, { cls := .type "tuple", data := .seq #[.ref 172, .ref 173, .ref 174, .ref 175, .ref 176] }) ::
  (nat_lit 180, { cls := .type "tuple", data := .seq #[.str (Str.ofString "wheel") 503, .str (Str.ofString "many") 504, .str (Str.ofString "at") 505] }) ::
  (nat_lit 183, { cls := .type "code", data := .fields #[.str (Str.ofString "_law_turn") 500, .str (Str.ofString "_law_turn") 501, .str (Str.ofString "/claim/cut.py") 502, .int 135 0, .int 2 0, .int 0 0, .int 0 0, .int 3 0, .ref 178, .bool true, .int 181 0, .ref 179, .none, .ref 180, .ref 181, .ref 182, .int 506 0, .int 135 0, .str (Str.ofString "/claim/cut.py") 507] }) ::
  (nat_lit 184, { cls := .type "function", data := .func { name := Str.ofString "_law_turn", qualname := Str.ofString "_law_turn", params := (fA (nth MB 16)), body := .stmts (fB (nth MB 16)), scope := (fS (nth MB 16)), globals := 3, closure := [], defaults := .none, kwdefaults := .none, pyModule := .str (Str.ofString "law_pc0028_01") 488, code := .ref 183 } }) ::
  (nat_lit 187, { cls := .type "tuple", data := .seq #[.str (Str.ofString "wheel") 512, .str (Str.ofString "here") 513, .str (Str.ofString "depth") 514, .str (Str.ofString "deep") 515, .str (Str.ofString "way") 516, .str (Str.ofString "text") 517, .str (Str.ofString "token") 518, .str (Str.ofString "faults") 519, .str (Str.ofString "spans") 520] }) ::
  (nat_lit 190, { cls := .type "code", data := .fields #[.str (Str.ofString "_law_inner") 509, .str (Str.ofString "_law_inner") 510, .str (Str.ofString "/claim/cut.py") 511, .int 141 0, .int 4 0, .int 0 0, .int 0 0, .int 3 0, .ref 185, .bool true, .int 181 0, .ref 186, .none, .ref 187, .ref 188, .ref 189, .int 521 0, .int 141 0, .str (Str.ofString "/claim/cut.py") 522] }) ::
  (nat_lit 191, { cls := .type "function", data := .func { name := Str.ofString "_law_inner", qualname := Str.ofString "_law_inner", params := (fA (nth MB 17)), body := .stmts (fB (nth MB 17)), scope := (fS (nth MB 17)), globals := 3, closure := [], defaults := .none, kwdefaults := .none, pyModule := .str (Str.ofString "law_pc0028_01") 488, code := .ref 190 } }) ::
  (nat_lit 195, { cls := .type "code", data := .fields #[.str (Str.ofString "_law_string") 524, .str (Str.ofString "_law_string") 525, .str (Str.ofString "/claim/cut.py") 526, .int 151 0, .int 4 0, .int 0 0, .int 0 0, .int 3 0, .ref 192, .bool true, .int 181 0, .ref 193, .none, .none, .none, .ref 194, .int 527 0, .int 151 0, .str (Str.ofString "/claim/cut.py") 528] }) ::
  (nat_lit 196, { cls := .type "function", data := .func { name := Str.ofString "_law_string", qualname := Str.ofString "_law_string", params := (fA (nth MB 18)), body := .stmts (fB (nth MB 18)), scope := (fS (nth MB 18)), globals := 3, closure := [], defaults := .none, kwdefaults := .none, pyModule := .str (Str.ofString "law_pc0028_01") 488, code := .ref 195 } }) ::
  (nat_lit 199, { cls := .type "tuple", data := .seq #[.str (Str.ofString "begin") 533, .str (Str.ofString "wide") 534, .str (Str.ofString "spans") 535, .str (Str.ofString "depth") 536, .str (Str.ofString "end_of") 537, .str (Str.ofString "way") 538, .str (Str.ofString "here") 539, .str (Str.ofString "rest") 540, .str (Str.ofString "faults") 541] }) ::
  (nat_lit 202, { cls := .type "code", data := .fields #[.str (Str.ofString "_law_refusal") 530, .str (Str.ofString "_law_refusal") 531, .str (Str.ofString "/claim/cut.py") 532, .int 170 0, .int 5 0, .int 0 0, .int 0 0, .int 3 0, .ref 197, .bool true, .int 181 0, .ref 198, .none, .ref 199, .ref 200, .ref 201, .int 542 0, .int 170 0, .str (Str.ofString "/claim/cut.py") 543] }) ::
  (nat_lit 203, { cls := .type "function", data := .func { name := Str.ofString "_law_refusal", qualname := Str.ofString "_law_refusal", params := (fA (nth MB 19)), body := .stmts (fB (nth MB 19)), scope := (fS (nth MB 19)), globals := 3, closure := [], defaults := .none, kwdefaults := .none, pyModule := .str (Str.ofString "law_pc0028_01") 488, code := .ref 202 } }) ::
  (nat_lit 207, { cls := .type "code", data := .fields #[.str (Str.ofString "law") 545, .str (Str.ofString "law") 546, .str (Str.ofString "/claim/cut.py") 547, .int 181 0, .int 1 0, .int 0 0, .int 0 0, .int 3 0, .ref 204, .bool true, .int 181 0, .ref 205, .none, .none, .none, .ref 206, .int 548 0, .int 181 0, .str (Str.ofString "/claim/cut.py") 549] }) ::
  (nat_lit 208, { cls := .type "function", data := .func { name := Str.ofString "law", qualname := Str.ofString "law", params := (fA (nth MB 20)), body := .stmts (fB (nth MB 20)), scope := (fS (nth MB 20)), globals := 3, closure := [], defaults := .none, kwdefaults := .none, pyModule := .str (Str.ofString "law_pc0028_01") 488, code := .ref 207 } }) :: []) : List (Nat × Obj))) rfl

set_option maxHeartbeats 8000000 in
theorem fill_ : PySem.Challenge.rw_pc0028_01 = PySem.Challenge.rw_pc0028_01 ∧ Mine.KK = Mine.KK := by
  k_fill
  exact ⟨rfl, rfl⟩
section
open PySem PySem.W PyProof.Rows PySem.Calls
abbrev Led := List (Addr × Obj)
abbrev Vars := PySem.Str → Option Value
noncomputable abbrev PR : Program := PySem.Challenge.rw_pc0028_01.row.prog

structure Cfg where
  A : Around
  h₀ : Heap
  L : Addr
  gs : Array GenState
  dr : Drawn
  os : OsState
  E : Value → Shared → Prop
  env : Env
  outer : List Env
  base : Heap
  A₀ : Around
  mean : ExcName → Option Value
  mg : Vars
  mb : Vars
  pv : Program
  ls : List PySem.Str

def Post (c : Cfg) {α : Type} (Q : α → Vars → Led → Prop) (a : α) (s' : Shared) : Prop :=
  ∃ m' l' h' tk', s' = ⟨h', c.gs, c.dr, tk', c.os⟩ ∧ Fr c.h₀ c.L h' m' ∧ News c.h₀ c.L h' l' ∧ Q a m' l'

def J (w : World) (c : Cfg) {α : Type} (t : Sem α) (Q : α → Vars → Led → Prop) (m : Vars) (l : Led) : Prop :=
  ∀ h tk, Fr c.h₀ c.L h m → News c.h₀ c.L h l → wpAny (model PR w) c.A t (Post c Q) c.E ⟨h, c.gs, c.dr, tk, c.os⟩

structure Good (w : World) (c : Cfg) (k : Nat) : Prop where
  B : Below c.A₀ c.base c.outer c.h₀
  X : (Mine.KK w.params).In c.h₀
  T : Top c.pv c.ls c.mean c.mg c.mb c.h₀
  hA : c.A.frames = some (c.env :: c.outer)
  hf : c.env.frame = some c.L
  hk : c.env.scope.kind = .function
  hh : c.A.handled = none
  hd : c.A.depth + k < 990
  hu : c.A.units + 8 * k < 9800
  hp : PassesOwn (model PR w) c.A c.env c.E

section
variable {w : World} {c : Cfg} {α β : Type} {m : Vars} {l l' : Led} {k : Nat}

theorem post_intro {Q : α → Vars → Led → Prop} {a : α} {h' : Heap} {tk' : Nat} {m' : Vars} (F : Fr c.h₀ c.L h' m') (N : News c.h₀ c.L h' l') (q : Q a m' l') :
    Post c Q a ⟨h', c.gs, c.dr, tk', c.os⟩ := ⟨m', l', h', tk', rfl, F, N, q⟩

theorem J.use {t : Sem α} {Q : α → Vars → Led → Prop} (hj : J w c t Q m l) {h : Heap} {tk : Nat} (F : Fr c.h₀ c.L h m) (N : News c.h₀ c.L h l) {R : α → Shared → Prop}
    (k : ∀ a m' l' h' tk', Fr c.h₀ c.L h' m' → News c.h₀ c.L h' l' → Q a m' l' → R a ⟨h', c.gs, c.dr, tk', c.os⟩) : wpAny (model PR w) c.A t R c.E ⟨h, c.gs, c.dr, tk, c.os⟩ :=
  wpAny_mono (hj h tk F N) (fun a s' ⟨m', l', h', tk', e, F', N', q⟩ => e ▸ k a m' l' h' tk' F' N' q) fun _ _ x => x

/-- then: the nested continuation -/
theorem J.next {t : Sem α} {u : α → Sem β} {Q : β → Vars → Led → Prop} (hj : J w c t (fun a m l => J w c (u a) Q m l) m l) {h : Heap} {tk : Nat} (F : Fr c.h₀ c.L h m) (N : News c.h₀ c.L h l) :
    wpAny (model PR w) c.A t (fun a s' => wpAny (model PR w) c.A (u a) (Post c Q) c.E s') c.E ⟨h, c.gs, c.dr, tk, c.os⟩ :=
  hj.use F N fun a m' l' h' tk' F' N' q => q h' tk' F' N'

theorem J.mono {t : Sem α} {Q Q' : α → Vars → Led → Prop} (hj : J w c t Q m l) (hq : ∀ a m l, Q a m l → Q' a m l) : J w c t Q' m l :=
  fun _ _ F N => hj.use F N fun _ _ _ _ _ F' N' q => post_intro F' N' (hq _ _ _ q)

theorem J.sub {t : Sem α} {Q : α → Vars → Led → Prop} (hj : J w c t Q m l') (hs : ∀ p ∈ l', p ∈ l) : J w c t Q m l :=
  fun h tk F N => hj h tk F fun p hp => N p (hs p hp)

/-- a fact of the ledger that every heap of it bears -/
theorem J.fact {t : Sem α} {Q : α → Vars → Led → Prop} {P : Prop} (hP : ∀ h, Fr c.h₀ c.L h m → News c.h₀ c.L h l → P) (hj : P → J w c t Q m l) : J w c t Q m l :=
  fun h tk F N => hj (hP h F N) h tk F N

theorem J_bind {t : Sem α} {f : α → Sem β} {Q : β → Vars → Led → Prop} (hj : J w c t (fun a m l => J w c (f a) Q m l) m l) : J w c (t >>= f) Q m l :=
  fun _ _ F N => wpAny_bind (hj.next F N)
theorem J_pure {a : α} {Q : α → Vars → Led → Prop} (h : Q a m l) : J w c (pure a) Q m l := fun _ _ F N => wpAny_pure (post_intro F N h)

/-! what follows, by name -/
abbrev KV := Value → Vars → Led → Prop
abbrev KF := Flow → Vars → Led → Prop
abbrev KB := Bool → Vars → Led → Prop
@[reducible] def KNx {α : Type} (Q : KF) : α → Vars → Led → Prop := fun _ m l => Q .next m l
@[reducible] def KCons (w : World) (c : Cfg) (env : Env) (rest : List Stmt) (Q : KF) : KF := fun f m l => match f with | .next => J w c (execs rest env) Q m l | f => Q f m l
@[reducible] def KRet (Q : KF) : KV := fun v m l => Q (.ret v) m l
@[reducible] def KSto (w : World) (c : Cfg) (env : Env) (x : PySem.Str) (Q : KF) : KV := fun v m l => J w c (storeName env x v) (KNx Q) m l
@[reducible] def KAsT (w : World) (c : Cfg) (env : Env) (e : Expr) (Q : KF) : KV := fun v m l => J w c (assign e env v) (KNx Q) m l
@[reducible] def KAio (w : World) (c : Cfg) (env : Env) (names : List PySem.Str) (Q : KF) : List Value → Vars → Led → Prop := fun items m l => J w c (assignInOrder (names.reverse.map fun n => bindName env n) items.reverse) (KNx Q) m l
@[reducible] def KUnp (w : World) (c : Cfg) (env : Env) (names : List PySem.Str) (Q : KF) : KV := fun v m l => J w c (unpackItems v names.length none) (KAio w c env names Q) m l
@[reducible] def KSA2 (w : World) (c : Cfg) (attr : PySem.Str) (Q : KF) (v : Value) : KV := fun ov m l => J w c (setAttr ov attr v) (KNx Q) m l
@[reducible] def KSA (w : World) (c : Cfg) (env : Env) (o : Expr) (attr : PySem.Str) (Q : KF) : KV := fun v m l => J w c (eval o env) (KSA2 w c attr Q v) m l
@[reducible] def KSS3 (w : World) (c : Cfg) (Q : KF) (v ov : Value) : KV := fun iv m l => J w c (setItem ov iv v) (KNx Q) m l
@[reducible] def KSS2 (w : World) (c : Cfg) (env : Env) (i : Expr) (Q : KF) (v : Value) : KV := fun ov m l => J w c (eval i env) (KSS3 w c Q v ov) m l
@[reducible] def KSS (w : World) (c : Cfg) (env : Env) (o i : Expr) (Q : KF) : KV := fun v m l => J w c (eval o env) (KSS2 w c env i Q v) m l
@[reducible] def KAg2 (w : World) (c : Cfg) (env : Env) (x : PySem.Str) (op : Operator) (Q : KF) (old : Value) : KV := fun v m l => J w c (inplaceOp op old v) (KSto w c env x Q) m l
@[reducible] def KAg (w : World) (c : Cfg) (env : Env) (x : PySem.Str) (op : Operator) (value : Expr) (Q : KF) : KV := fun old m l => J w c (eval value env) (KAg2 w c env x op Q old) m l
@[reducible] def KAA3 (w : World) (c : Cfg) (attr : PySem.Str) (Q : KF) (ov : Value) : KV := fun r m l => J w c (setAttr ov attr r) (KNx Q) m l
@[reducible] def KAA2 (w : World) (c : Cfg) (attr : PySem.Str) (op : Operator) (Q : KF) (ov old : Value) : KV := fun v m l => J w c (inplaceOp op old v) (KAA3 w c attr Q ov) m l
@[reducible] def KAA1 (w : World) (c : Cfg) (env : Env) (attr : PySem.Str) (op : Operator) (value : Expr) (Q : KF) (ov : Value) : KV := fun old m l => J w c (eval value env) (KAA2 w c attr op Q ov old) m l
@[reducible] def KAA (w : World) (c : Cfg) (env : Env) (attr : PySem.Str) (op : Operator) (value : Expr) (Q : KF) : KV := fun ov m l => J w c (getAttr ov attr true) (KAA1 w c env attr op value Q ov) m l
@[reducible] def KIf (w : World) (c : Cfg) (env : Env) (body orelse : List Stmt) (Q : KF) : KB := fun b m l => if b = true then J w c (execs body env) Q m l else J w c (execs orelse env) Q m l
@[reducible] def KBo2 (w : World) (c : Cfg) (op : Operator) (Q : KV) (u : Value) : KV := fun v m l => J w c (binaryOp op u v) Q m l
@[reducible] def KBo (w : World) (c : Cfg) (env : Env) (op : Operator) (b : Expr) (Q : KV) : KV := fun u m l => J w c (eval b env) (KBo2 w c op Q u) m l
@[reducible] def KUn (w : World) (c : Cfg) (op : UnaryOp) (Q : KV) : KV := fun u m l => J w c (unaryOp op u) Q m l
@[reducible] def KCm2 (w : World) (c : Cfg) (op : CmpOp) (Q : KV) (u : Value) : KV := fun v m l => J w c (compareOp op u v) Q m l
@[reducible] def KCm (w : World) (c : Cfg) (env : Env) (op : CmpOp) (b : Expr) (Q : KV) : KV := fun u m l => J w c (eval b env) (KCm2 w c op Q u) m l
@[reducible] def KTr (w : World) (c : Cfg) (Q : KB) : KV := fun r m l => J w c (truthy r) Q m l
@[reducible] def KTA (w : World) (c : Cfg) (env : Env) (rest : List Expr) (pos : Pos) (whole : Sem Value) (Q : KB) : KB := fun b m l => if b = true then J w c (isTrue (.BoolOp .And rest pos) env whole) Q m l else Q false m l
@[reducible] def KAn2 (w : World) (c : Cfg) (env : Env) (rest : List Expr) (pos : Pos) (Q : KV) (v : Value) : KB := fun b m l => if b = true then J w c (eval (.BoolOp .And rest pos) env) Q m l else Q v m l
@[reducible] def KAn (w : World) (c : Cfg) (env : Env) (rest : List Expr) (pos : Pos) (Q : KV) : KV := fun v m l => J w c (truthy v) (KAn2 w c env rest pos Q v) m l
@[reducible] def KOr2 (w : World) (c : Cfg) (env : Env) (rest : List Expr) (pos : Pos) (Q : KV) (v : Value) : KB := fun b m l => if b = true then Q v m l else J w c (eval (.BoolOp .Or rest pos) env) Q m l
@[reducible] def KOr (w : World) (c : Cfg) (env : Env) (rest : List Expr) (pos : Pos) (Q : KV) : KV := fun v m l => J w c (truthy v) (KOr2 w c env rest pos Q v) m l
@[reducible] def KIx (w : World) (c : Cfg) (env : Env) (a b : Expr) (Q : KV) : KB := fun r m l => if r = true then J w c (eval a env) Q m l else J w c (eval b env) Q m l
@[reducible] def KTI (w : World) (c : Cfg) (env : Env) (a b : Expr) (Q : KB) : KB := fun r m l => if r = true then J w c (isTrue a env (eval a env)) Q m l else J w c (isTrue b env (eval b env)) Q m l
@[reducible] def KTu (w : World) (c : Cfg) (Q : KV) : List Value → Vars → Led → Prop := fun vs m l => J w c (newTuple vs) Q m l
@[reducible] def KLi (w : World) (c : Cfg) (Q : KV) : List Value → Vars → Led → Prop := fun vs m l => J w c (newList vs) Q m l
@[reducible] def KSp2 (Q : List Value → Vars → Led → Prop) (v : Value) : List Value → Vars → Led → Prop := fun vs m l => Q (v :: vs) m l
@[reducible] def KSp (w : World) (c : Cfg) (env : Env) (rest : List Expr) (pos : Pos) (Q : List Value → Vars → Led → Prop) : KV := fun v m l => J w c (spliced (backTo pos (starEach rest env))) (KSp2 Q v) m l
@[reducible] def KSu2 (w : World) (c : Cfg) (value slice : Expr) (Q : KV) (o : Value) : KV := fun i m l => J w c (subscriptTail value slice o i) Q m l
@[reducible] def KSu (w : World) (c : Cfg) (env : Env) (value slice : Expr) (Q : KV) : KV := fun o m l => J w c (eval slice env) (KSu2 w c value slice Q o) m l
@[reducible] def KAt (w : World) (c : Cfg) (attr : PySem.Str) (Q : KV) : KV := fun o m l => J w c (getAttr o attr true) Q m l
variable {env : Env}
theorem J_cons {st : Stmt} {rest : List Stmt} {Q : KF} (h : J w c (exec st env) (KCons w c env rest Q) m l) : J w c (execs (st :: rest) env) Q m l :=
  fun _ _ F N => wpAny_execs_cons (h.use F N fun a m' l' h' tk' F' N' q => by
    cases a <;> first | exact q _ _ F' N' | exact post_intro F' N' q)
theorem J_nil {Q : KF} (h : Q .next m l) : J w c (execs [] env) Q m l := fun _ _ F N => wpAny_execs_nil (post_intro F N h)
theorem J_ret {e : Expr} {pos : Pos} {Q : KF} (h : J w c (eval e env) (KRet Q) m l) : J w c (exec (.Return (some e) pos) env) Q m l :=
  fun _ _ F N => wpAny_Return_some (h.use F N fun _ _ _ _ _ F' N' q => post_intro F' N' q)
theorem J_ret0 {pos : Pos} {Q : KF} (h : Q (.ret .none) m l) : J w c (exec (.Return none pos) env) Q m l :=
  fun _ _ F N => wpAny_Return_none (post_intro F N h)
theorem J_cont {pos : Pos} {Q : KF} (h : Q .cont m l) : J w c (exec (.Continue pos) env) Q m l :=
  fun _ _ F N => wpAny_Continue (post_intro F N h)
theorem J_expr {e : Expr} {pos : Pos} {Q : KF} (h : J w c (eval e env) (KNx Q) m l) (hi : interactive env = false := by rfl) (hs : swapsWith e none pos.line env = pure false := by rfl) : J w c (exec (.Expr e pos) env) Q m l :=
  fun _ _ F N => wpAny_Expr_any (h.use F N fun _ _ _ _ _ F' N' q => post_intro F' N' q) hi hs
theorem J_asgN {x : PySem.Str} {pos' pos : Pos} {value : Expr} {Q : KF} (h : J w c (eval value env) (KSto w c env x Q) m l)
    (hs : swapsWith value (some (.Name x pos')) pos.line env = pure false := by rfl) : J w c (exec (.Assign [.Name x pos'] value pos) env) Q m l :=
  fun _ _ F N => wpAny_Assign_Name (h.use F N fun _ _ _ _ _ F' N' q => q.use F' N' fun _ _ _ _ _ F' N' q => post_intro F' N' q) hs
theorem J_asgT {elts : List Expr} {k : Nat} {tpos pos : Pos} {value : Expr} {Q : KF} (h : J w c (eval value env) (KAsT w c env (.Tuple elts k tpos) Q) m l)
    (hs : swapsWithSole [.Tuple elts k tpos] value pos.line env = pure false := by rfl) (hw : swappedStores [.Tuple elts k tpos] value env = pure none := by rfl) : J w c (exec (.Assign [.Tuple elts k tpos] value pos) env) Q m l :=
  fun _ _ F N => Assign_Tuple (h.use F N fun _ _ _ _ _ F' N' q => q.use F' N' fun _ _ _ _ _ F' N' q => post_intro F' N' q) hs hw
theorem J_asgTs {elts : List Expr} {k : Nat} {tpos pos : Pos} {value : Expr} {names : List PySem.Str} {Q : KF} (h : J w c (eval value env) (KUnp w c env names Q) m l)
    (hs : swapsWithSole [.Tuple elts k tpos] value pos.line env = pure false := by rfl) (hw : swappedStores [.Tuple elts k tpos] value env = pure (some names) := by rfl) : J w c (exec (.Assign [.Tuple elts k tpos] value pos) env) Q m l :=
  fun _ _ F N => Assign_Tuple_swapped (h.use F N fun _ _ _ _ _ F' N' q => q.use F' N' fun _ _ _ _ _ F' N' q => q.use F' N' fun _ _ _ _ _ F' N' q => post_intro F' N' q) hs hw
theorem J_asgA {o value : Expr} {attr : PySem.Str} {pos' pos : Pos} {Q : KF} (h : J w c (eval value env) (KSA w c env o attr Q) m l)
    (hs : swapsWith value (some (.Attribute o attr pos')) pos.line env = pure false := by rfl) : J w c (exec (.Assign [.Attribute o attr pos'] value pos) env) Q m l :=
  fun _ _ F N => plainObj_wpAny_Assign_Attribute (h.use F N fun _ _ _ _ _ F' N' q => q.use F' N' fun _ _ _ _ _ F' N' q => q.use F' N' fun _ _ _ _ _ F' N' q => post_intro F' N' q) hs
theorem J_asgS {o i value : Expr} {pos' pos : Pos} {Q : KF} (h : J w c (eval value env) (KSS w c env o i Q) m l)
    (hs : swapsWith value (some (.Subscript o i pos')) pos.line env = pure false := by rfl) : J w c (exec (.Assign [.Subscript o i pos'] value pos) env) Q m l :=
  fun _ _ F N => wpAny_Assign_Subscript (h.use F N fun _ _ _ _ _ F' N' q => q.use F' N' fun _ _ _ _ _ F' N' q => q.use F' N' fun _ _ _ _ _ F' N' q => q.use F' N' fun _ _ _ _ _ F' N' q => post_intro F' N' q) hs
theorem J_aug {x : PySem.Str} {op : Operator} {pos' pos : Pos} {value : Expr} {Q : KF} (h : J w c (loadName env x) (KAg w c env x op value Q) m l) :
    J w c (exec (.AugAssign (.Name x pos') op value pos) env) Q m l :=
  fun _ _ F N => wpAny_AugAssign_Name (h.use F N fun _ _ _ _ _ F' N' q => q.use F' N' fun _ _ _ _ _ F' N' q => q.use F' N' fun _ _ _ _ _ F' N' q => q.use F' N' fun _ _ _ _ _ F' N' q => post_intro F' N' q)
theorem J_augA {o value : Expr} {attr : PySem.Str} {op : Operator} {tpos pos : Pos} {Q : KF} (h : J w c (eval o env) (KAA w c env attr op value Q) m l) :
    J w c (exec (.AugAssign (.Attribute o attr tpos) op value pos) env) Q m l :=
  fun _ _ F N => wpAny_AugAssign_AttributeAny (h.use F N fun _ _ _ _ _ F' N' q => q.use F' N' fun _ _ _ _ _ F' N' q => q.use F' N' fun _ _ _ _ _ F' N' q => q.use F' N' fun _ _ _ _ _ F' N' q => q.use F' N' fun _ _ _ _ _ F' N' q => post_intro F' N' q)
theorem J_if {test : Expr} {body orelse : List Stmt} {pos : Pos} {Q : KF} (h : J w c (isTrue test env (eval test env)) (KIf w c env body orelse Q) m l) : J w c (exec (.If test body orelse pos) env) Q m l :=
  fun _ _ F N => wpAny_If (h.use F N fun b _ _ _ _ F' N' q => by cases b <;> exact q _ _ F' N')
/-! expressions -/
theorem J_int {i : Int} {k : Nat} {pos : Pos} {Q : KV} (h : ∀ t, Q (.int i t) m l) : J w c (eval (.Constant (.int i) k pos) env) Q m l := fun _ _ F N => wpAny_Constant_int (post_intro F N (h _))
theorem J_str {x : PySem.Str} {k : Nat} {pos : Pos} {Q : KV} (h : ∀ t, Q (.str x t) m l) : J w c (eval (.Constant (.str x) k pos) env) Q m l := fun _ _ F N => Constant_str (post_intro F N (h _))
theorem J_none {k : Nat} {pos : Pos} {Q : KV} (h : Q .none m l) : J w c (eval (.Constant .none k pos) env) Q m l := fun _ _ F N => Constant_none (post_intro F N h)
theorem J_bool {b : Bool} {k : Nat} {pos : Pos} {Q : KV} (h : Q (.bool b) m l) : J w c (eval (.Constant (.bool b) k pos) env) Q m l := fun _ _ F N => Constant_bool (post_intro F N h)
theorem J_bin {a b : Expr} {op : Operator} {pos : Pos} {Q : KV} (h : J w c (eval a env) (KBo w c env op b Q) m l) : J w c (eval (.BinOp a op b pos) env) Q m l :=
  fun _ _ F N => wpAny_BinOp (h.use F N fun _ _ _ _ _ F' N' q => q.next F' N')
theorem J_un {a : Expr} {op : UnaryOp} {pos : Pos} {Q : KV} (h : J w c (eval a env) (KUn w c op Q) m l) : J w c (eval (.UnaryOp op a pos) env) Q m l :=
  fun _ _ F N => UnaryOp_ (h.next F N)
theorem J_cmp {a b : Expr} {op : CmpOp} {pos : Pos} {Q : KV} (h : J w c (eval a env) (KCm w c env op b Q) m l) (hm : behindInMarks op b = false := by with_unfolding_all rfl) : J w c (eval (.Compare a [op] [b] pos) env) Q m l :=
  fun _ _ F N => wpAny_Compare1 (h.use F N fun _ _ _ _ _ F' N' q => q.next F' N') hm
theorem J_tcmp {a b : Expr} {op : CmpOp} {pos : Pos} {whole : Sem Value} {Q : KB} (h : J w c (eval a env) (KCm w c env op b (KTr w c Q)) m l) (hm : behindInMarks op b = false := by with_unfolding_all rfl) : J w c (isTrue (.Compare a [op] [b] pos) env whole) Q m l :=
  fun _ _ F N => wpAny_isTrue_Compare1 (h.use F N fun _ _ _ _ _ F' N' q => q.use F' N' fun _ _ _ _ _ F' N' q => q.next F' N') hm
theorem J_tand0 {pos : Pos} {whole : Sem Value} {Q : KB} (h : Q true m l) : J w c (isTrue (.BoolOp .And [] pos) env whole) Q m l := fun _ _ F N => isTrue_and_nil (post_intro F N h)
theorem J_tand {x : Expr} {rest : List Expr} {pos : Pos} {whole : Sem Value} {Q : KB} (h : J w c (isTrue x env (eval x env)) (KTA w c env rest pos whole Q) m l) : J w c (isTrue (.BoolOp .And (x :: rest) pos) env whole) Q m l :=
  fun _ _ F N => isTrue_and (h.use F N fun b _ _ _ _ F' N' q => by cases b <;> first | exact q _ _ F' N' | exact post_intro F' N' q)
theorem J_and {e₁ e₂ : Expr} {rest : List Expr} {pos : Pos} {Q : KV} (h : J w c (eval e₁ env) (KAn w c env (e₂ :: rest) pos Q) m l) : J w c (eval (.BoolOp .And (e₁ :: e₂ :: rest) pos) env) Q m l :=
  fun _ _ F N => BoolOp_and (h.use F N fun _ _ _ _ _ F' N' q => q.use F' N' fun b _ _ _ _ F' N' q => by cases b <;> first | exact q _ _ F' N' | exact post_intro F' N' q)
theorem J_or {e₁ e₂ : Expr} {rest : List Expr} {pos : Pos} {Q : KV} (h : J w c (eval e₁ env) (KOr w c env (e₂ :: rest) pos Q) m l) : J w c (eval (.BoolOp .Or (e₁ :: e₂ :: rest) pos) env) Q m l :=
  fun _ _ F N => BoolOp_or (h.use F N fun _ _ _ _ _ F' N' q => q.use F' N' fun b _ _ _ _ F' N' q => by cases b <;> first | exact q _ _ F' N' | exact post_intro F' N' q)
theorem J_bone {op : BoolOp} {e : Expr} {pos : Pos} {Q : KV} (h : J w c (eval e env) Q m l) : J w c (eval (.BoolOp op [e] pos) env) Q m l := fun _ _ F N => BoolOp_one (h _ _ F N)
theorem J_ifx {test a b : Expr} {pos : Pos} {Q : KV} (h : J w c (isTrue test env (eval test env)) (KIx w c env a b Q) m l) : J w c (eval (.IfExp test a b pos) env) Q m l :=
  fun _ _ F N => IfExp_ (h.use F N fun b _ _ _ _ F' N' q => by cases b <;> exact q _ _ F' N')
theorem J_tuple {elts : List Expr} {k : Nat} {pos : Pos} {Q : KV} (h : J w c (spliced (backTo pos (starEach elts env))) (KTu w c Q) m l) : J w c (eval (.Tuple elts k pos) env) Q m l :=
  fun _ _ F N => Tuple_ (h.next F N)
theorem J_list {elts : List Expr} {pos : Pos} {Q : KV} (h : J w c (spliced (backTo pos (starEach elts env))) (KLi w c Q) m l) : J w c (eval (.List elts pos) env) Q m l :=
  fun _ _ F N => List_ (h.next F N)
theorem J_sp {e : Expr} {rest : List Expr} {pos : Pos} {Q : List Value → Vars → Led → Prop} (h : J w c (eval e env) (KSp w c env rest pos Q) m l)
    (he : starEach (e :: rest) env = (false, eval e env) :: starEach rest env := by rfl) : J w c (spliced (backTo pos (starEach (e :: rest) env))) Q m l :=
  fun _ _ F N => spliced_more (h.use F N fun _ _ _ _ _ F' N' q => q.use F' N' fun _ _ _ _ _ F' N' q => post_intro F' N' q) he
theorem J_sp0 {pos : Pos} {Q : List Value → Vars → Led → Prop} (h : Q [] m l) : J w c (spliced (backTo pos (starEach [] env))) Q m l := fun _ _ F N => spliced_none (post_intro F N h)
theorem J_subs {value slice : Expr} {pos : Pos} {Q : KV} (h : J w c (eval value env) (KSu w c env value slice Q) m l) : J w c (eval (.Subscript value slice pos) env) Q m l :=
  fun _ _ F N => Subscript_ (h.use F N fun _ _ _ _ _ F' N' q => q.next F' N')
theorem J_attr {x attr : PySem.Str} {xp pos : Pos} {Q : KV} (h : J w c (eval (.Name x xp) env) (KAt w c attr Q) m l) : J w c (eval (.Attribute (.Name x xp) attr pos) env) Q m l :=
  fun _ _ F N => Attribute_Name_ (h.next F N)
theorem J_tplain {e : Expr} {whole : Sem Value} {Q : KB} (h : J w c whole (KTr w c Q) m l)
    (he : isTrue e env whole = (do let v ← whole; standAt e.pos; holding [v] (truthy v)) := by rfl) : J w c (isTrue e env whole) Q m l :=
  fun _ _ F N => isTrue_plain (h.next F N) he
theorem J_tifx {test a b : Expr} {pos : Pos} {whole : Sem Value} {Q : KB} (h : J w c (isTrue test env (eval test env)) (KTI w c env a b Q) m l) : J w c (isTrue (.IfExp test a b pos) env whole) Q m l :=
  fun _ _ F N => isTrue_IfExp (h.use F N fun b _ _ _ _ F' N' q => by cases b <;> exact q _ _ F' N')
theorem J_tb {b : Bool} {Q : KB} (h : Q b m l) : J w c (truthy (.bool b)) Q m l := fun _ _ F N => wpAny_truthy_bool (post_intro F N h)
end


end

section
open PySem PySem.W PyProof.Rows PySem.Calls
theorem ite_bf {b : Bool} {p q : Prop} (e : b = false) (h : q) : if b = true then p else q := by subst e; rw [if_neg (by decide)]; exact h
theorem ite_bt {b : Bool} {p q : Prop} (e : b = true) (h : p) : if b = true then p else q := by subst e; rw [if_pos rfl]; exact h
theorem ite_t {a b : Prop} (h : a) : if true = true then a else b := by rw [if_pos rfl]; exact h
theorem ite_f {a b : Prop} (h : b) : if false = true then a else b := by rw [if_neg (by decide)]; exact h
theorem ite_dt {P a b : Prop} [Decidable P] (hp : P) (h : a) : if decide P = true then a else b := by rw [if_pos (decide_eq_true hp)]; exact h
theorem ite_df {P a b : Prop} [Decidable P] (hp : ¬ P) (h : b) : if decide P = true then a else b := by rw [if_neg (by simp [hp])]; exact h
def up (m : Vars) (x : PySem.Str) (v : Value) : Vars := fun y => if y = x then some v else m y
theorem up_same {m : Vars} {x : PySem.Str} {v : Value} : up m x v x = some v := by simp [up]
theorem up_ne {m : Vars} {x y : PySem.Str} {v : Value} {r : Option Value} (h : y ≠ x) (e : m y = r) : up m x v y = r := by simp only [up, if_neg h, e]
section
variable {w : World} {c : Cfg} {α β : Type} {m : Vars} {l l' : Led} {k : Nat} {cn : PySem.Str} {cs : Scope} {a : Addr} {ccd : Value}

theorem J_loc {x : PySem.Str} {pos : Pos} {v : Value} {Q : Value → Vars → Led → Prop} (hv : m x = some v) (h : Q v m l)
    (hk : cs.kind = .function := by rfl) (hl : (envOf cn cs c.L a ccd).kindOf x = some .local := by rfl) (hd : (x == ("__debug__" : PySem.Str)) = false := by decide) : J w c (eval (.Name x pos) (envOf cn cs c.L a ccd)) Q m l :=
  fun _ _ F N => ld F hv (post_intro F N h) hk hl hd
theorem J_ldn {x : PySem.Str} {v : Value} {Q : Value → Vars → Led → Prop} (hv : m x = some v) (h : Q v m l)
    (hk : cs.kind = .function := by rfl) (hl : (envOf cn cs c.L a ccd).kindOf x = some .local := by rfl) : J w c (loadName (envOf cn cs c.L a ccd) x) Q m l :=
  fun _ _ F N => ldn F hv (post_intro F N h) hk hl
theorem J_st {x : PySem.Str} {v : Value} {Q : Unit → Vars → Led → Prop} (h : Q () (up m x v) l)
    (hk : cs.kind = .function := by rfl) (hl : (envOf cn cs c.L a ccd).kindOf x = some .local := by rfl) : J w c (storeName (envOf cn cs c.L a ccd) x v) Q m l :=
  fun _ _ F N => stN F N (fun h' F' N' => post_intro F' N' h) hk hl
theorem J_bn {x : PySem.Str} {v : Value} {Q : Unit → Vars → Led → Prop} (h : Q () (up m x v) l)
    (hk : cs.kind = .function := by rfl) (hl : (envOf cn cs c.L a ccd).kindOf x = some .local := by rfl) : J w c (bindName (envOf cn cs c.L a ccd) x v) Q m l :=
  fun _ _ F N => wpAny_bindName (stN F N (fun h' F' N' => post_intro F' N' h) hk hl)
theorem J_an {x : PySem.Str} {pos : Pos} {v : Value} {Q : Unit → Vars → Led → Prop} (h : Q () (up m x v) l)
    (hk : cs.kind = .function := by rfl) (hl : (envOf cn cs c.L a ccd).kindOf x = some .local := by rfl) : J w c (assign (.Name x pos) (envOf cn cs c.L a ccd) v) Q m l :=
  fun _ _ F N => assign_Name (stN F N (fun h' F' N' => post_intro F' N' h) hk hl)
theorem J_glob (G : Good w c k) {x : PySem.Str} {pos : Pos} {v : Value} {Q : Value → Vars → Led → Prop} (e : nsIn (Mine.KK w.params) mainGlobals x = some (some v)) (h : Q v m l)
    (hk : cs.kind = .function := by rfl) (hx : (envOf cn cs c.L a ccd).kindOf x = some .globalImplicit := by rfl) (hd : (x == ("__debug__" : PySem.Str)) = false := by decide) : J w c (eval (.Name x pos) (envOf cn cs c.L a ccd)) Q m l :=
  fun _ _ F N => name_K F G.X (topRead_of G.T) e (post_intro F N h) hk hx hd
theorem J_blt (G : Good w c k) {x : PySem.Str} {pos : Pos} {v : Value} {Q : Value → Vars → Led → Prop} (e : nsIn (Mine.KK w.params) mainGlobals x = some none) (hv : bootBuiltins x = some v) (h : Q v m l)
    (hn : x ≠ "__name__" := by decide) (hk : cs.kind = .function := by rfl) (hx : (envOf cn cs c.L a ccd).kindOf x = some .globalImplicit := by rfl) (hd : (x == ("__debug__" : PySem.Str)) = false := by decide) : J w c (eval (.Name x pos) (envOf cn cs c.L a ccd)) Q m l :=
  fun _ _ F N => name_B F G.X (topRead_of G.T) e hv hn (post_intro F N h) hk hx hd
/-! ints -/
variable {i j : Int} {t u : Tok} {Q : Value → Vars → Led → Prop}
theorem J_add (h : ∀ t, Q (.int (i + j) t) m l) : J w c (binaryOp .Add (.int i t) (.int j u)) Q m l := fun _ _ F N => PyProof.Rows.add_int (post_intro F N (h _))
theorem J_iadd (h : ∀ t, Q (.int (i + j) t) m l) : J w c (inplaceOp .Add (.int i t) (.int j u)) Q m l := fun _ _ F N => PyProof.Rows.iadd_int (post_intro F N (h _))
theorem J_sub_ (h : ∀ t, Q (.int (i - j) t) m l) : J w c (binaryOp .Sub (.int i t) (.int j u)) Q m l := fun _ _ F N => PyProof.Rows.sub_int' (post_intro F N (h _))
theorem J_mul (hm : IntMulOk i j) (h : ∀ t, Q (.int (i * j) t) m l) : J w c (binaryOp .Mult (.int i t) (.int j u)) Q m l := fun _ _ F N => PyProof.Rows.mul_int (post_intro F N (h _)) hm
theorem J_mod (hj : j ≠ 0) (h : ∀ t, Q (.int (i.fmod j) t) m l) : J w c (binaryOp .Mod (.int i t) (.int j u)) Q m l := fun _ _ F N => PyProof.Rows.mod_int' hj (post_intro F N (h _))
theorem J_lt (h : Q (.bool (decide (i < j))) m l) : J w c (compareOp .Lt (.int i t) (.int j u)) Q m l := fun _ _ F N => PyProof.Rows.lt_int (post_intro F N h)
theorem J_gt (h : Q (.bool (decide (j < i))) m l) : J w c (compareOp .Gt (.int i t) (.int j u)) Q m l := fun _ _ F N => PyProof.Rows.gt_int (post_intro F N h)
theorem J_eqi (h : Q (.bool (i == j)) m l) : J w c (compareOp .Eq (.int i t) (.int j u)) Q m l := fun _ _ F N => PyProof.Rows.eq_int (post_intro F N h)
theorem J_nei (h : Q (.bool (i != j)) m l) : J w c (compareOp .NotEq (.int i t) (.int j u)) Q m l := fun _ _ F N => PyProof.Rows.ne_int (post_intro F N h)
theorem J_lenL {d : Addr} {its : Array Value} {n : Nat} (hm : (d, W.listOf its n) ∈ l) (hz : its.size < 2 ^ 40) (h : ∀ t, Q (.int its.size t) m l) : J w c (call (.builtin "len") [.ref d]) Q m l :=
  fun _ _ F N => PyProof.Rows.len_list (N.isList hm) (by have : (2:Int)^40 < 2^63 := by decide
                                                         omega) (post_intro F N (h _))
theorem J_itemL {value slice : Expr} {d : Addr} {its : Array Value} {n : Nat} {v : Value} (hm : (d, W.listOf its n) ∈ l) (h0 : 0 ≤ i) (hhi : i < 2 ^ 63) (hx : its[i.toNat]? = some v) (h : Q v m l)
    (hs : subscripted slice false (.ref d) (.int i t) = operate [.ref d, .int i t] (getItem (.ref d) (.int i t)) := by with_unfolding_all rfl) : J w c (subscriptTail value slice (.ref d) (.int i t)) Q m l :=
  fun _ _ F N => tail_any (N.isList hm).typeIs slot_list_getitem.lookup (wpAny_getItem_list (N.isList hm) h0 hhi hx (post_intro F N h)) hs
abbrev tupO (vs : List Value) (n : Nat) : Obj := { cls := .type "tuple", data := .seq vs.toArray n }
theorem tup_isTup {h₀ h : Heap} {L d : Addr} {vs : List Value} {n : Nat} {l : Led} (N : News h₀ L h l) (hm : (d, tupO vs n) ∈ l) : IsTup h d vs.toArray := ⟨_, N.get hm, rfl, n, rfl⟩
theorem J_newT {vs : List Value} (h : ∀ a, (∀ p ∈ l, p.1 < a) → Q (.ref a) m ((a, tupO vs 0) :: l)) (hz : vs.length ≤ 1000 := by decide) : J w c (newTuple vs) Q m l :=
  fun _ _ F N => newTuple_N F N (fun _ F' N' => post_intro F' N' (h _ fun p hp => Heap.lt_size (N p hp).1)) (by rw [PySem.sizeLine_eq]; omega)
theorem J_newL {vs : List Value} (h : ∀ a, (∀ p ∈ l, p.1 < a) → Q (.ref a) m ((a, W.listOf vs.toArray 0) :: l)) (hz : vs.length ≤ 1000 := by decide) : J w c (newList vs) Q m l :=
  fun _ _ F N => newList_K F N (fun _ _ F' N' hl => post_intro F' N' (h _ hl)) (by rw [PySem.sizeLine_eq]; omega)
theorem J_unp (G : Good w c k) {elts : List Expr} {kk : Nat} {pos : Pos} {d : Addr} {vs : List Value} {n : Nat} {env : Env} {Q : Unit → Vars → Led → Prop} (hm : (d, tupO vs n) ∈ l)
    (h : J w c (assignInOrder ((assignEach elts env).map (·.2)) vs) Q m l)
    (hn : (assignEach elts env).length = vs.length := by rfl) (hstar : (assignEach elts env).findIdx? (·.1) = none := by rfl) : J w c (assign (.Tuple elts kk pos) env (.ref d)) Q m l :=
  fun _ _ F N => unpackN_ F N (tup_isTup N hm) G.hh (by simpa using hn) hstar (fun _ F' N' => by simpa using h _ _ F' N')
theorem J_unpI (G : Good w c k) {d : Addr} {vs : List Value} {n nn : Nat} {Q : List Value → Vars → Led → Prop} (hm : (d, tupO vs n) ∈ l) (hn : nn = vs.length) (h : Q vs m l) : J w c (unpackItems (.ref d) nn none) Q m l :=
  fun _ _ F N => unpackItemsN_ F N (tup_isTup N hm) G.hh (by simpa using hn) (fun _ F' N' => post_intro F' N' (by simpa using h))
theorem J_aio {f : Value → Sem Unit} {fs : List (Value → Sem Unit)} {x : Value} {xs : List Value} {Q : Unit → Vars → Led → Prop} (h : J w c (f x) (fun _ m l => J w c (assignInOrder fs xs) Q m l) m l) : J w c (assignInOrder (f :: fs) (x :: xs)) Q m l :=
  fun _ _ F N => by
    show wpAny _ _ (do holding xs (f x); assignInOrder fs xs) _ _ _
    exact wpAny_bind (wpAny_holding (h.next F N))
theorem J_aio0 {Q : Unit → Vars → Led → Prop} (h : Q () m l) : J w c (assignInOrder [] []) Q m l := fun _ _ F N => by
    show wpAny _ _ (pure ()) _ _ _
    exact wpAny_pure (post_intro F N h)
end


end

section
open PySem PySem.W PyProof.Rows PySem.Calls
def retv : Flow → Value
  | .ret v => v
  | _ => .none
/-- c' is the frame of a call made from c -/
structure Callee (w : World) (c : Cfg) (m : Vars) (c' : Cfg) : Prop where
  E : ∀ e s', wpAny (model PR w) c'.A (leaving c'.env e) (fun _ s'' => c.E e s'') (fun e' s'' => c.E e' s'') s' → c'.E e s'
  base : c'.base = c.base
  outer : c'.outer = c.env :: c.outer
  fg : Fr c.h₀ c.L c'.h₀ m
  gs : c'.gs = c.gs
  dr : c'.dr = c.dr
  os : c'.os = c.os
@[reducible] def KCf (w : World) (c : Cfg) (f : Value) (first : List Value) (Q : KV) : List Value → Vars → Led → Prop := fun vs m l => J w c (call f (first ++ vs)) Q m l
@[reducible] def KC0 (w : World) (c : Cfg) (f : Value) (Q : KV) : List Value → Vars → Led → Prop := fun vs m l => J w c (call f vs) Q m l
@[reducible] def KCw (w : World) (c : Cfg) (env : Env) (pos : Pos) (args : List Expr) (Q : KV) : KV := fun f m l => J w c (callWith pos f [] (backTo pos (starEach args env)) []) Q m l
@[reducible] def KMe2 (w : World) (c : Cfg) (env : Env) (pos : Pos) (args : List Expr) (Q : KV) : Value × List Value → Vars → Led → Prop := fun fx m l => J w c (callWith pos fx.1 fx.2 (backTo pos (starEach args env)) []) Q m l
@[reducible] def KMe (w : World) (c : Cfg) (env : Env) (name : PySem.Str) (pl : Sem Bool) (pos : Pos) (args : List Expr) (Q : KV) : KV := fun ov m l => J w c (getMethod ov name pl) (KMe2 w c env pos args Q) m l
section
variable {w : World} {c : Cfg} {α β : Type} {m : Vars} {l l' : Led} {k : Nat}
theorem J_enter (G : Good w c (k + 1)) {oc : Value} {od an : Option Addr} {osl : Array (Option Value)} {name qual : PySem.Str} {params : Arguments} {body : List Stmt} {scope : Scope} {dV kV doc pm cdv ct : Value} {f : Addr} {vs : List Value} {binds : List (PySem.Str × Value)} {Q : Value → Vars → Led → Prop}
    (ho : (Mine.KK w.params).lookup f = some ⟨oc, od, .func (fnOf name qual params body scope dV kV doc pm an cdv ct), osl⟩) (hcd : codeIn (Mine.KK w.params) cdv qual = true)
    (hbind : ∀ s : Shared, (Mine.KK w.params).In s.heap → BindsTo s (fnOf name qual params body scope dV kV doc pm an cdv ct) ⟨vs, []⟩ binds)
    (hloc : (binds.all fun x => decide (scope.names.lookup x.1 = some .local)) = true)
    (h : ∀ c' : Cfg, Good w c' k → Callee w c m c' → c'.env = envOf qual scope c'.L f cdv → J w c' (execs body (envOf qual scope c'.L f cdv)) (fun fl _ l' => Q (retv fl) m l') (fun y => binds.reverse.lookup y) l)
    (hco : scope.isCoroutine = false := by rfl) (hgen : scope.isGenerator = false := by rfl) (hk : scope.kind = .function := by rfl) (hcell : ∀ x ∈ scope.names, x.2 ≠ .cell := by decide) :
    J w c (call (.ref f) vs) Q m l := by
  intro hp tk F N
  refine wpAny_call ?_
  have hd := G.hd
  have hu := G.hu
  refine code_def (env := c.env) (outer := c.outer) (s := ⟨hp, c.gs, c.dr, tk, c.os⟩) G.B F G.X N G.T G.hA G.hf G.hk ho hcd (by show c.A.depth < 1000; omega) (hbind _ (G.X.keeps F.keep)) (locs hloc) ?_ hco hgen hk hcell
  intro g L' h₁ FG F' N' B' X' T'
  let c' : Cfg := { A := c.A.deeper (envOf qual scope L' f cdv), h₀ := g, L := L', gs := c.gs, dr := c.dr, os := c.os, env := envOf qual scope L' f cdv, outer := c.env :: c.outer, base := c.base, A₀ := c.A, mean := c.mean, mg := c.mg, mb := c.mb, pv := c.pv, ls := c.ls, E := fun e s' => wpAny (model PR w) (c.A.deeper (envOf qual scope L' f cdv)) (leaving (envOf qual scope L' f cdv) e) (fun _ s'' => c.E e s'') (fun e' s'' => c.E e' s'') s' }
  have G' : Good w c' k := {
    B := B', X := X', T := T', hA := Around.frames_deeper G.hA, hf := rfl, hk := hk, hh := G.hh,
    hd := by show c.A.depth + 1 + k < 990; omega
    hu := by show c.A.units + 3 + 8 * k < 9800; omega
    hp := PassesOwn.leaving }
  have C' : Callee w c m c' := ⟨fun _ _ x => x, rfl, rfl, FG, rfl, rfl, rfl⟩
  refine wpAny_mono (h c' G' C' rfl h₁ _ F' N') (fun fl s' q => ?_) fun _ _ x => x
  obtain ⟨m', l', h', tk', rfl, F'', N'', q⟩ := q
  cases fl <;> exact leaveK_ F'' N'' fun F N => post_intro F N q
/-- the names that a call binds, laid ready -/
def Binds (_ : List (PySem.Str × Value)) : Prop := True
theorem J_enterB (G : Good w c (k + 1)) {oc : Value} {od an : Option Addr} {osl : Array (Option Value)} {name qual : PySem.Str} {params : Arguments} {body body' : List Stmt} {scope : Scope} {dV kV doc pm cdv ct : Value} {f : Addr} {vs : List Value} {binds : List (PySem.Str × Value)} {Q : Value → Vars → Led → Prop}
    (_ : Binds binds) (ho : (Mine.KK w.params).lookup f = some ⟨oc, od, .func (fnOf name qual params body scope dV kV doc pm an cdv ct), osl⟩) (hcd : codeIn (Mine.KK w.params) cdv qual = true)
    (hbind : ∀ s : Shared, (Mine.KK w.params).In s.heap → BindsTo s (fnOf name qual params body scope dV kV doc pm an cdv ct) ⟨vs, []⟩ binds)
    (hloc : (binds.all fun x => decide (scope.names.lookup x.1 = some .local)) = true)
    (h : ∀ c' : Cfg, Good w c' k → Callee w c m c' → c'.env = envOf qual scope c'.L f cdv → J w c' (execs body' (envOf qual scope c'.L f cdv)) (fun fl _ l' => Q (retv fl) m l') (fun y => binds.reverse.lookup y) l)
    (hco : scope.isCoroutine = false) (hgen : scope.isGenerator = false) (hk : scope.kind = .function) (hcell : ∀ x ∈ scope.names, x.2 ≠ .cell) (hbd : body = body') :
    J w c (call (.ref f) vs) Q m l := J_enter G ho hcd hbind hloc (hbd ▸ h) hco hgen hk hcell
theorem J_body {body body' : List Stmt} {env : Env} {Q : KF} (hbd : body = body') (h : J w c (execs body' env) Q m l) : J w c (execs body env) Q m l := hbd ▸ h
theorem J_callN (G : Good w c k) {f : Addr} {e : Expr} {rest : List Expr} {pos : Pos} {first : List Value} {env : Env} {Q : Value → Vars → Led → Prop} (hk : keepIn (Mine.KK w.params) (.ref f) = true)
    (h : J w c (spliced (backTo pos (starEach (e :: rest) env))) (KCf w c (.ref f) first Q) m l)
    (he : starEach (e :: rest) env = (false, eval e env) :: starEach rest env := by rfl) (hplain : (backTo pos (starEach rest env)).any (·.1) = false := by rfl) :
    J w c (callWith pos (.ref f) first (backTo pos (starEach (e :: rest) env)) []) Q m l :=
  fun _ _ F N => callWith_K (h₀ := c.h₀) G.X hk (h.use F N fun _ _ _ _ _ F' N' q => ⟨G.X.keeps F'.keep, q _ _ F' N'⟩) he hplain
theorem J_call0 (G : Good w c k) {f : Addr} {pos : Pos} {first : List Value} {env : Env} {Q : Value → Vars → Led → Prop} (hk : keepIn (Mine.KK w.params) (.ref f) = true)
    (h : J w c (call (.ref f) (first ++ [])) Q m l) : J w c (callWith pos (.ref f) first (backTo pos (starEach [] env)) []) Q m l :=
  fun _ _ F N => callWith_K0 (G.X.keeps F.keep) hk (h _ _ F N)
theorem J_call {func : Expr} {args : List Expr} {pos : Pos} {env : Env} {Q : Value → Vars → Led → Prop} (h : J w c (eval func env) (KCw w c env pos args Q) m l)
    (he : eval (.Call func args [] pos) env = (do callWith pos (← eval func env) [] (backTo pos (starEach args env)) (backToKw pos (keywordEach [] env))) := by rfl) : J w c (eval (.Call func args [] pos) env) Q m l :=
  fun _ _ F N => Call_ (h.next F N) he
theorem J_meth {o : Expr} {name : PySem.Str} {apos pos : Pos} {args : List Expr} {pl : Sem Bool} {env : Env} {Q : Value → Vars → Led → Prop} (h : J w c (eval o env) (KMe w c env name pl pos args Q) m l)
    (he : eval (.Call (.Attribute o name apos) args [] pos) env = (do
      let ov ← eval o env
      standAt apos.atName
      let (f, first) ← holding [ov] (getMethod ov name pl)
      callWith pos f first (backTo pos (starEach args env)) []) := by rfl) : J w c (eval (.Call (.Attribute o name apos) args [] pos) env) Q m l :=
  fun _ _ F N => MethodCall_ (h.use F N fun _ _ _ _ _ F' N' q => q.next F' N') he
/-- a builtin called: its arguments first -/
theorem J_callB {id : String} {args : List Expr} {pos : Pos} {first : List Value} {env : Env} {Q : Value → Vars → Led → Prop}
    (h : J w c (spliced (backTo pos (starEach args env))) (fun vs m l => J w c (call (.builtin id) (first ++ vs)) Q m l) m l)
    (hr : ∀ {A : Around} {E : Value → Shared → Prop} {s : Shared} {Q : Value → Shared → Prop}, wpAny (model PR w) A (spliced (backTo pos (starEach args env))) (fun vs s₁ => wpAny (model PR w) A (call (.builtin id) (first ++ vs)) Q E s₁) E s →
      wpAny (model PR w) A (callWith pos (.builtin id) first (backTo pos (starEach args env)) []) Q E s) : J w c (callWith pos (.builtin id) first (backTo pos (starEach args env)) []) Q m l :=
  fun _ _ F N => hr (h.next F N)
end


end

section
open PySem PySem.W PyProof.Rows PySem.Calls
section
variable {w : World} {c : Cfg} {α β : Type} {m : Vars} {l l' : Led} {k : Nat} {i j : Int} {t u : Tok} {Q : Value → Vars → Led → Prop}
theorem J_fdiv (hj : j ≠ 0) (h : ∀ t, Q (.int (i.fdiv j) t) m l) (hi : -1000000000 < j ∧ j < 1000000000) : J w c (binaryOp .FloorDiv (.int i t) (.int j u)) Q m l := fun _ _ F N => PyProof.Rows.floordiv_int hj (post_intro F N (h _)) (Or.inl (PyProof.noPylong_small (by omega))) 
abbrev DK (w : World) (o : Obj) (kvs : List (PySem.Str × Value)) : Prop := o.IsDictOf (PySem.strKind PR w) kvs
theorem J_dget {value slice : Expr} {d : Addr} {o : Obj} {kvs : List (PySem.Str × Value)} {x : PySem.Str} {v : Value} (hm : (d, o) ∈ l) (hd : DK w o kvs) (hl : valueAt kvs x = some v) (h : Q v m l)
    (hs : subscripted slice false (.ref d) (.str x t) = operate [.ref d, .str x t] (getItem (.ref d) (.str x t)) := by with_unfolding_all rfl) (hg : ∀ r, letTemporaryGo value (.ref d) r = pure () := by intro _; with_unfolding_all rfl) :
    J w c (subscriptTail value slice (.ref d) (.str x t)) Q m l := fun _ _ F N => kda_item N hm hd (strKind_is _ _ _ _) hl (post_intro F N h) hs hg
theorem updF_head {d : Addr} {o : Obj} {r : Led} (h : ∀ p ∈ r, p.1 ≠ d) : UpdF d o ((d, o) :: r) fun o' => (d, o') :: r := UpdF.head h
theorem J_dset {d : Addr} {o : Obj} {kvs : List (PySem.Str × Value)} {x : PySem.Str} {v : Value} {r : Led} {Q : Unit → Vars → Led → Prop} (hr : ∀ p ∈ r, p.1 ≠ d) (hd : DK w o kvs) (hz : kvs.length ≤ 1000)
    (h : ∀ o', DK w o' (stored kvs x v) → Q () m ((d, o') :: r)) : J w c (setItem (.ref d) (.str x t) v) Q m ((d, o) :: r) :=
  fun _ _ F N => kda_set F N (updF_head hr) hd (strKind_is _ _ _ _) (by rw [PySem.sizeLine_eq]; omega) fun h' o' F' N' hd' => post_intro F' N' (h o' hd')
theorem J_isub {s : PySem.Str} {value slice : Expr} (h0 : 0 ≤ i) (h1 : i < s.length) (hz : s.length < 2 ^ 40) (h : ∀ t, Q (.str (Txt.item s i) t) m l)
    (hs : subscripted slice false (.str s t) (.int i u) = operate [.str s t, .int i u] (getItem (.str s t) (.int i u)) := by with_unfolding_all rfl) (ht : ∀ r, letTemporaryGo value (.str s t) r = pure () := by intro _; with_unfolding_all rfl) :
    J w c (subscriptTail value slice (.str s t) (.int i u)) Q m l :=
  fun _ _ F N => item_str (fitsSsize_of (N := 9223372036854775808) (by omega) (by have : (2:Nat)^40 < 9223372036854775808 := by decide
                                                                                  omega) (Int.le_refl _)) (by omega) h1 (fun _ => post_intro F N (h _)) hs ht
theorem J_lenS {s : PySem.Str} (hz : s.length < 2 ^ 40) (h : ∀ t, Q (.int s.length t) m l) : J w c (call (.builtin "len") [.str s t]) Q m l :=
  fun _ _ F N => PyProof.Rows.len_str (by have : (2:Int)^40 < 2 ^ 63 := by decide
                                          omega) (post_intro F N (h _))
theorem J_adds {s s' : PySem.Str} (hz : s.length + s'.length < 2 ^ 20) (h : ∀ t, Q (.str (s ++ s') t) m l) : J w c (binaryOp .Add (.str s t) (.str s' u)) Q m l :=
  fun _ _ F N => PyProof.Rows.add_str (fun _ _ => post_intro F N (h _)) (by rw [PySem.sizeLine_eq]; omega)
theorem J_cb1 {id : String} {e : Expr} {rest : List Expr} {pos : Pos} {env : Env} (h : J w c (spliced (backTo pos (starEach (e :: rest) env))) (KC0 w c (.builtin id) Q) m l)
    (he : starEach (e :: rest) env = (false, eval e env) :: starEach rest env := by rfl) (hplain : (backTo pos (starEach rest env)).any (·.1) = false := by rfl) : J w c (callWith pos (.builtin id) [] (backTo pos (starEach (e :: rest) env)) []) Q m l :=
  fun _ _ F N => callWith_builtin1 (h.next F N) he hplain
end


end

section
open PySem PySem.W PyProof.Rows PySem.Calls
section
variable {w : World} {c : Cfg} {α β : Type} {m : Vars} {l l' : Led} {k : Nat} {env : Env}
def WStep (Inv : Nat → Vars → Led → Prop) (n : Nat) (Q : Flow → Vars → Led → Prop) (f : Flow) (m : Vars) (l : Led) : Prop :=
  match f with
  | .next | .cont => ∃ n' l', n' < n ∧ (∀ p ∈ l', p ∈ l) ∧ Inv n' m l'
  | .brk => Q .next m l
  | .ret v => Q (.ret v) m l
theorem J_while (G : Good w c k) (he : c.env = env) {test : Expr} {body : List Stmt} {pos : Pos} {Q : Flow → Vars → Led → Prop} (Inv : Nat → Vars → Led → Prop) (n₀ : Nat) (h0 : Inv n₀ m l)
    (turn : ∀ n m l, Inv n m l → J w c (isTrue test env (eval test env)) (fun b m l => if b = true then J w c (execs body env) (WStep Inv n Q) m l else Q .next m l) m l) : J w c (exec (.While test body [] pos) env) Q m l :=
  fun h tk F N => by
    refine While_inv2 (s := ⟨h, c.gs, c.dr, tk, c.os⟩) (env := env) Inv F N h0 ?_ (he ▸ G.hp)
    intro n m₁ l₁ h₁ tk₁ F₁ N₁ i₁
    refine (turn n m₁ l₁ i₁).use F₁ N₁ fun b m₂ l₂ h₂ tk₂ F₂ N₂ q => ?_
    cases b with
    | false => simp only [Bool.false_eq_true, if_false] at q ⊢; exact post_intro F₂ N₂ q
    | true =>
      simp only [if_true] at q ⊢
      refine q.use F₂ N₂ fun f m₃ l₃ h₃ tk₃ F₃ N₃ q => ?_
      cases f with
      | ret v => exact post_intro F₃ N₃ q
      | brk => exact post_intro F₃ N₃ q
      | next => obtain ⟨n', l', hn, hs, hi⟩ := q; exact ⟨h₃, tk₃, m₃, l', n', rfl, F₃, fun p hp => N₃ p (hs p hp), hn, hi⟩
      | cont => obtain ⟨n', l', hn, hs, hi⟩ := q; exact ⟨h₃, tk₃, m₃, l', n', rfl, F₃, fun p hp => N₃ p (hs p hp), hn, hi⟩
def FStep (Inv : Nat → Vars → Led → Prop) (I : Addr) (o : Obj) (i : Nat) (Q : Flow → Vars → Led → Prop) (f : Flow) (m : Vars) (l : Led) : Prop :=
  match f with
  | .next | .cont => ∃ l', (∀ p ∈ l', p ∈ l) ∧ (I, o) ∈ l ∧ (∀ p ∈ l', p.1 ≠ I) ∧ Inv (i + 1) m l'
  | .brk => Q .next m l
  | .ret v => Q (.ret v) m l
theorem News.same {h₀ h h' : Heap} {L I : Addr} {l : Led} (N : News h₀ L h l) (hs : Heap.SameBut I h h') (off : ∀ p ∈ l, p.1 ≠ I) : News h₀ L h' l :=
  fun p hp => ⟨(hs.2 p.1 (off p hp)).trans (N p hp).1, (N p hp).2⟩
/-- the iterator I, its object by St, its items by P -/
structure Iter (w : World) (c : Cfg) (I : Addr) (base : Led) (n : Nat) (P : Nat → Value → Prop) (St : Nat → Obj → Prop) : Prop where
  item : ∀ i o h tk (Q : Option Value → Shared → Prop) (E : Value → Shared → Prop), i < n → h.get? I = some o → St i o → News c.h₀ c.L h base → (Mine.KK w.params).In h →
    (∀ v o' h' tk', P i v → St (i + 1) o' → h'.get? I = some o' → Heap.SameBut I h h' → Q (some v) ⟨h', c.gs, c.dr, tk', c.os⟩) → wpAny (model PR w) c.A (pyNext (.ref I)) Q E ⟨h, c.gs, c.dr, tk, c.os⟩
  done : ∀ o h tk (Q : Option Value → Shared → Prop) (E : Value → Shared → Prop), h.get? I = some o → St n o → News c.h₀ c.L h base → (Mine.KK w.params).In h →
    (∀ h' tk', Heap.ExtBut I h h' → Q none ⟨h', c.gs, c.dr, tk', c.os⟩) → wpAny (model PR w) c.A (pyNext (.ref I)) Q E ⟨h, c.gs, c.dr, tk, c.os⟩
theorem lot_plain {target : Expr} {I : Addr} {v : Value} {o : Obj} {n : String} {vs : Array Value} (hc : o.cls = .type n) (hd : o.data = .fields vs)
    (hn : (["enumerate", "zip", "dict_itemiterator", "dict_reverseitemiterator", "odict_iterator", "itertools.zip_longest", "itertools.pairwise"].contains n) = false) {M : Model} {A : Around} {Q : Unit → Shared → Prop} {E : Value → Shared → Prop} {s : Shared} (ho : s.heap.get? I = some o) (hq : Q () s) :
    wpAny M A (letOwnedTupleGo target (.ref I) v) Q E s := by
  have go : wpAny M A (do
      let (.ref r, .ref a) := (Value.ref I, v) | return
      let o ← load r
      match o.cls, o.data with
      | .type n, .fields vs =>
        if ["enumerate", "zip", "dict_itemiterator", "dict_reverseitemiterator", "odict_iterator", "itertools.zip_longest", "itertools.pairwise"].contains n && vs[0]? == some (rawInt a) then
          rule "for.unpacks-the-owned-tuple"
          updateField r 0 .none
      | _, _ => pure ()) Q E s := by
    cases v with
    | ref a =>
      refine wpAny_bind (wpAny_load ho ?_)
      simp only [hc, hd, hn, Bool.false_and, Bool.false_eq_true, if_false]
      exact wpAny_pure hq
    | _ => exact wpAny_pure hq
  cases target <;> first | exact go | exact wpAny_pure hq
theorem J_forI (G : Good w c k) (he : c.env = env) {target : Expr} {body : List Stmt} {I : Addr} {base : Led} {n : Nat} {P : Nat → Value → Prop} {St : Nat → Obj → Prop} (W : Iter w c I base n P St) {Q : Flow → Vars → Led → Prop}
    (Inv : Nat → Vars → Led → Prop) (hb : ∀ i m l, Inv i m l → ∀ p ∈ base, p ∈ l)
    (turn : ∀ i m l v o, i < n → P i v → Inv i m l → (∀ p ∈ l, p.1 ≠ I) → J w c (assign target env v) (fun _ m l => J w c (execs body env) (FStep Inv I o i Q) m l) m ((I, o) :: l))
    (done : ∀ m l, Inv n m l → Q .next m l)
    {o₀ : Obj} (hs : St 0 o₀) (h0 : Inv 0 m l) (off : ∀ p ∈ l, p.1 ≠ I) {h : Heap} {tk : Nat} (F : Fr c.h₀ c.L h m) (N : News c.h₀ c.L h ((I, o₀) :: l)) (ht : ∀ v i o (Q : Unit → Shared → Prop) (E : Value → Shared → Prop) (s : Shared), s.heap.get? I = some o → St i o → Q () s → wpAny (model PR w) c.A (letOwnedTupleGo target (.ref I) v) Q E s) :
    codeAny (model PR w) c.A (.forLoop target (.ref I) body [] env) (fun r s' => match r with | .ok f => Post c Q f s' | .error e => cameBackBy (model PR w) c.A env c.E e s') ⟨h, c.gs, c.dr, tk, c.os⟩ := by
  have hp : PassesOwn (model PR w) c.A env c.E := he ▸ G.hp
  refine codeAny_forLoop_any (fun j s => ∃ i h tk m l o, j + i = n ∧ s = ⟨h, c.gs, c.dr, tk, c.os⟩ ∧ Fr c.h₀ c.L h m ∧ News c.h₀ c.L h ((I, o) :: l) ∧ St i o ∧ Inv i m l ∧ (∀ p ∈ l, p.1 ≠ I)) ?_ n ⟨0, h, tk, m, l, o₀, by omega, rfl, F, N, hs, h0, off⟩
  rintro j s ⟨i, h, tk, m, l, o, hj, rfl, F, N, hst, hi, off⟩
  have NI := N (I, o) (.head _)
  have Nl : News c.h₀ c.L h l := fun p hp => N p (.tail _ hp)
  by_cases hlt : i < n
  · refine W.item i o h tk _ _ hlt NI.1 hst (fun p hp => Nl p (hb i m l hi p hp)) (G.X.keeps F.keep) fun v o' h' tk' hv hst' hI' hsb => ?_
    have F' : Fr c.h₀ c.L h' m := F.change hsb NI.2.1 NI.2.2
    have N' : News c.h₀ c.L h' ((I, o') :: l) := fun p hp => by
      rcases List.mem_cons.mp hp with rfl | hp
      · exact ⟨hI', NI.2⟩
      · exact News.same Nl hsb off p hp
    refine ht v (i + 1) o' _ _ _ hI' hst' ?_
    refine wpAny_passesOwn hp ((turn i m l v o' hlt hv hi off).use F' N' fun _ m₁ l₁ h₁ tk₁ F₁ N₁ q => ?_)
    refine wpAny_passesOwn hp (q.use F₁ N₁ fun f m₂ l₂ h₂ tk₂ F₂ N₂ q => ?_)
    cases f with
    | ret v => exact post_intro F₂ N₂ q
    | brk => exact post_intro F₂ N₂ q
    | next => obtain ⟨l', hs, hm, ho, hi⟩ := q; exact ⟨j - 1, by omega, i + 1, h₂, tk₂, m₂, l', o', by omega, rfl, F₂, fun p hp => (List.mem_cons.mp hp).elim (fun e => e ▸ N₂ _ hm) fun hp => N₂ p (hs p hp), hst', hi, ho⟩
    | cont => obtain ⟨l', hs, hm, ho, hi⟩ := q; exact ⟨j - 1, by omega, i + 1, h₂, tk₂, m₂, l', o', by omega, rfl, F₂, fun p hp => (List.mem_cons.mp hp).elim (fun e => e ▸ N₂ _ hm) fun hp => N₂ p (hs p hp), hst', hi, ho⟩
  · obtain rfl : i = n := by omega
    refine W.done o h tk _ _ NI.1 hst (fun p hp => Nl p (hb _ m l hi p hp)) (G.X.keeps F.keep) fun h' tk' hx => ?_
    have F' : Fr c.h₀ c.L h' m := ⟨F.ns.extBut hx (Ne.symm NI.2.1), fun b ob e => hx b ob (fun q => by rw [q, NI.2.2] at e; cases e) (F.keep b ob e), F.above⟩
    exact wpAny_execs_nil (post_intro F' (fun p hp => ⟨hx _ _ (off p hp) (Nl p hp).1, (Nl p hp).2⟩) (done m l hi))
/-- a for over a list of the ledger -/
theorem J_forL (G : Good w c k) (he : c.env = env) {target iter : Expr} {body : List Stmt} {pos : Pos} {Q : Flow → Vars → Led → Prop}
    (h : J w c (eval iter env) (fun xv m l => ∃ d its nn, xv = .ref d ∧ (d, W.listOf its nn) ∈ l ∧ ∃ (Inv : Nat → Vars → Led → Prop), (∀ i m l, Inv i m l → (d, W.listOf its nn) ∈ l) ∧ Inv 0 m l ∧
      (∀ I i m l v o, i < its.size → its[i]? = some v → Inv i m l → (∀ p ∈ l, p.1 ≠ I) → J w c (assign target env v) (fun _ m l => J w c (execs body env) (FStep Inv I o i Q) m l) m ((I, o) :: l)) ∧
      (∀ m l, Inv its.size m l → Q .next m l)) m l) (hs : ∀ x, foldedSetIterable iter env x = pure x := by intro _; rfl) : J w c (exec (.For target iter body [] pos) env) Q m l := by
  intro hp tk F N
  refine wpAny_For (h.use F N fun xv m₁ l₁ h₁ tk₁ F₁ N₁ q => ?_) hs
  obtain ⟨d, its, nn, rfl, hm, Inv, hb, h0, turn, done⟩ := q
  refine wpAny_pyIter_list (N₁.isList hm) ?_
  have hlt : ∀ p ∈ l₁, p.1 ≠ h₁.objs.size := fun p hp => Nat.ne_of_lt (Heap.lt_size (N₁ p hp).1)
  refine J_forI G he (I := h₁.objs.size) (base := [(d, W.listOf its nn)]) (n := its.size) (P := fun i v => its[i]? = some v) (St := fun i o => o.cls = .type "list_iterator" ∧ o.data = .fields #[.ref d, .int i 0]) ?_ Inv (fun i m l hi p hp => by rw [List.mem_singleton.mp hp]; exact hb i m l hi) (fun i m l v o => turn _ i m l v o) done (o₀ := { cls := .type "list_iterator", data := .fields #[.ref d, .int 0 0] }) ⟨rfl, rfl⟩ h0 hlt (F₁.push _) (News.push F₁ N₁ _) (fun v i o Q E s ho hst hq => lot_plain hst.1 hst.2 (by decide) ho hq)
  exact {
    item := fun i o h tk Q E hi ho hst Nb X k => by
      have hls := Nb.isList (.head _)
      refine wpAny_pyNext_list_item (s := ⟨h, c.gs, c.dr, tk, c.os⟩) (i := i) ⟨o, ho, hst.1, hst.2⟩ hls (x := its[i]) (by simp [hi]) fun h' hit hsb => ?_
      obtain ⟨o', ho', hst'⟩ := hit
      exact k _ o' h' tk (by simp [hi]) hst' ho' hsb
    done := fun o h tk Q E ho hst Nb X k => wpAny_pyNext_list_end (s := ⟨h, c.gs, c.dr, tk, c.os⟩) (i := its.size) G.hh ⟨o, ho, hst.1, hst.2⟩ (Nb.isList (.head _)) (by simp) fun h' hx => k h' tk hx }
/-- a for over a tuple of the text's own -/
theorem J_forT (G : Good w c k) (he : c.env = env) {target iter : Expr} {body : List Stmt} {pos : Pos} {Q : Flow → Vars → Led → Prop}
    (h : J w c (eval iter env) (fun xv m l => ∃ d its nn dd sl, xv = .ref d ∧ (Mine.KK w.params).lookup d = some ⟨.type "tuple", dd, .seq its nn, sl⟩ ∧ ∃ (Inv : Nat → Vars → Led → Prop), Inv 0 m l ∧
      (∀ I i m l v o, i < its.size → its[i]? = some v → Inv i m l → (∀ p ∈ l, p.1 ≠ I) → J w c (assign target env v) (fun _ m l => J w c (execs body env) (FStep Inv I o i Q) m l) m ((I, o) :: l)) ∧
      (∀ m l, Inv its.size m l → Q .next m l)) m l) (hs : ∀ x, foldedSetIterable iter env x = pure x := by intro _; rfl) : J w c (exec (.For target iter body [] pos) env) Q m l := by
  intro hp tk F N
  refine wpAny_For (h.use F N fun xv m₁ l₁ h₁ tk₁ F₁ N₁ q => ?_) hs
  obtain ⟨d, its, nn, dd, sl, rfl, hm, Inv, h0, turn, done⟩ := q
  have tup : ∀ {h : Heap}, (Mine.KK w.params).In h → IsTup h d its := fun X => ⟨_, X _ _ hm, rfl, nn, rfl⟩
  refine iter_tuple (tup (G.X.keeps F₁.keep)) ?_
  have hlt : ∀ p ∈ l₁, p.1 ≠ h₁.objs.size := fun p hp => Nat.ne_of_lt (Heap.lt_size (N₁ p hp).1)
  refine J_forI G he (I := h₁.objs.size) (base := []) (n := its.size) (P := fun i v => its[i]? = some v) (St := fun i o => o.cls = .type "tuple_iterator" ∧ o.data = .fields #[.ref d, .int i 0]) ?_ Inv (fun i m l hi p hp => nomatch hp) (fun i m l v o => turn _ i m l v o) done (o₀ := { cls := .type "tuple_iterator", data := .fields #[.ref d, .int 0 0] }) ⟨rfl, rfl⟩ h0 hlt (F₁.push _) (News.push F₁ N₁ _) (fun v i o Q E s ho hst hq => lot_plain hst.1 hst.2 (by decide) ho hq)
  exact {
    item := fun i o h tk Q E hi ho hst Nb X k => by
      refine next_tuple_item (s := ⟨h, c.gs, c.dr, tk, c.os⟩) (i := i) ⟨o, ho, hst.1, hst.2⟩ (tup X) (x := its[i]) (by simp [hi]) fun h' hit hsb => ?_
      obtain ⟨o', ho', hst'⟩ := hit
      exact k _ o' h' tk (by simp [hi]) hst' ho' hsb
    done := fun o h tk Q E ho hst Nb X k => next_tuple_end (s := ⟨h, c.gs, c.dr, tk, c.os⟩) (i := its.size) G.hh ⟨o, ho, hst.1, hst.2⟩ (tup X) (by simp) fun h' hx => k h' tk hx }
end


end

section
open PySem PySem.W PyProof.Rows PySem.Calls
section
variable {w : World} {c : Cfg} {α β : Type} {m : Vars} {l l' : Led} {k : Nat} {env : Env} {i j : Int} {t u v : Tok} {Q : Value → Vars → Led → Prop}
abbrev rangeO (a b : Int) (t u v : Tok) : Obj := { cls := .type "range", dict := none, data := .fields #[.int a t, .int b u, .int 1 v], slots := #[] }
theorem J_range1 (h : ∀ r t u, (∀ p ∈ l, p.1 < r) → Q (.ref r) m ((r, rangeO 0 i t v u) :: l)) : J w c (call (.type "range") [.int i v]) Q m l :=
  fun _ _ F N => call_range_1 (post_intro (F.push _) (News.push F N _) (h _ _ _ fun p hp => Heap.lt_size (N p hp).1))
theorem J_range2 (h : ∀ r v, (∀ p ∈ l, p.1 < r) → Q (.ref r) m ((r, rangeO i j t u v) :: l)) : J w c (call (.type "range") [.int i t, .int j u]) Q m l :=
  fun _ _ F N => call_range_2 (post_intro (F.push _) (News.push F N _) (h _ _ fun p hp => Heap.lt_size (N p hp).1))
theorem J_ct1 {T : String} {e : Expr} {rest : List Expr} {pos : Pos} (h : J w c (spliced (backTo pos (starEach (e :: rest) env))) (KC0 w c (.type T) Q) m l)
    (he : starEach (e :: rest) env = (false, eval e env) :: starEach rest env := by rfl) (hplain : (backTo pos (starEach rest env)).any (·.1) = false := by rfl) : J w c (callWith pos (.type T) [] (backTo pos (starEach (e :: rest) env)) []) Q m l :=
  fun _ _ F N => Pv.callWith_type1 (h.next F N) he hplain
theorem J_cm0 {id : String} {first : List Value} {pos : Pos} (h : J w c (call (.builtin id) first) Q m l) : J w c (callWith pos (.builtin id) first (backTo pos (starEach [] env)) []) Q m l :=
  fun _ _ F N => callWith_method0 (h _ _ F N)
theorem J_cm1 {id : String} {first : List Value} {e : Expr} {rest : List Expr} {pos : Pos} (h : J w c (spliced (backTo pos (starEach (e :: rest) env))) (KCf w c (.builtin id) first Q) m l)
    (he : starEach (e :: rest) env = (false, eval e env) :: starEach rest env := by rfl) (hplain : (backTo pos (starEach rest env)).any (·.1) = false := by rfl) : J w c (callWith pos (.builtin id) first (backTo pos (starEach (e :: rest) env)) []) Q m l :=
  fun _ _ F N => callWith_method1 (h.next F N) he hplain
/-- a for over a range -/
theorem J_forR (G : Good w c k) (he : c.env = env) {target iter : Expr} {body : List Stmt} {pos : Pos} {Q : Flow → Vars → Led → Prop}
    (h : J w c (eval iter env) (fun xv m l => ∃ d a b t u v, xv = .ref d ∧ (d, rangeO a b t u v) ∈ l ∧ (-1000000000 < a ∧ a < 1000000000) ∧ (-1000000000 < b ∧ b < 1000000000) ∧ ∃ (Inv : Nat → Vars → Led → Prop), Inv 0 m l ∧
      (∀ I (i : Nat) m l t o, (i : Int) < b - a → Inv i m l → (∀ p ∈ l, p.1 ≠ I) → J w c (assign target env (.int (a + i) t)) (fun _ m l => J w c (execs body env) (FStep Inv I o i Q) m l) m ((I, o) :: l)) ∧
      (∀ m l, Inv (b - a).toNat m l → Q .next m l)) m l) (hs : ∀ x, foldedSetIterable iter env x = pure x := by intro _; rfl) : J w c (exec (.For target iter body [] pos) env) Q m l := by
  intro hp tk F N
  refine wpAny_For (h.use F N fun xv m₁ l₁ h₁ tk₁ F₁ N₁ q => ?_) hs
  obtain ⟨d, a, b, t, u, v, rfl, hm, ha, hb, Inv, h0, turn, done⟩ := q
  refine wpAny_pyIter_range (N₁.get hm) (small_one (by omega) (by omega) (by omega) (by omega)) ?_
  have hlt : ∀ p ∈ l₁, p.1 ≠ h₁.objs.size := fun p hp => Nat.ne_of_lt (Heap.lt_size (N₁ p hp).1)
  have hz : ∀ i : Nat, i < (b - a).toNat → (i : Int) < b - a := fun i hi => by omega
  refine J_forI G he (I := h₁.objs.size) (base := []) (n := (b - a).toNat) (P := fun i v => ∃ t, v = .int (a + i) t) (St := fun i o => o = { cls := .type "range_iterator", dict := none, data := .fields #[rawInt (a + i), rawInt ((b - a).toNat - i), rawInt 1], slots := #[] }) ?_ Inv (fun i m l hi p hp => nomatch hp)
    (fun i m l v o hi hv => by obtain ⟨t, rfl⟩ := hv; exact turn _ i m l t o (hz i hi)) done (o₀ := { cls := .type "range_iterator", data := .fields #[rawInt a, rawInt (Builtin.Range.rangeSize a b 1), rawInt 1] }) ?_ h0 hlt (F₁.push _) (News.push F₁ N₁ _) (fun v i o Q E s ho hst hq => by subst hst; exact lot_plain rfl rfl (by decide) ho hq)
  · exact {
      item := fun i o h tk Q E hi ho hst Nb X k => by
        subst hst
        refine wpAny_pyNext_range_item (s := ⟨h, c.gs, c.dr, tk, c.os⟩) (x := a + i) (left := (b - a).toNat - i) (step := 1) ho (by omega) fun h' hit hsb => ?_
        refine k _ _ h' _ ⟨_, rfl⟩ rfl ?_ hsb
        rw [show IsRangeIter h' h₁.objs.size (a + i + 1) ((b - a).toNat - i - 1) 1 = (h'.get? h₁.objs.size = some { cls := .type "range_iterator", dict := none, data := .fields #[rawInt (a + i + 1), rawInt ((b - a).toNat - i - 1), rawInt 1], slots := #[] }) from rfl] at hit
        rw [hit, show a + (i : Int) + 1 = a + ((i + 1 : Nat) : Int) by omega, show ((b - a).toNat : Int) - i - 1 = (b - a).toNat - ((i + 1 : Nat) : Int) by omega]
      done := fun o h tk Q E ho hst Nb X k => by
        subst hst
        exact wpAny_pyNext_range_end (s := ⟨h, c.gs, c.dr, tk, c.os⟩) G.hh ho (by omega) fun h' hx => k h' tk hx }
  · have e1 : (if a < b then b - a else 0) = (((b - a).toNat : Nat) : Int) - ((0 : Nat) : Int) := by split <;> omega
    have e2 : a + ((0 : Nat) : Int) = a := by omega
    show _ = _
    rw [rangeSize_one, e1, e2]
/-! attributes in the dict of an object -/
theorem J_geta (G : Good w c k) {x C dx : Addr} {es : List DictEntry} {n : Nat} {name : PySem.Str} {attr : Option Value} {v : Value} {e : Bool} (h1 : (x, instObj C dx) ∈ l) (h2 : (dx, dictOf es n) ∈ l)
    (hg : plainGet (Mine.KK w.params) C name = true) (hh : hasDictIn (Mine.KK w.params) C = true) (ha : findIn (Mine.KK w.params) (.ref C) name = some attr) (hn : noGet (Mine.KK w.params) attr = true) (hl : getL name es = some (some v)) (hv : handedIn v = true)
    (h : Q v m l) : J w c (getAttr (.ref x) name e) Q m l :=
  fun _ _ F N => get_own F G.X (InstAt.of_news N h1 h2) hg hh ha hn hl hv (post_intro F N h)
theorem J_getm (G : Good w c k) {x C dx f : Addr} {es : List DictEntry} {n : Nat} {name : PySem.Str} {pl : Sem Bool} {Q : Value × List Value → Vars → Led → Prop} (h1 : (x, instObj C dx) ∈ l) (h2 : (dx, dictOf es n) ∈ l)
    (hg : plainGet (Mine.KK w.params) C name = true) (hf : findIn (Mine.KK w.params) (.ref C) name = some (some (.ref f))) (ht : isFn (Mine.KK w.params) (.ref f) = true) (hl : getL name es = some none)
    (h : Q (.ref f, [.ref x]) m l) : J w c (getMethod (.ref x) name pl) Q m l :=
  fun _ _ F N => method_inst F G.X (InstAt.of_news N h1 h2) hg hf ht hl (post_intro F N h)
theorem upd_head {d : Addr} {o o' : Obj} {r : Led} (h : ∀ p ∈ r, p.1 ≠ d) : Upd d o o' ((d, o) :: r) ((d, o') :: r) := Upd.head h
theorem J_seta (G : Good w c k) {x C dx : Addr} {es es' : List DictEntry} {n n' : Nat} {name : PySem.Str} {v : Value} {r : Led} {Q : Unit → Vars → Led → Prop} (h1 : (x, instObj C dx) ∈ r) (hr : ∀ p ∈ r, p.1 ≠ dx)
    (hs : findIn (Mine.KK w.params) (.ref C) "__setattr__" = some (some (.builtin "object.__setattr__"))) (hp : plainOver (Mine.KK w.params) C = true) (ht : takerIn (Mine.KK w.params) C name = some none) (hh : hasDictIn (Mine.KK w.params) C = true) (hl : (getL name es).isSome = true)
    (e : ∀ t, (putL name (PyData.keyHash w.params name) (.str name t) v es, putN name es n) = (es' , n')) (hz : es'.length ≤ 1000)
    (h : Q () m ((dx, dictOf es' n') :: r)) : J w c (setAttr (.ref x) name v) Q m ((dx, dictOf es n) :: r) :=
  fun _ _ F N => W.set_dict F G.X N (InstAt.of_news N (.tail _ h1) (.head _)) rfl hs hp ht hh hl (e _) (upd_head hr) hz fun _ F' N' => post_intro F' N' h
/-! lists -/
theorem noDict_list {h₀ h : Heap} {L d : Addr} {its : Array Value} {n : Nat} {l : Led} (N : News h₀ L h l) (hm : (d, W.listOf its n) ∈ l) : h.NoDictAt (.ref d) := by
  exact ⟨_, N.get hm, rfl⟩
theorem J_lm_append {d : Addr} {its : Array Value} {n : Nat} {pl : Sem Bool} {Q : Value × List Value → Vars → Led → Prop} (hm : (d, W.listOf its n) ∈ l) (h : Q (.builtin "list.append", [.ref d]) m l) : J w c (getMethod (.ref d) "append" pl) Q m l :=
  fun _ _ F N => getMethod_list_append (N.get hm) rfl rfl (post_intro F N h)
theorem J_lm_extend {d : Addr} {its : Array Value} {n : Nat} {pl : Sem Bool} {Q : Value × List Value → Vars → Led → Prop} (hm : (d, W.listOf its n) ∈ l) (h : Q (.builtin "list.extend", [.ref d]) m l) : J w c (getMethod (.ref d) "extend" pl) Q m l :=
  fun _ _ F N => getMethod_list_of PySem.F.slot_list_extend PySem.F.type_list_extend (N.isList hm) (noDict_list N hm) (post_intro F N h)
theorem J_append {d : Addr} {its : Array Value} {n : Nat} {x : Value} {r : Led} (hr : ∀ p ∈ r, p.1 ≠ d) (hz : its.size ≤ 100000) (h : Q .none m ((d, W.listOf (its.push x) (n + 1)) :: r)) : J w c (call (.builtin "list.append") [.ref d, x]) Q m ((d, W.listOf its n) :: r) :=
  fun _ _ F N => append_K F N (upd_head hr) (fun _ F' N' => post_intro F' N' h) (by rw [PySem.sizeLine_eq]; omega)
theorem J_extend {d b : Addr} {its its2 : Array Value} {n n2 : Nat} {r : Led} (hr : ∀ p ∈ r, p.1 ≠ d) (hb : (b, W.listOf its2 n2) ∈ r) (hne : its2.toList.length ≠ 0) (hz : its.size + its2.size ≤ 100000) (h : Q .none m ((d, W.listOf (its.toList ++ its2.toList).toArray (n + 1)) :: r)) :
    J w c (call (.builtin "list.extend") [.ref d, .ref b]) Q m ((d, W.listOf its n) :: r) :=
  fun _ _ F N => kl_extend F N (.tail _ hb) rfl hne (upd_head hr) (by simp only [Builtin.List.listTooLong, PySem.sizeLine_eq, Bool.and_eq_true, decide_eq_true_eq]; omega) (by rw [PySem.sizeLine_eq]; simp; omega) (by rw [PySem.sizeLine_eq]; omega) (fun _ F' N' => post_intro F' N' h)
theorem J_addL {a b : Addr} {its its2 : Array Value} {n n2 : Nat} (ha : (a, W.listOf its n) ∈ l) (hb : (b, W.listOf its2 n2) ∈ l) (hz : its.size + its2.size ≤ 100000) (h : ∀ d, (∀ p ∈ l, p.1 < d) → Q (.ref d) m ((d, W.listOf (its.toList ++ its2.toList).toArray 0) :: l)) :
    J w c (binaryOp .Add (.ref a) (.ref b)) Q m l :=
  fun _ _ F N => add_arrays F N (N.isList ha) (N.isList hb) (fun _ F' N' => post_intro F' N' (h _ fun p hp => Heap.lt_size (N p hp).1)) (by rw [PySem.sizeLine_eq]; omega)
end


end

section
open PySem PySem.W PyProof.Rows PySem.Calls
theorem slot_wd_get : Slot "wrapper_descriptor" "__get__" "wrapper_descriptor.__get__" := .of (owner := "wrapper_descriptor") (n := "__get__") (by rw [typeLookup_type, builtinLookup_eq_fast]; kernel_rfl) (by decide +kernel) (by decide +kernel) (by decide +kernel)
  (by first | exact .inl (by decide +kernel) | exact .inr (by decide +kernel)) (by rw [isSubtype_type]; kernel_rfl)
theorem entry_wd_get : entryFor table "wrapper_descriptor.__get__" = some Builtin.«wrapper_descriptor.__get__» := entryFor_of_tree (by kernel_rfl)
theorem args_wd_get (a b c : Value) : argsOk "wrapper_descriptor.__get__" ⟨[a, b, c], []⟩ := by unfold argsOk; kernel_rfl
theorem ty_exc_init : typeOf (.builtin "Exception.__init__") = pure (.type "wrapper_descriptor") := by kernel_rfl
abbrev excMro : List Value := [.ref 81, .ref 69, .ref 40, .type "Exception", .type "BaseException", .type "object"]
section
variable {prog : Program} {w : World} {M : Model} {A : Around} {E : Value → Shared → Prop} {h : Heap} {g : Array GenState} {d : Drawn} {t : Nat} {os : OsState}
/-- the descriptor of Exception.__init__ bound to a TextFault -/
theorem wd_bound {x : Addr} {ox : Obj} {Q : Fin → Shared → Prop} (X : (Mine.KK w.params).In h) (hx : h.get? x = some ox) (hc : ox.cls = .ref 81)
    (hm : mroIn (Mine.KK w.params) 81 (.type "Exception") = some true)
    (hq : Q (.done (.ret (.ref h.objs.size))) ⟨h.push { cls := .type "method-wrapper", data := .fields #[.builtin "Exception.__init__", .ref x] }, g, d, t, os⟩) :
    wpAny (model prog w) A (Builtin.«wrapper_descriptor.__get__» ⟨[.builtin "Exception.__init__", .ref x, .ref 81], []⟩) Q E ⟨h, g, d, t, os⟩ := by
  have L1 : Looks (model prog w) h (isInstance (.ref x) (.type "Exception")) true := (((Looks.ld (part := none) hx).andThen .now) : Looks (model prog w) h (typeOf (.ref x)) ox.cls).andThen (by rw [hc]; exact looks_mroIn X hm)
  unfold Builtin.«wrapper_descriptor.__get__»
  refine wpAny_bind (wpAny_of_eq (a := (Value.builtin "Exception.__init__", some (.ref x), some (.ref 81))) rfl ?_)
  refine wpAny_bind (wpAny_bind (wpAny_of_eq (a := (Str.ofString "__init__", Value.type "Exception")) (by kernel_rfl) (wpAny_bind (L1.here ?_))))
  refine wpAny_pure ?_
  unfold newFields
  exact wpAny_bind (wpAny_newObj_type (wpAny_pure hq))
theorem super_ga_b {so D x : Addr} {ox : Obj} {l₀ l : List Value} {tk : Tok} {Q : Fin → Shared → Prop}
    (hso : h.get? so = some { cls := .type "super", dict := none, data := .fields #[.ref D, .ref x, .ref 81], slots := #[] }) (hno : Looks (model prog w) h (opaqueClassAbove (.ref 81)) none)
    (hC : Looks (model prog w) h (mroOf (.ref 81)) l₀) (hl : (l₀.dropWhile (· != .ref D)).drop 1 = l) (X : (Mine.KK w.params).In h)
    (hf : alongIn (Mine.KK w.params) "__init__" l = some (some (.builtin "Exception.__init__"))) (hx : h.get? x = some ox) (hc : ox.cls = .ref 81) (hxC : x ≠ 81) (hm : mroIn (Mine.KK w.params) 81 (.type "Exception") = some true)
    (hq : Q (.done (.ret (.ref h.objs.size))) ⟨h.push { cls := .type "method-wrapper", data := .fields #[.builtin "Exception.__init__", .ref x] }, g, d, t, os⟩) :
    wpAny (model prog w) A (Builtin.«super.__getattribute__» ⟨[.ref so, .str "__init__" tk], []⟩) Q E ⟨h, g, d, t, os⟩ := by
  have hlk := slot_wd_get.lookup
  have hty := ty_exc_init
  have hne : (Value.ref x == Value.ref 81) = false := by simp [hxC]
  have hTf : (⟨h, g, d, t, os⟩ : Shared).TypeIs (.builtin "Exception.__init__") "wrapper_descriptor" := ty_exc_init
  have hdt : ({ cls := .type "super", dict := none, data := .fields #[.ref D, .ref x, .ref 81], slots := #[] } : Obj).data = .fields #[.ref D, .ref x, .ref 81] := rfl
  have f0 : (#[.ref D, .ref x, .ref 81] : Array Value)[0]? = some (.ref D) := rfl
  have f1 : (#[.ref D, .ref x, .ref 81] : Array Value)[1]? = some (.ref x) := rfl
  have f2 : (#[.ref D, .ref x, .ref 81] : Array Value)[2]? = some (.ref 81) := rfl
  have hn : ((Str.ofString "__init__") == ("__class__" : PySem.Str)) = false := by decide
  unfold Builtin.«super.__getattribute__»
  repeat (first
    | (with_reducible refine wpAny_field hso hdt f0 ?_) | (with_reducible refine wpAny_field hso hdt f1 ?_) | (with_reducible refine wpAny_field hso hdt f2 ?_)
    | (with_reducible refine ks_wpAny_notOpaque hno ?_)
    | (with_reducible refine Looks.at hC ?_; rw [hl])
    | (refine ks_forIn_along X (fun _ _ => rfl) rfl ?_ hf)
    | (with_reducible refine wpAny_call_entry slot_wd_get hTf entry_wd_get ?_ (args_wd_get _ _ _))
    | (with_reducible refine wd_bound X hx hc hm ?_)
    | (with_reducible refine ⟨_, rfl, ?_⟩)
    | (with_reducible refine wpAny_of_eq hty ?_)
    | (with_reducible refine wpAny_of_eq hlk ?_)
    | (simp only [hn, hne, Bool.or_false, Bool.false_eq_true, if_false])
    | wp_step
    | dsimp only)
  all_goals exact hq

theorem getMethod_super_b {so D x : Addr} {ox : Obj} {l₀ l : List Value} {pl : Sem Bool} {Q : Value × List Value → Shared → Prop}
    (hso : h.get? so = some { cls := .type "super", dict := none, data := .fields #[.ref D, .ref x, .ref 81], slots := #[] }) (hno : Looks (model prog w) h (opaqueClassAbove (.ref 81)) none)
    (hC : Looks (model prog w) h (mroOf (.ref 81)) l₀) (hl : (l₀.dropWhile (· != .ref D)).drop 1 = l) (X : (Mine.KK w.params).In h)
    (hf : alongIn (Mine.KK w.params) "__init__" l = some (some (.builtin "Exception.__init__"))) (hx : h.get? x = some ox) (hc : ox.cls = .ref 81) (hxC : x ≠ 81) (hm : mroIn (Mine.KK w.params) 81 (.type "Exception") = some true)
    (hq : Q (.ref h.objs.size, []) ⟨h.push { cls := .type "method-wrapper", data := .fields #[.builtin "Exception.__init__", .ref x] }, g, d, t + 1, os⟩) :
    wpAny (model prog w) A (getMethod (.ref so) "__init__" pl) Q E ⟨h, g, d, t, os⟩ := by
  have hlk := F.ks_slot_super_ga.lookup
  have hT : ∀ t', (⟨h, g, d, t', os⟩ : Shared).TypeIs (.ref so) "super" := fun _ => ⟨_, hso, rfl⟩
  unfold getMethod
  refine wpAny_bind (wpAny_specialOf (hT _) hlk ?_)
  show wpAny _ _ (if (Manifest.canonical "super.__getattribute__" != "object.__getattribute__") = true then _ else _) _ _ _
  rw [if_pos F.ks_canon_super_ga]
  unfold getAttr getAttrBy
  refine wpAny_bind (wpAny_bind (wpAny_mkText (wpAny_holding (wpAny_bind (wpAny_typeOf (hT _) (wpAny_bind (wpAny_of_eq hlk ?_)))))))
  show wpAny _ _ (getAttrByItsOwn (.ref so) (.str "__init__" t) (.type "super") (.builtin "super.__getattribute__") true false) _ _ _
  unfold getAttrByItsOwn hookBefore callGetattribute boundAndCalled
  refine wpAny_bind (wpAny_of_eq (show (if onTheHeap (.type "super") then typeLookup (.type "super") "__getattr__" else pure none) = pure none from rfl) ?_)
  refine wpAny_bind (wpAny_attempt (wpAny_holding ?_))
  show wpAny _ _ (bindSpecial (.builtin "super.__getattribute__") (.ref so) >>= _) _ _ _
  refine wpAny_bind (wpAny_of_eq (F.ks_slot_super_ga.bind _) ?_)
  refine wpAny_mono (Q := fun v s' => v = .ref h.objs.size ∧ s' = ⟨h.push { cls := .type "method-wrapper", data := .fields #[.builtin "Exception.__init__", .ref x] }, g, d, t + 1, os⟩) (E := fun _ _ => False)
    (wpAny_call_entry F.ks_slot_super_ga (hT _) F.ks_entry_super_ga (super_ga_b hso hno hC hl X hf hx hc hxC hm ⟨_, rfl, rfl, rfl⟩) (F.ks_gaArgs_super _ _)) (fun v s' hv => ?_) fun _ _ z => z.elim
  obtain ⟨rfl, rfl⟩ := hv
  exact wpAny_pure (wpAny_pure hq)
/-- Exception.__init__ called through its wrapper -/
theorem call_wrapper {mw e t0 : Addr} {de : Option Addr} {v : Value} {Q : Value → Shared → Prop} (X : (Mine.KK w.params).In h)
    (hmw : h.get? mw = some { cls := .type "method-wrapper", data := .fields #[.builtin "Exception.__init__", .ref e] }) (hm : mroIn (Mine.KK w.params) 81 (.type "Exception") = some true) {oC : Obj} {cd : ClassData} (hC : h.get? 81 = some oC) (hCc : oC.cls = .type "type") (hCd : oC.data = .cls cd)
    (he : h.get? e = some { cls := .ref 81, dict := de, data := .fields #[.ref t0, .none, .none, .none, .bool false, .none] })
    (hq : Q .none ⟨(h.push { cls := .type "tuple", data := .seq #[v] }).update e (Obj.mapFields (·.setIfInBounds 0 (.ref h.objs.size))), g, d, t, os⟩) :
    wpAny (model prog w) A (call (.ref mw) [v]) Q E ⟨h, g, d, t, os⟩ := by
  have FB := PySem.F.excBase_Exception
  have L1 : Looks (model prog w) h (isInstance (.ref e) (.type "Exception")) true := (((Looks.ld (part := none) he).andThen .now) : Looks (model prog w) h (typeOf (.ref e)) (.ref 81)).andThen (looks_mroIn X hm)
  refine wpAny_call (codeAny_of_tree ?_)
  show wpAny _ _ (callAny (.ref mw) _) _ _ _
  unfold callAny
  refine wpAny_bind (wpAny_load hmw ?_)
  show wpAny _ _ (do checkBoundCall "Exception.__init__" ⟨[.ref e, v], []⟩; again (Code.builtin "Exception.__init__" ⟨[.ref e, v], []⟩)) _ _ _
  have hshort := FB.noStar
  have hcheck : ∀ {A : Around} {Q : Unit → Shared → Prop} {E : Value → Shared → Prop}, Q () ⟨h, g, d, t, os⟩ → wpAny (model prog w) A (checkBoundCall "Exception.__init__" ⟨[.ref e, v], []⟩) Q E ⟨h, g, d, t, os⟩ := by
    intro A Q E hq
    unfold checkBoundCall
    simp only [FB.initKind, FB.initSplit, FB.initRow]
    rw [if_pos (by decide)]
    unfold Bind.checkArgs
    have hT : (⟨h, g, d, t, os⟩ : Shared).TypeIs (.ref 81) "type" := ⟨_, hC, hCc⟩
    repeat (first | (with_reducible refine wpAny_loadPart_at he ?_) | (with_reducible refine wpAny_load hC ?_; rw [hCd]) | wp_step)
    exact hq
  refine wpAny_bind (hcheck (wpAny_pure ⟨Code.quiet_builtin _ (by decide +kernel), codeAny_builtin FB.initEntry ?_⟩))
  wp_walk
  exact hq
end


end

section
open PySem PySem.W PyProof.Rows PySem.Calls PySem.Builtin PySem.Builtin.ObjectAttr
theorem refuse_exc (self : Value) : refuseLoop self "__setattr__" excMro = pure () := by
  rw [refuseLoop_ref, refuseLoop_ref, refuseLoop_ref]
  kernel_rfl
abbrev excO (de : Option Addr) (t0 : Addr) : Obj := { cls := .ref 81, dict := de, data := .fields #[.ref t0, .none, .none, .none, .bool false, .none] }
section
variable {prog : Program} {w : World} {A : Around} {R : Result → Shared → Prop} {s : Shared}
/-- a store into a TextFault comes to its own dict -/
theorem exc_set_open {x : Addr} {ox : Obj} {od : Option Obj} {name : PySem.Str} {tk : Tok} {v : Value} {cd : ClassData} (X : (Mine.KK w.params).In s.heap) (I : W.InstAt s.heap x ox 81 od)
    (hc : clsIn (Mine.KK w.params) 81 = some cd) (hmro : cd.mro = excMro) (ht : findIn (Mine.KK w.params) (.ref 81) name = some none)
    (h : wpAny (model prog w) A.in1 (storeInOwnDict (.ref x) (.ref 81) (.str name tk) name v false)
      (fun fin s' => match fin with | .done f => R (.ok f) s' | .again c' => c'.quiet = true ∧ codeAny (model prog w) A c' R s') (fun e s' => R (.error e) s') s) :
    codeAny (model prog w) A (.call (.builtin "object.__setattr__") ⟨[.ref x, .str name tk, v], []⟩) R s := by
  have SF := PySem.F.store_object
  have hm : Looks (model prog w) s.heap (mroOf (.ref 81)) cd.mro := (looks_clsIn X hc).andThen .now
  have sub : Looks (model prog w) s.heap (isInstance (.ref x) (.type "object")) true := I.type.andThen (looks_mroIn X (by unfold mroIn; rw [hc, Option.bind_some, hmro]; rfl))
  refine codeAny_call_builtin SF.slot.plain SF.entry (@check_slot (model prog w) _ _ s "object.__setattr__" "object" "__setattr__" (.ref x) [.str name tk, v] [] _ SF.kind SF.split sub (SF.args (.ref x) (.str name tk) v) ?_)
  rw [osa_eq, refuse_eq]
  refine wpAny_bind (wpAny_bind (I.type.here (wpAny_bind (hm.here ?_))))
  rw [hmro, refuse_exc]
  exact wpAny_pure (wpAny_bind (I.type.here (wpAny_bind ((looks_findIn X ht).here (wpAny_bind (Looks.now.here h))))))
end
section
variable {w : World} {c : Cfg} {m : Vars} {l : Led} {k : Nat}
theorem J_setE0 (G : Good w c k) {e t0 : Addr} {name : PySem.Str} {v : Value} {cd : ClassData} {r : Led} {Q : Unit → Vars → Led → Prop} (hr : ∀ p ∈ r, p.1 ≠ e)
    (hs : findIn (Mine.KK w.params) (.ref 81) "__setattr__" = some (some (.builtin "object.__setattr__"))) (hc : clsIn (Mine.KK w.params) 81 = some cd) (hmro : cd.mro = excMro) (hhd : cd.hasDict = true)
    (ht : findIn (Mine.KK w.params) (.ref 81) name = some none)
    (h : ∀ d tk, (∀ p ∈ ((e, excO none t0) :: r), p.1 < d) → Q () m ((e, excO (some d) t0) :: (d, dictOf [⟨PyData.keyHash w.params name, .str name tk, v⟩] 1) :: r)) :
    J w c (setAttr (.ref e) name v) Q m ((e, excO none t0) :: r) := by
  intro hp tk F N
  have X : (Mine.KK w.params).In hp := G.X.keeps F.keep
  have De := N (e, excO none t0) (.head _)
  have I : W.InstAt hp e (excO none t0) 81 none := ⟨De.1, rfl, rfl, trivial⟩
  refine set_plain (s := ⟨hp, c.gs, c.dr, tk, c.os⟩) X I hs ?_
  refine exc_set_open X I hc hmro ht ?_
  unfold storeInOwnDict
  refine wpAny_bind (wpAny_pure ?_)
  rw [if_neg (by simp)]
  refine wpAny_bind ?_
  show wpAny _ _ (instanceDict e true) _ _ _
  unfold instanceDict
  refine wpAny_bind (wpAny_loadPart De.1 (wpAny_bind ((looks_clsIn X hc).here ?_)))
  rw [hhd]
  show wpAny _ _ (alloc { cls := .type "dict", data := .dict #[] } >>= fun d => update e (fun o => { o with dict := some d }) >>= fun _ => dictMade (.ref 81) e d) _ _ _
  have hlt : ∀ p ∈ ((e, excO none t0) :: r), p.1 < hp.objs.size := fun p hp' => Heap.lt_size (N p hp').1
  have F1 := F.push { cls := .type "dict", data := .dict #[] }
  have N1 := News.push F N { cls := .type "dict", data := .dict #[] }
  obtain ⟨F2, N2⟩ := news_upd (pre := [(hp.objs.size, _)]) (post := r) (d := e) (o := excO none t0) (o' := excO (some hp.objs.size) t0) (f := fun o => { o with dict := some hp.objs.size }) F1 N1
    (fun p hp' => by rw [List.mem_singleton.mp hp']; exact Nat.ne_of_gt (hlt _ (.head _))) hr rfl rfl
  refine wpAny_bind (wpAny_alloc (wpAny_bind (wpAny_update (N1 _ (.tail _ (.head _))).1 (wpAny_pure ?_))))
  unfold storeInDict newKeyGuard nsSet
  refine wpAny_bind (wpAny_pure (wpAny_bind (wpAny_bind (wpAny_bind (wpAny_askSetting (wpAny_pure (wpAny_bind (wpAny_mkText (wpAny_bind (wpAny_loadPart (N2 _ (.head _)).1 ?_))))))))))
  obtain ⟨F3, N3⟩ := news_upd (pre := []) (post := (e, excO (some hp.objs.size) t0) :: r) (d := hp.objs.size) (o := { cls := .type "dict", data := .dict #[] }) (o' := dictOf [⟨PyData.keyHash w.params name, .str name (tk + 1), v⟩] 1) (f := Obj.putName name (PyData.keyHash w.params name) (.str name (tk + 1)) v) F2 N2
    (fun p hp' => nomatch hp') (fun p hp' => by
      rcases List.mem_cons.mp hp' with rfl | hp'
      · exact Nat.ne_of_lt (hlt (e, excO none t0) (.head _))
      · exact Nat.ne_of_lt (hlt _ (.tail _ hp'))) rfl rfl
  refine wpAny_updatePart (N2 _ (.head _)).1 ?_
  refine wpAny_bind (wpAny_lookBehind (N3 _ (.head _)).1 (pastItsLine_dict (by rw [PySem.sizeLine_eq]; exact Nat.le_of_ble_eq_true rfl)) ?_)
  have N4 : News c.h₀ c.L _ ((e, excO (some hp.objs.size) t0) :: (hp.objs.size, dictOf [⟨PyData.keyHash w.params name, .str name (tk + 1), v⟩] 1) :: r) := fun p hp' => by
    refine N3 p ?_
    rcases List.mem_cons.mp hp' with rfl | hp'
    · exact .tail _ (.head _)
    · rcases List.mem_cons.mp hp' with rfl | hp'
      · exact .head _
      · exact .tail _ (.tail _ hp')
  exact wpAny_pure (post_intro F3 N4 (h _ _ hlt))
theorem J_setE1 (G : Good w c k) {e t0 d : Addr} {name : PySem.Str} {v : Value} {cd : ClassData} {r : Led} {es : List DictEntry} {es' : Tok → List DictEntry} {n n' : Nat} {Q : Unit → Vars → Led → Prop} (hr : ∀ p ∈ r, p.1 ≠ d) (he : (e, excO (some d) t0) ∈ r)
    (hs : findIn (Mine.KK w.params) (.ref 81) "__setattr__" = some (some (.builtin "object.__setattr__"))) (hc : clsIn (Mine.KK w.params) 81 = some cd) (hmro : cd.mro = excMro) (hhd : cd.hasDict = true)
    (ht : findIn (Mine.KK w.params) (.ref 81) name = some none) (hrk : es.any (·.refKey) = false)
    (hput : ∀ t, (putL name (PyData.keyHash w.params name) (.str name t) v es, putN name es n) = (es' t, n')) (hz : ∀ t, (es' t).length ≤ 1000)
    (h : ∀ t, Q () m ((d, dictOf (es' t) n') :: r)) :
    J w c (setAttr (.ref e) name v) Q m ((d, dictOf es n) :: r) := by
  intro hp tk F N
  have X : (Mine.KK w.params).In hp := G.X.keeps F.keep
  have De := N _ (.tail _ he)
  have Dd := N (d, dictOf es n) (.head _)
  have I : W.InstAt hp e (excO (some d) t0) 81 (some (dictOf es n)) := ⟨De.1, rfl, rfl, Dd.1⟩
  refine set_plain (s := ⟨hp, c.gs, c.dr, tk, c.os⟩) X I hs ?_
  refine exc_set_open X I hc hmro ht ?_
  unfold storeInOwnDict
  refine wpAny_bind (wpAny_pure ?_)
  rw [if_neg (by simp)]
  refine wpAny_bind ?_
  show wpAny _ _ (instanceDict e true) _ _ _
  unfold instanceDict
  refine wpAny_bind (wpAny_loadPart De.1 (wpAny_bind ((looks_clsIn X hc).here ?_)))
  rw [hhd]
  obtain ⟨e1, e2⟩ := Prod.mk.inj (hput (tk + 1))
  obtain ⟨F3, N3⟩ := news_upd (pre := []) (post := r) (d := d) (o := dictOf es n) (o' := dictOf (es' (tk + 1)) n') (f := Obj.putName name (PyData.keyHash w.params name) (.str name (tk + 1)) v) F N
    (fun p hp' => nomatch hp') hr (by rw [putName_dict, e1, e2]) rfl
  refine wpAny_pure (a := some d) ?_
  show wpAny _ _ (storeInDict d _ name v) _ _ _
  unfold storeInDict newKeyGuard nsSet
  refine wpAny_bind (wpAny_pure (wpAny_bind (wpAny_bind (wpAny_bind (wpAny_askSetting (wpAny_pure (wpAny_bind (wpAny_mkText (wpAny_bind (wpAny_loadPart Dd.1 ?_))))))))))
  dsimp only
  rw [aRefKeyMayBeTheName_at, ← Array.any_toList, ← Array.any_toList, hrk, Bool.and_false]
  refine wpAny_updatePart Dd.1 ?_
  refine wpAny_bind (wpAny_lookBehind (N3 _ (.head _)).1 (pastItsLine_dict (by rw [PySem.sizeLine_eq, List.size_toArray]; have := hz (tk + 1); omega)) ?_)
  exact wpAny_pure (post_intro F3 N3 (h _))
end


end

section
open PySem PySem.W PyProof.Rows PySem.Calls
def JA (w : World) (c : Cfg) (code : Code) {α : Type} (t : Sem α) (Q : α → Vars → Led → Prop) (m : Vars) (l : Led) : Prop :=
  ∀ h tk, Fr c.h₀ c.L h m → News c.h₀ c.L h l → _root_.PySem.wpAt (model PR w) c.A code t (Post c Q) c.E ⟨h, c.gs, c.dr, tk, c.os⟩
section
variable {w : World} {c : Cfg} {m : Vars} {l : Led} {k k' : Nat} {cn : PySem.Str} {cs : Scope} {a : Addr} {ccd : Value} {cl : List (PySem.Str × Addr)}
theorem JA.of {code : Code} {α : Type} {t : Sem α} {Q : α → Vars → Led → Prop} (h : J w c t Q m l) : JA w c code t Q m l := fun _ _ F N => wpAt_of_wpAny (h _ _ F N)
theorem J_locX {x : PySem.Str} {pos : Pos} {v : Value} {Q : Value → Vars → Led → Prop} (hv : m x = some v) (h : Q v m l)
    (hk : cs.kind = .function := by rfl) (hl : (envX cn cs c.L a ccd cl).kindOf x = some .local := by rfl) (hd : (x == ("__debug__" : PySem.Str)) = false := by decide) : J w c (eval (.Name x pos) (envX cn cs c.L a ccd cl)) Q m l :=
  fun _ _ F N => nameX_L F hv (post_intro F N h) hk hl hd
/-- a def's activation, at the code itself, where nothing is raised -/
theorem enterC (G : Good w c k') {A' : Around} (hA : A'.frames = some (c.env :: c.outer)) (hh : A'.handled = none) (hd : A'.depth + (k + 1) < 990) (hu : A'.units + 8 * (k + 1) < 9800)
    {oc : Value} {od an : Option Addr} {osl : Array (Option Value)} {name qual : PySem.Str} {params : Arguments} {body : List Stmt} {scope : Scope} {dV kV doc pm cdv ct : Value} {f : Addr} {vs : List Value} {binds : List (PySem.Str × Value)} {R : Result → Shared → Prop}
    {hp : Heap} {tk : Nat} (F : Fr c.h₀ c.L hp m) (N : News c.h₀ c.L hp l)
    (ho : (Mine.KK w.params).lookup f = some ⟨oc, od, .func (fnOf name qual params body scope dV kV doc pm an cdv ct), osl⟩) (hcd : codeIn (Mine.KK w.params) cdv qual = true)
    (hbind : ∀ s : Shared, (Mine.KK w.params).In s.heap → BindsTo s (fnOf name qual params body scope dV kV doc pm an cdv ct) ⟨vs, []⟩ binds)
    (hloc : (binds.all fun x => decide (scope.names.lookup x.1 = some .local)) = true)
    (h : ∀ c' : Cfg, Good w c' k → J w c' (execs body (envOf qual scope c'.L f cdv)) (fun fl _ l' => ∀ h tk, Fr c.h₀ c.L h m → News c.h₀ c.L h l' → R (.ok (.ret (retv fl))) ⟨h, c.gs, c.dr, tk, c.os⟩) (fun y => binds.reverse.lookup y) l)
    (hco : scope.isCoroutine = false) (hgen : scope.isGenerator = false) (hk : scope.kind = .function) (hcell : ∀ x ∈ scope.names, x.2 ≠ .cell) :
    codeAny (model PR w) A' (.call (.ref f) ⟨vs, []⟩) R ⟨hp, c.gs, c.dr, tk, c.os⟩ := by
  refine code_def (env := c.env) (outer := c.outer) (s := ⟨hp, c.gs, c.dr, tk, c.os⟩) G.B F G.X N G.T hA G.hf G.hk ho hcd (by show A'.depth < 1000; omega) (hbind _ (G.X.keeps F.keep)) (locs hloc) ?_ hco hgen hk hcell
  intro g L' h₁ FG F' N' B' X' T'
  let c' : Cfg := { A := A'.deeper (envOf qual scope L' f cdv), h₀ := g, L := L', gs := c.gs, dr := c.dr, os := c.os, env := envOf qual scope L' f cdv, outer := c.env :: c.outer, base := c.base, A₀ := A', mean := c.mean, mg := c.mg, mb := c.mb, pv := c.pv, ls := c.ls, E := fun _ _ => False }
  have G' : Good w c' k := { B := B', X := X', T := T', hA := Around.frames_deeper hA, hf := rfl, hk := hk, hh := hh, hd := by show A'.depth + 1 + k < 990; omega, hu := by show A'.units + 3 + 8 * k < 9800; omega, hp := PassesOwn.never }
  refine wpAny_mono (h c' G' h₁ _ F' N') (fun fl s' q => ?_) fun _ _ x => x.elim
  obtain ⟨m', l', h', tk', rfl, F'', N'', q⟩ := q
  cases fl <;> exact leaveK_ F'' N'' fun F N => q _ _ F N
/-- the same of a def that closes over its class -/
theorem enterS (G : Good w c k') {A' : Around} (hA : A'.frames = some (c.env :: c.outer)) (hh : A'.handled = none) (hd : A'.depth + (k + 1) < 990) (hu : A'.units + 8 * (k + 1) < 9800)
    {oc : Value} {od an : Option Addr} {osl : Array (Option Value)} {name qual : PySem.Str} {params : Arguments} {body : List Stmt} {scope : Scope} {dV kV doc pm cdv ct : Value} {f cc : Addr} {vs : List Value} {binds : List (PySem.Str × Value)} {R : Result → Shared → Prop}
    {hp : Heap} {tk : Nat} (F : Fr c.h₀ c.L hp m) (N : News c.h₀ c.L hp l)
    (ho : (Mine.KK w.params).lookup f = some ⟨oc, od, .func (ksFn name qual params body scope dV kV doc pm an cdv ct cc), osl⟩) (hcd : codeIn (Mine.KK w.params) cdv qual = true)
    (hbind : ∀ s : Shared, BindsTo s (ksFn name qual params body scope dV kV doc pm an cdv ct cc) ⟨vs, []⟩ binds)
    (hloc : (binds.all fun x => decide (scope.names.lookup x.1 = some .local)) = true)
    (h : ∀ c' : Cfg, Good w c' k → JA w c' (.func body (ksEnv qual scope c'.L f cdv cc)) (execs body (ksEnv qual scope c'.L f cdv cc)) (fun fl _ l' => ∀ h tk, Fr c.h₀ c.L h m → News c.h₀ c.L h l' → R (.ok (.ret (retv fl))) ⟨h, c.gs, c.dr, tk, c.os⟩) (fun y => binds.reverse.lookup y) l)
    (hcell : ∀ x ∈ scope.names, x.2 ≠ .cell) (hco : scope.isCoroutine = false) (hgen : scope.isGenerator = false) (hk : scope.kind = .function) :
    codeAny (model PR w) A' (.call (.ref f) ⟨vs, []⟩) R ⟨hp, c.gs, c.dr, tk, c.os⟩ := by
  refine ks_code_super (env := c.env) (outer := c.outer) (s := ⟨hp, c.gs, c.dr, tk, c.os⟩) G.B F G.X N G.T hA G.hf G.hk ho hcd (by show A'.depth < 1000; omega) (hbind _) (locs hloc) ?_ hcell hco hgen hk
  intro g L' h₁ FG F' N' B' X' T' _
  let c' : Cfg := { A := A'.deeper (ksEnv qual scope L' f cdv cc), h₀ := g, L := L', gs := c.gs, dr := c.dr, os := c.os, env := ksEnv qual scope L' f cdv cc, outer := c.env :: c.outer, base := c.base, A₀ := A', mean := c.mean, mg := c.mg, mb := c.mb, pv := c.pv, ls := c.ls, E := fun _ _ => False }
  have G' : Good w c' k := { B := B', X := X', T := T', hA := Around.frames_deeper hA, hf := rfl, hk := hk, hh := hh, hd := by show A'.depth + 1 + k < 990; omega, hu := by show A'.units + 3 + 8 * k < 9800; omega, hp := PassesOwn.never }
  refine ks_wpAt_mono (h c' G' h₁ _ F' N') (fun fl s' q => ?_) fun _ _ x => x.elim
  obtain ⟨m', l', h', tk', rfl, F'', N'', q⟩ := q
  cases fl <;> exact leaveK_ F'' N'' fun F N => q _ _ F N
/-- the statement super().__init__(..) at a def's head -/
theorem JA_super (G : Good w c k) {body rest : List Stmt} {q : PySem.Str} {scope : Scope} {p0 p1 apos pos spos : Pos} {args : List Expr} {attr : PySem.Str} {pl : Sem Bool} {fd : FuncData} {ar : Arg} {vs : Array Value} {file : PySem.Str} {tf : Tok} {oc ccl clv : Value} {od cdd cld : Option Addr} {osl ccs csl : Array (Option Value)} {cdD : ClassData}
    {f cda cc D x C : Addr} {ox : Obj} {odx : Option Obj} {Q : Flow → Vars → Led → Prop}
    (hf : (Mine.KK w.params).lookup f = some ⟨oc, od, .func fd, osl⟩) (hp : (fd.params.posonlyargs ++ fd.params.args).head? = some ar) (hv : m ar.arg = some (.ref x)) (I : ∀ h, News c.h₀ c.L h l → W.InstAt h x ox C odx)
    (hcode : (Mine.KK w.params).lookup cda = some ⟨ccl, cdd, .fields vs, ccs⟩) (hvs : vs[2]? = some (.str file tf)) (hfile : ((PR.main.file : PySem.Str) == file) = true)
    (hcell : (Mine.KK w.params).lookup cc = some ⟨clv, cld, .cell (some (.ref D)), csl⟩) (hD : clsIn (Mine.KK w.params) D = some cdD) (hsub : mroIn (Mine.KK w.params) C (.ref D) = some true) (hsuper : nsIn (Mine.KK w.params) mainGlobals "super" = some none)
    (hat : (attr == ("__class__" : PySem.Str)) = false) (hks : scope.names.lookup ("super" : PySem.Str) = some .globalImplicit) (hkc : scope.names.lookup ("__class__" : PySem.Str) = some .free) (hka : scope.names.lookup ar.arg = some .local) (hk : scope.kind = .function)
    (htop : (PR.main.scope.names.lookup ("super" : PySem.Str)).isSome = false) (hboot : bootBuiltins "super" = some (.type "super"))
    (h : ∀ so, (∀ p ∈ l, p.1 < so) → J w c (getMethod (.ref so) attr pl) (fun fx m l => J w c (callWith pos fx.1 fx.2 (backTo pos (starEach args (ksEnv q scope c.L f (.ref cda) cc))) []) (fun _ m l => J w c (execs rest (ksEnv q scope c.L f (.ref cda) cc)) Q m l) m l) m ((so, ks_superObj D x C) :: l))
    (he : eval (.Call (.Attribute (.Call (.Name "super" p0) [] [] p1) attr apos) args [] pos) (ksEnv q scope c.L f (.ref cda) cc) = (do
        let ov ← attributeBase (.Call (.Name "super" p0) [] [] p1) attr (ksEnv q scope c.L f (.ref cda) cc) (eval (.Call (.Name "super" p0) [] [] p1) (ksEnv q scope c.L f (.ref cda) cc))
        standAt apos.atName
        let (g, first) ← holding [ov] (getMethod ov attr pl)
        callWith pos g first (backTo pos (starEach args (ksEnv q scope c.L f (.ref cda) cc))) []))
    (hi : interactive (ksEnv q scope c.L f (.ref cda) cc) = false) (hs : swapsWith (.Call (.Attribute (.Call (.Name "super" p0) [] [] p1) attr apos) args [] pos) none spos.line (ksEnv q scope c.L f (.ref cda) cc) = pure false) :
    JA w c (.func body (ksEnv q scope c.L f (.ref cda) cc)) (execs (.Expr (.Call (.Attribute (.Call (.Name "super" p0) [] [] p1) attr apos) args [] pos) spos :: rest) (ksEnv q scope c.L f (.ref cda) cc)) Q m l := by
  intro hp' tk F N
  refine ks_wpAt_execs_cons (ks_wpAt_Expr_any (ks_wpAt_MethodCall ?_ he) hi hs)
  refine ks_node (s := ⟨hp', c.gs, c.dr, tk, c.os⟩) F G.X N G.T hf hp hv (I _ N) hcode hvs hfile hcell hD hsub hsuper hat hks hkc hka hk htop hboot ?_
  intro so h' F' N' l1
  refine (h so l1).use F' N' fun fx m₁ l₁ h₁ tk₁ F₁ N₁ q => ?_
  refine q.use F₁ N₁ fun _ m₂ l₂ h₂ tk₂ F₂ N₂ q => ?_
  exact wpAt_of_wpAny (q _ _ F₂ N₂)
end


end

section
open PySem PySem.W PyProof.Rows PySem.Calls
section
variable {w : World} {c : Cfg} {m : Vars} {l : Led} {k : Nat} {x y : PySem.Str} {t u v : Tok} {i j : Int} {Q : Value → Vars → Led → Prop}
theorem J_eqs {b : Bool} (e : (x == y) = b) (h : Q (.bool b) m l) : J w c (compareOp .Eq (.str x t) (.str y u)) Q m l := fun _ _ F N => eq_str (e ▸ post_intro F N h)
theorem J_nes {b : Bool} (e : (x != y) = b) (h : Q (.bool b) m l) : J w c (compareOp .NotEq (.str x t) (.str y u)) Q m l := fun _ _ F N => ne_str (e ▸ post_intro F N h)
theorem J_in1 {n : Nat} {b : Bool} {ys : List Nat} (hx : x.cps.toList = ys) (e : decide (n ∈ ys) = b) (h : Q (.bool b) m l) : J w c (compareOp .In (.str ⟨#[n]⟩ u) (.str x t)) Q m l :=
  fun _ _ F N => in_str (by rw [PySem.StrLaws.found_one, hx, e]; exact post_intro F N h)
theorem J_ge (h : Q (.bool (decide (j ≤ i))) m l) : J w c (compareOp .GtE (.int i t) (.int j u)) Q m l := fun _ _ F N => PyProof.Rows.ge_int (post_intro F N h)
theorem J_le (h : Q (.bool (decide (i ≤ j))) m l) : J w c (compareOp .LtE (.int i t) (.int j u)) Q m l := fun _ _ F N => PyProof.Rows.le_int (post_intro F N h)
theorem J_subK {a : Addr} {value slice : Expr} {vs : List Value} {n jj : Nat} {dd : Option Addr} {sl : Array (Option Value)} {vv : Value} (G : Good w c k) (hl : (Mine.KK w.params).lookup a = some ⟨.type "tuple", dd, .seq vs.toArray n, sl⟩) (h0 : 0 ≤ i) (h1 : i < 1000) (hx : vs[i.toNat]? = some vv) (h : Q vv m l)
    (hs : subscripted slice false (.ref a) (.int i u) = operate [.ref a, .int i u] (getItem (.ref a) (.int i u)) := by with_unfolding_all rfl) : J w c (subscriptTail value slice (.ref a) (.int i u)) Q m l :=
  fun _ _ F N => topTup_K F G.X hl (by omega) (by omega) (j := i.toNat) (by
    have := (List.getElem?_eq_some_iff.mp hx).1
    unfold seqIndex?; simp; omega) hx (post_intro F N h) hs
theorem J_join {d : Addr} {vs : List Value} {n : Nat} {ys : List PySem.Str} {b : PySem.Str} (hm : (d, W.listOf vs.toArray n) ∈ l) (hi : StrsAre vs ys) (hz : (ys.map (·.length)).sum + ys.length * x.length ≤ 16777216) (e : Txt.join x ys = b)
    (h : ∀ t, Q (.str b t) m l) : J w c (call (.builtin "str.join") [.str x t, .ref d]) Q m l :=
  fun _ _ F N => join_list (N.isList hm) (by simpa using hi) hz fun t' k => by rw [e]; exact post_intro F N (h t')
theorem J_inttext {n : Int} (hn : PySem.intText? x = some n) (hz : x.length ≤ 640) (h : ∀ t, Q (.int n t) m l) : J w c (call (.type "int") [.str x t]) Q m l :=
  fun _ _ F N => KIN.call_text hn hz (post_intro F N (h _))
end


end

section
open PySem PySem.W
/-! the built text, and what is told of it -/
def Sx (l : List Nat) : PySem.Str := ⟨l.toArray⟩
theorem Sx_len (l : List Nat) : (Sx l).length = l.length := by simp [Sx, Str.length]
theorem Sx_app (a b : List Nat) : Sx a ++ Sx b = Sx (a ++ b) := by
  show Str.append _ _ = _
  simp [Sx, Str.append]
inductive Ps
  | nil
  | sg (c : Nat) (r : Ps)
  | es (k : Nat) (r : Ps)
  | inn (i : Nat) (q r : Ps)
def esc : Nat → Nat
  | 0 => 110 | 1 => 116 | 2 => 34 | 3 => 92 | _ => 113
def wor : Nat → List Nat
  | 0 => [10] | 1 => [9] | 2 => [34] | 3 => [92] | _ => []
def bodyOf : Nat → List Nat → List Nat
  | 0, _ => [120, 49] | 1, _ => [49, 50, 32, 43, 121] | 2, _ => [40, 97, 41] | _, t => 32 :: 34 :: (t ++ [34])
def rend : Ps → List Nat
  | .nil => []
  | .sg c r => c :: rend r
  | .es k r => 92 :: esc k :: rend r
  | .inn i q r => 92 :: 40 :: (bodyOf i (rend q) ++ 41 :: rend r)
def nest : Ps → Nat
  | .nil => 0
  | .sg _ r => nest r
  | .es _ r => nest r
  | .inn i q r => max (if i < 3 then 0 else nest q + 1) (nest r)
abbrev bl (i : Nat) (q : Ps) : Nat := (bodyOf i (rend q)).length
def scan : Ps → Nat → Nat → Nat → Nat → Option Nat
  | .nil, p, b, _, e => if p < e then none else some b
  | .sg c r, p, b, dp, e => if e ≤ p ∨ c = 10 then some b else scan r (p + 1) b dp e
  | .es k r, p, b, dp, e => if e ≤ p then some b else if e ≤ p + 1 ∨ 4 ≤ k then some (p + 1) else scan r (p + 2) b dp e
  | .inn i q r, p, b, dp, e => if e ≤ p then some b else if e ≤ p + 1 ∨ dp = 4 then some (p + 1) else if e ≤ p + 2 + bl i q then some (p + 2) else
      match (if i < 3 then none else scan q (p + 4) (p + 3) (dp + 1) (p + 2 + bl i q)) with
      | some f => some f
      | none => scan r (p + 3 + bl i q) b dp e
abbrev tk3 (k : PySem.Str) (v : Dat) (p : Nat) : Dat := .tuple [.str k, v, .int p]
def inToks : Nat → List Dat → Nat → List Dat
  | 0, _, h => [tk3 "name" (.str (Sx [120, 49])) h]
  | 1, _, h => [tk3 "int" (.int 12) h, tk3 "sign" (.str (Sx [43])) (h + 3), tk3 "name" (.str (Sx [121])) (h + 4)]
  | 2, _, h => [tk3 "sign" (.str (Sx [40])) h, tk3 "name" (.str (Sx [97])) (h + 1), tk3 "sign" (.str (Sx [41])) (h + 2)]
  | _, d, h => [tk3 "str" (.list d) (h + 1)]
def pcs : Ps → List Nat → Nat → List Dat
  | .nil, a, _ => [.str (Sx a)]
  | .sg c r, a, p => pcs r (a ++ [c]) (p + 1)
  | .es k r, a, p => pcs r (a ++ wor k) (p + 2)
  | .inn i q r, a, p => .str (Sx a) :: .list (inToks i (pcs q [] (p + 4)) (p + 2) ++ [tk3 "end" (.str (Sx [])) (p + 2 + bl i q)]) :: pcs r [] (p + 3 + bl i q)
abbrev strTok (ps : Ps) (b : Nat) : Dat := tk3 "str" (.list (pcs ps [] (b + 1))) b
def flt1 (i : Nat) (fq : List (Nat × Nat)) (p dp : Nat) : List (Nat × Nat) := if dp = 4 then [(p + 1, p + 1)] else if i < 3 then [] else fq
def flt : Ps → Nat → Nat → Nat → List (Nat × Nat)
  | .nil, _, _, _ => []
  | .sg c r, p, b, dp => (if c = 10 then [(p, b)] else []) ++ flt r (p + 1) b dp
  | .es k r, p, b, dp => (if 4 ≤ k then [(p + 1, p + 1)] else []) ++ flt r (p + 2) b dp
  | .inn i q r, p, b, dp => flt1 i (flt q (p + 4) (p + 3) (dp + 1)) p dp ++ flt r (p + 3 + bl i q) b dp
structure Row where
  way : Nat
  here : Nat
  rest : Nat
  fs : List (Nat × Nat)
def rows : Ps → Nat → Nat → Nat → List Row
  | .nil, _, _, _ => []
  | .sg c r, p, b, dp => ⟨0, p, p + 1, if c = 10 then [(p, b)] else []⟩ :: rows r (p + 1) b dp
  | .es k r, p, b, dp => ⟨1, p, p + 2, if 4 ≤ k then [(p + 1, p + 1)] else []⟩ :: rows r (p + 2) b dp
  | .inn i q r, p, b, dp => ⟨2, p, p + 3 + bl i q, flt1 i (flt q (p + 4) (p + 3) (dp + 1)) p dp⟩ :: rows r (p + 3 + bl i q) b dp
def refus : List Row → Nat → Nat → Nat → Nat → Option Nat
  | [], b, z, _, e => if e < z then some b else none
  | r :: rs, b, z, dp, e => if e ≤ r.here then some b else if 0 < r.way ∧ r.here + 1 = e then some e else if r.way = 2 ∧ dp < 4 ∧ e < r.rest then some (r.here + 2) else
      match r.fs.head? with
      | some f => some f.2
      | none => refus rs b z dp e
theorem flt_rows : ∀ (ps : Ps) (p b dp : Nat), flt ps p b dp = (rows ps p b dp).flatMap Row.fs
  | .nil, _, _, _ => rfl
  | .sg c r, p, b, dp => by rw [flt, rows, List.flatMap_cons, ← flt_rows r]
  | .es k r, p, b, dp => by rw [flt, rows, List.flatMap_cons, ← flt_rows r]
  | .inn i q r, p, b, dp => by rw [flt, rows, List.flatMap_cons, ← flt_rows r]
abbrev plen (ps : Ps) : Nat := (rend ps).length
theorem plen_inn (i : Nat) (q r : Ps) : plen (.inn i q r) = 3 + bl i q + plen r := by simp [rend, plen, bl]; omega
theorem bl_str {i : Nat} (q : Ps) (h : 3 ≤ i) : bl i q = plen q + 3 := by
  match i, h with
  | n + 3, _ => simp [bl, bodyOf, plen]
/-- the faults lie in their part, one behind the other -/
theorem flt_in : ∀ (ps : Ps) (p b dp : Nat), (∀ x ∈ flt ps p b dp, p ≤ x.1 ∧ x.1 < p + plen ps) ∧ (flt ps p b dp).Pairwise (fun x y => x.1 < y.1)
  | .nil, _, _, _ => by simp [flt]
  | .sg c r, p, b, dp => by
    obtain ⟨h1, h2⟩ := flt_in r (p + 1) b dp
    have hl : plen (.sg c r) = plen r + 1 := by simp [rend, plen]
    rw [flt, hl]
    split
    · refine ⟨fun x hx => ?_, List.Pairwise.cons (fun y hy => by have := h1 y hy; simp only; omega) h2⟩
      rcases List.mem_cons.mp hx with rfl | hx
      · simp only; omega
      · have := h1 x hx; omega
    · exact ⟨fun x hx => by have := h1 x hx; omega, h2⟩
  | .es k r, p, b, dp => by
    obtain ⟨h1, h2⟩ := flt_in r (p + 2) b dp
    have hl : plen (.es k r) = plen r + 2 := by simp [rend, plen]
    rw [flt, hl]
    split
    · refine ⟨fun x hx => ?_, List.Pairwise.cons (fun y hy => by have := h1 y hy; simp only; omega) h2⟩
      rcases List.mem_cons.mp hx with rfl | hx
      · simp only; omega
      · have := h1 x hx; omega
    · exact ⟨fun x hx => by have := h1 x hx; omega, h2⟩
  | .inn i q r, p, b, dp => by
    obtain ⟨h1, h2⟩ := flt_in r (p + 3 + bl i q) b dp
    obtain ⟨h3, h4⟩ := flt_in q (p + 4) (p + 3) (dp + 1)
    have h5 : (∀ x ∈ flt1 i (flt q (p + 4) (p + 3) (dp + 1)) p dp, p ≤ x.1 ∧ x.1 < p + 3 + bl i q) ∧ (flt1 i (flt q (p + 4) (p + 3) (dp + 1)) p dp).Pairwise (fun x y => x.1 < y.1) := by
      unfold flt1
      split
      · simp; omega
      · split
        · simp
        · have := bl_str q (show 3 ≤ i by omega)
          exact ⟨fun x hx => by have := h3 x hx; omega, h4⟩
    rw [flt, plen_inn]
    refine ⟨fun x hx => ?_, List.pairwise_append.mpr ⟨h5.2, h2, fun x hx y hy => by have := h5.1 x hx; have := h1 y hy; omega⟩⟩
    rcases List.mem_append.mp hx with hx | hx
    · have := h5.1 x hx; omega
    · have := h1 x hx; omega
/-- a string that stands whole is refused by its first fault -/
theorem scan_flt : ∀ (ps : Ps) (p b dp e : Nat), p + plen ps < e → scan ps p b dp e = (flt ps p b dp).head?.map (·.2)
  | .nil, p, b, dp, e, h => by simp [plen, rend] at h; simp [scan, flt]; omega
  | .sg c r, p, b, dp, e, h => by
    have hl : plen (.sg c r) = plen r + 1 := by simp [rend, plen]
    rw [scan, flt]
    split <;> rename_i q
    · have : c = 10 := by omega
      simp [this]
    · have : c ≠ 10 := by omega
      rw [scan_flt r _ _ _ _ (by omega)]; simp [this]
  | .es k r, p, b, dp, e, h => by
    have hl : plen (.es k r) = plen r + 2 := by simp [rend, plen]
    rw [scan, flt, if_neg (by omega)]
    split <;> rename_i q
    · have : 4 ≤ k := by omega
      simp [this]
    · have : ¬ 4 ≤ k := by omega
      rw [scan_flt r _ _ _ _ (by omega)]; simp [this]
  | .inn i q r, p, b, dp, e, h => by
    rw [plen_inn] at h
    rw [scan, flt, if_neg (by omega), flt1]
    split <;> rename_i z
    · have : dp = 4 := by omega
      simp [this]
    · have hd : dp ≠ 4 := by omega
      rw [if_neg (by omega), if_neg hd, scan_flt r _ _ _ _ (by omega)]
      by_cases hi : i < 3
      · simp [hi]
      · have := bl_str q (show 3 ≤ i by omega)
        rw [if_neg hi, if_neg hi, scan_flt q _ _ _ _ (by omega)]
        cases flt q (p + 4) (p + 3) (dp + 1) <;> simp
/-- the law's own refusal says the same -/
theorem refus_scan : ∀ (ps : Ps) (p b dp e : Nat), dp ≤ 4 → refus (rows ps p b dp) b (p + plen ps + 1) dp e = scan ps p b dp e
  | .nil, p, b, dp, e, hd => by simp [rows, refus, scan, plen, rend]; split <;> split <;> first | rfl | omega
  | .sg c r, p, b, dp, e, hd => by
    have hl : plen (.sg c r) = plen r + 1 := by simp [rend, plen]
    rw [rows, refus, scan]
    dsimp only
    by_cases h1 : e ≤ p
    · simp [h1]
    · rw [if_neg h1, if_neg (by simp), if_neg (by simp)]
      by_cases h2 : c = 10
      · simp [h2]
      · simp only [h1, h2, or_self, if_false, List.head?_nil]
        rw [← refus_scan r _ _ _ _ hd, hl, show p + (plen r + 1) + 1 = p + 1 + plen r + 1 by omega]
  | .es k r, p, b, dp, e, hd => by
    have hl : plen (.es k r) = plen r + 2 := by simp [rend, plen]
    rw [rows, refus, scan]
    dsimp only
    by_cases h1 : e ≤ p
    · simp [h1]
    · rw [if_neg h1, if_neg h1]
      by_cases h2 : p + 1 = e
      · rw [if_pos ⟨Nat.zero_lt_succ _, h2⟩, if_pos (by omega), h2]
      · rw [if_neg (by simp [h2]), if_neg (by simp)]
        by_cases h3 : 4 ≤ k
        · simp [h3]
        · have h4 : ¬ e ≤ p + 1 := by omega
          simp only [h4, h3, or_self, if_false, List.head?_nil]
          rw [← refus_scan r _ _ _ _ hd, hl, show p + (plen r + 2) + 1 = p + 2 + plen r + 1 by omega]
  | .inn i q r, p, b, dp, e, hd => by
    rw [rows, refus, scan]
    dsimp only
    by_cases h1 : e ≤ p
    · simp [h1]
    · rw [if_neg h1, if_neg h1]
      by_cases h2 : p + 1 = e
      · rw [if_pos ⟨Nat.zero_lt_succ _, h2⟩, if_pos (by omega), h2]
      · rw [if_neg (by simp [h2])]
        by_cases h3 : dp = 4
        · rw [if_neg (by omega), if_pos (by omega), flt1, if_pos h3]; rfl
        · by_cases h4 : e < p + 3 + bl i q
          · rw [if_pos ⟨rfl, by omega, h4⟩, if_neg (by omega), if_pos (by omega)]
          · rw [if_neg (by omega), if_neg (by omega), if_neg (by omega), flt1, if_neg h3]
            have hr : refus (rows r (p + 3 + bl i q) b dp) b (p + plen (.inn i q r) + 1) dp e = scan r (p + 3 + bl i q) b dp e := by
              rw [← refus_scan r _ _ _ _ hd, plen_inn, show p + (3 + bl i q + plen r) + 1 = p + 3 + bl i q + plen r + 1 by omega]
            by_cases hi : i < 3
            · simp only [hi, if_true]; exact hr
            · have := bl_str q (show 3 ≤ i by omega)
              rw [if_neg hi, if_neg hi, scan_flt q _ _ _ _ (by omega)]
              cases flt q (p + 4) (p + 3) (dp + 1) <;> simp [hr]
/-! brackets -/
def run : Nat → List Nat → Option Nat
  | d, [] => some d
  | d, c :: t => if c = 40 then run (d + 1) t else if c = 41 then (if d ≤ 1 then none else run (d - 1) t) else run d t
theorem run_app : ∀ (d : Nat) (a b : List Nat), run d (a ++ b) = (run d a).bind fun d' => run d' b
  | d, [], b => rfl
  | d, c :: t, b => by
    rw [List.cons_append, run, run]
    split
    · exact run_app _ t b
    · split
      · split
        · rfl
        · exact run_app _ t b
      · exact run_app _ t b
/-- what signs may stand; brackets only in the outermost string -/
def wf (top : Bool) : Ps → Prop
  | .nil => True
  | .sg c r => c ∈ (if top then [97, 37, 47, 42, 39, 32, 10, 40, 41] else [97, 37, 47, 42, 39, 32, 10]) ∧ wf top r
  | .es k r => k < 5 ∧ wf top r
  | .inn i q r => (3 ≤ i → wf false q) ∧ wf top r
theorem run_body (i : Nat) (t : List Nat) (d : Nat) (hd : 1 ≤ d) (h : 3 ≤ i → run d t = some d) : run d (bodyOf i t) = some d := by
  match i with
  | 0 => simp [bodyOf, run]
  | 1 => simp [bodyOf, run]
  | 2 => simp [bodyOf, run]; omega
  | n + 3 =>
    show run d (32 :: 34 :: (t ++ [34])) = _
    simp only [run, show ¬ (32 = 40) by decide, show ¬ (32 = 41) by decide, show ¬ (34 = 40) by decide, show ¬ (34 = 41) by decide, if_false]
    rw [run_app, h (by omega)]
    simp [run]
theorem run_rend : ∀ (ps : Ps) (d : Nat), 1 ≤ d → wf false ps → run d (rend ps) = some d
  | .nil, d, _, _ => rfl
  | .sg c r, d, hd, ⟨h1, h2⟩ => by
    have : c ≠ 40 ∧ c ≠ 41 := by simp at h1; omega
    rw [rend, run, if_neg this.1, if_neg this.2, run_rend r d hd h2]
  | .es k r, d, hd, ⟨h1, h2⟩ => by
    have : esc k ≠ 40 ∧ esc k ≠ 41 := by
      match k with
      | 0 | 1 | 2 | 3 => decide
      | n + 4 => simp [esc]
    rw [rend, run, if_neg (by decide), if_neg (by decide), run, if_neg this.1, if_neg this.2, run_rend r d hd h2]
  | .inn i q r, d, hd, ⟨h1, h2⟩ => by
    rw [rend, run, if_neg (by decide), if_neg (by decide), run, if_pos rfl, run_app, run_body i _ _ (by omega) (fun hi => run_rend q _ (by omega) (h1 hi))]
    show run (d + 1) (41 :: rend r) = _
    rw [run, if_neg (by decide), if_pos rfl, if_neg (by omega)]
    exact run_rend r d hd h2
theorem run_in (i : Nat) (q : Ps) (h : 3 ≤ i → wf false q) : run 1 (bodyOf i (rend q)) = some 1 := run_body i _ 1 (Nat.le_refl _) fun hi => run_rend q 1 (Nat.le_refl _) (h hi)


end

section
open PySem PySem.W PyProof.Rows PySem.Calls PySem.Builtin PySem.Builtin.Str
def strsOf : List Value → Option (List PySem.Str)
  | [] => some []
  | .str y _ :: r => (strsOf r).map (y :: ·)
  | _ => none
theorem strsAre_of : ∀ {vs : List Value} {ys : List PySem.Str}, strsOf vs = some ys → StrsAre vs ys
  | [], _, h => by cases h; exact .nil
  | .str y t :: r, ys, h => by
    obtain ⟨zs, h1, rfl⟩ := Option.map_eq_some_iff.mp h
    exact .cons y t (strsAre_of h1)
theorem beq_Sx {a ys : List Nat} {y : PySem.Str} (hy : y.cps.toList = ys) : (Sx a == y) = decide (a = ys) := by
  subst hy
  rw [Bool.eq_iff_iff, beq_iff_eq, decide_eq_true_eq]
  constructor
  · rintro rfl; rfl
  · rintro rfl
    obtain ⟨⟨q⟩⟩ := y
    rfl
theorem any_Sx {a : List Nat} {ys : List PySem.Str} {zs : List (List Nat)} (h : ys.map (·.cps.toList) = zs) : ys.any (· == Sx a) = decide (a ∈ zs) := by
  subst h
  rw [Bool.eq_iff_iff, List.any_eq_true, decide_eq_true_eq, List.mem_map]
  constructor
  · rintro ⟨y, hy, e⟩
    exact ⟨y, hy, by rw [beq_iff_eq.mp e]; rfl⟩
  · rintro ⟨y, hy, rfl⟩
    exact ⟨y, hy, by rw [beq_iff_eq]; obtain ⟨⟨q⟩⟩ := y; rfl⟩
theorem range_get (L : List Nat) (i : Nat) : ∀ c, i + c ≤ L.length → (List.range c).filterMap (fun k => L[i + k]?) = (L.drop i).take c
  | 0, _ => by simp
  | c + 1, h => by
    rw [List.range_succ, List.filterMap_append, range_get L i c (by omega), List.take_add_one, List.getElem?_drop]
    have : i + c < L.length := by omega
    simp [this]
theorem slice_Sx (L : List Nat) (i j : Nat) (hi : i ≤ j) (hj : j ≤ L.length) : Txt.slice (Sx L) (some (i : Int)) (some (j : Int)) = Sx ((L.drop i).take (j - i)) := by
  have e : strSliceIndices (some (i : Int)) (some (j : Int)) 1 (Sx L).length = (List.range (j - i)).map (i + ·) := by
    unfold strSliceIndices sliceRange
    have h0 : ¬ ((i : Int) < 0) := by omega
    have h1 : ¬ ((j : Int) < 0) := by omega
    have h2 : max 0 (min (i : Int) ((Sx L).length : Nat)) = i := by rw [Sx_len]; omega
    have h3 : max 0 (min (j : Int) ((Sx L).length : Nat)) = j := by rw [Sx_len]; omega
    have h4 : (1 : Int) > 0 := by decide
    simp only [h0, h1, h4, if_true, if_false, h2, h3]
    have h5 : (if (i : Int) < j then ((j : Int) - i + 1 - 1) / 1 else 0).toNat = j - i := by split <;> omega
    rw [h5]
    apply List.map_congr_left
    intro k hk
    omega
  have f : ((List.range (j - i)).map (i + ·)).filterMap ((Sx L).cps[·]?) = (L.drop i).take (j - i) := by
    rw [List.filterMap_map, ← range_get L i (j - i) (by omega)]
    have g : ((Sx L).cps[·]?) ∘ (i + ·) = fun k => L[i + k]? := by funext k; simp [Sx]
    rw [g]
  unfold Txt.slice
  rw [e, f]
  split
  · rename_i q
    rw [List.length_map, List.length_range, Sx_len] at q
    have q' : j - i = L.length := by simpa using q
    have : i = 0 := by omega
    subst this
    rw [List.drop_zero, List.take_of_length_le (by omega)]
  · rfl
section
variable {w : World} {c : Cfg} {m : Vars} {l : Led} {k : Nat} {env : Env} {Q : Value → Vars → Led → Prop}
theorem J_isubI {i j : Int} {t u : Tok} (h : ∀ t, Q (.int (i - j) t) m l) : J w c (inplaceOp .Sub (.int i t) (.int j u)) Q m l := fun _ _ F N => isub_int (post_intro F N (h _))
theorem J_eqL {a ys : List Nat} {y : PySem.Str} {t u : Tok} {b : Bool} (hy : y.cps.toList = ys) (e : decide (a = ys) = b) (h : Q (.bool b) m l) : J w c (compareOp .Eq (.str (Sx a) t) (.str y u)) Q m l := J_eqs (by rw [beq_Sx hy]; exact e) h
theorem J_neL {a ys : List Nat} {y : PySem.Str} {t u : Tok} {b : Bool} (hy : y.cps.toList = ys) (e : (!decide (a = ys)) = b) (h : Q (.bool b) m l) : J w c (compareOp .NotEq (.str (Sx a) t) (.str y u)) Q m l := J_nes (by rw [bne, beq_Sx hy, e]) h
theorem J_ninT {d : Addr} {a : List Nat} {t : Tok} {vs : List Value} {n : Nat} {ys : List PySem.Str} {zs : List (List Nat)} {b : Bool} (hm : (d, tupO vs n) ∈ l) (hi : strsOf vs = some ys) (hz : ys.map (·.cps.toList) = zs) (e : (!decide (a ∈ zs)) = b) (h : Q (.bool b) m l) : J w c (compareOp .NotIn (.str (Sx a) t) (.ref d)) Q m l :=
  fun _ _ F N => notin_tuple_strs (tup_isTup N hm) (strsAre_of hi) (by rw [any_Sx hz, e]; exact post_intro F N h)
theorem J_inK {d : Addr} {a : List Nat} {t : Tok} {vs : List Value} {n : Nat} {ys : List PySem.Str} {zs : List (List Nat)} {b : Bool} {dd : Option Addr} {sl : Array (Option Value)} (G : Good w c k) (hl : (Mine.KK w.params).lookup d = some ⟨.type "tuple", dd, .seq vs.toArray n, sl⟩) (hi : strsOf vs = some ys) (hz : ys.map (·.cps.toList) = zs) (e : decide (a ∈ zs) = b) (h : Q (.bool b) m l) : J w c (compareOp .In (.str (Sx a) t) (.ref d)) Q m l :=
  fun _ _ F N => in_tuple_strs (tupK (G.X.keeps F.keep) hl) (strsAre_of hi) (by rw [any_Sx hz, e]; exact post_intro F N h)
theorem J_sliceS {value lo hi : Expr} {p pos : Pos}
    (h : J w c (eval value env) (fun o m l => J w c (eval lo env) (fun a m l => J w c (eval hi env) (fun b m l => ∃ (L : List Nat) (i j : Nat) (t ti tj : Tok), o = .str (Sx L) t ∧ a = .int (i : Int) ti ∧ b = .int (j : Int) tj ∧ i ≤ j ∧ j ≤ L.length ∧ L.length ≤ 5000 ∧ ∀ t, Q (.str (Sx ((L.drop i).take (j - i))) t) m l) m l) m l) m l)
    (hs : ∀ x t d, subscripted (.Slice (some lo) (some hi) none p) false (.str x t) (.ref d) = operate [.ref d, .str x t] (getItem (.str x t) (.ref d)) := by intro _ _ _; with_unfolding_all rfl) (ht : ∀ x t r, letTemporaryGo value (.str x t) r = pure () := by intro _ _ _; with_unfolding_all rfl) :
    J w c (eval (.Subscript value (.Slice (some lo) (some hi) none p) pos) env) Q m l :=
  fun _ _ F N => Subscript_ (h.use F N fun o m1 l1 h1 tk1 F1 N1 q => wpAny_Slice (q.use F1 N1 fun a m2 l2 h2 tk2 F2 N2 q => q.use F2 N2 fun b m3 l3 h3 tk3 F3 N3 q => by
    obtain ⟨L, i, j, t, ti, tj, rfl, rfl, rfl, hij, hj, hz, hq⟩ := q
    refine wpAny_pure ?_
    refine slice_strN_ss (s := ⟨h3, c.gs, c.dr, tk3, c.os⟩) F3 N3 (fun h' t' k F' N' => ?_) (hs _ _ _) (ht _ _) (by rw [Sx_len, PySem.sizeLine_eq]; omega)
    rw [slice_Sx L i j hij hj]
    exact post_intro F' N' (hq t')))
end


end

section
open PySem PySem.W
/-- no blank and no remark stands there -/
def stop (L : List Nat) (p e : Nat) : Prop := e ≤ p ∨ ∃ n, L[p]? = some n ∧ n ∉ [32, 9, 13, 10, 37, 47]
/-! what stands at a place of the text -/
abbrev At (L : List Nat) (p : Nat) (t : List Nat) : Prop := t <+: L.drop p
theorem At.head {L t : List Nat} {p a : Nat} (h : At L p (a :: t)) : L[p]? = some a := by
  obtain ⟨s, e⟩ := h
  have : (L.drop p)[0]? = some a := by rw [← e]; rfl
  rwa [List.getElem?_drop, Nat.add_zero] at this
theorem At.app {L a b : List Nat} {p : Nat} (h : At L p (a ++ b)) : At L p a ∧ At L (p + a.length) b := by
  obtain ⟨s, e⟩ := h
  refine ⟨⟨b ++ s, by rw [← e, List.append_assoc]⟩, ⟨s, ?_⟩⟩
  rw [← List.drop_drop, ← e, List.append_assoc, List.drop_left]
theorem At.tail {L t : List Nat} {p a : Nat} (h : At L p (a :: t)) : At L (p + 1) t := (At.app (a := [a]) h).2
theorem At.take {L t : List Nat} {p : Nat} (h : At L p t) : (L.drop p).take t.length = t := by
  obtain ⟨s, e⟩ := h
  rw [← e, List.take_left]
theorem At.get {L t : List Nat} {p i : Nat} (h : At L p t) (hi : i < t.length) : L[p + i]? = t[i]? := by
  obtain ⟨s, e⟩ := h
  have : (L.drop p)[i]? = t[i]? := by rw [← e, List.getElem?_append_left hi]
  rwa [List.getElem?_drop] at this
theorem At.len {L t : List Nat} {p : Nat} (h : At L p t) : p + t.length ≤ L.length ∨ t = [] := by
  have := h.length_le
  rw [List.length_drop] at this
  cases t with
  | nil => exact .inr rfl
  | cons a t => simp at this ⊢; omega
/-! the signs within an inner part, one token after the other -/
inductive It
  | wd (nm : List Nat)
  | nu
  | mk (ch c2 : Nat)
  | st (q : Ps)
def It.len : It → Nat
  | .wd nm => nm.length
  | .nu => 2
  | .mk _ _ => 1
  | .st q => plen q + 2
def It.gap : It → Nat
  | .nu => 1
  | _ => 0
def It.dat : It → Nat → Dat
  | .wd nm, p => tk3 "name" (.str (Sx nm)) p
  | .nu, p => tk3 "int" (.int 12) p
  | .mk ch _, p => tk3 "sign" (.str (Sx [ch])) p
  | .st q, p => strTok q p
def It.ok (L : List Nat) (e p : Nat) : It → Prop
  | .wd nm => nm ∈ [[120, 49], [121], [97]] ∧ At L p nm ∧ (e ≤ p + nm.length ∨ ∃ v, L[p + nm.length]? = some v ∧ v ∈ [40, 41, 43])
  | .nu => At L p [49, 50, 32] ∧ p + 2 < e
  | .mk ch c2 => ch ∈ [40, 41, 43] ∧ L[p]? = some ch ∧ L[p + 1]? = some c2 ∧ (ch = 43 → c2 ≠ 43)
  | .st q => At L p (34 :: rend q ++ [34]) ∧ wf false q
def Its (L : List Nat) (e : Nat) : List It → Nat → Prop
  | [], p => p = e
  | it :: r, p => p + it.len ≤ e ∧ p < e ∧ it.ok L e p ∧ (∀ i, i < it.gap → p + it.len + i < e ∧ L[p + it.len + i]? = some 32) ∧ stop L (p + it.len + it.gap) e ∧ Its L e r (p + it.len + it.gap)
def Its.dats : List It → Nat → List Dat
  | [], _ => []
  | it :: r, p => it.dat p :: Its.dats r (p + it.len + it.gap)
def itsOf : Nat → Ps → List It
  | 0, _ => [.wd [120, 49]]
  | 1, _ => [.nu, .mk 43 121, .wd [121]]
  | 2, _ => [.mk 40 97, .wd [97], .mk 41 41]
  | _, q => [.st q]
abbrev lead (i : Nat) : Nat := if i < 3 then 0 else 1
theorem its_body {L : List Nat} {i p e : Nat} {q : Ps} (h : At L p (bodyOf i (rend q))) (he : e = p + bl i q) (hc : L[e]? = some 41) (hw : 3 ≤ i → wf false q) :
    (∀ j, j < lead i → p + j < e ∧ L[p + j]? = some 32) ∧ stop L (p + lead i) e ∧ Its L e (itsOf i q) (p + lead i) ∧ Its.dats (itsOf i q) (p + lead i) = inToks i (pcs q [] (p + 2)) p := by
  match i with
  | 0 =>
    obtain rfl : e = p + 2 := he
    exact ⟨fun j hj => absurd hj (Nat.not_lt_zero _), .inr ⟨_, At.head h, by decide⟩, ⟨Nat.le_refl _, (Nat.lt_add_of_pos_right (by decide) : p < p + 2), ⟨by decide, h, .inl (Nat.le_refl _)⟩, fun j hj => absurd hj (Nat.not_lt_zero _), .inl (Nat.le_refl _), rfl⟩, rfl⟩
  | 1 =>
    obtain rfl : e = p + 5 := he
    have h' : At L p ([49, 50, 32] ++ [43, 121]) := h
    obtain ⟨ha, hb⟩ := h'.app
    exact ⟨fun j hj => absurd hj (Nat.not_lt_zero _), .inr ⟨_, At.head h, by decide⟩,
      ⟨by show p + 2 ≤ p + 5; omega, by show p < p + 5; omega, ⟨ha, by show p + 2 < p + 5; omega⟩, fun j hj => by
        obtain rfl : j = 0 := Nat.lt_one_iff.mp hj
        exact ⟨by show p + 2 + 0 < p + 5; omega, At.head (At.tail (At.tail ha))⟩, .inr ⟨43, At.head hb, by decide⟩,
        by show p + 3 + 1 ≤ p + 5; omega, by show p + 3 < p + 5; omega, ⟨by decide, At.head hb, At.head (At.tail hb), fun _ => by decide⟩, fun j hj => absurd hj (Nat.not_lt_zero _), .inr ⟨121, At.head (At.tail hb), by decide⟩,
        Nat.le_refl _, by show p + 4 < p + 5; omega, ⟨by decide, At.tail hb, .inl (Nat.le_refl _)⟩, fun j hj => absurd hj (Nat.not_lt_zero _), .inl (Nat.le_refl _), rfl⟩, rfl⟩
  | 2 =>
    obtain rfl : e = p + 3 := he
    have h' : At L p ([40] ++ ([97] ++ [41])) := h
    obtain ⟨ha, hb⟩ := h'.app
    obtain ⟨hb1, hb2⟩ := hb.app
    exact ⟨fun j hj => absurd hj (Nat.not_lt_zero _), .inr ⟨_, At.head h, by decide⟩,
      ⟨by show p + 1 ≤ p + 3; omega, by show p < p + 3; omega, ⟨by decide, At.head h, At.head hb1, fun z => by cases z⟩, fun j hj => absurd hj (Nat.not_lt_zero _), .inr ⟨97, At.head hb1, by decide⟩,
        by show p + 1 + 1 ≤ p + 3; omega, by show p + 1 < p + 3; omega, ⟨by decide, hb1, .inr ⟨41, At.head hb2, by decide⟩⟩, fun j hj => absurd hj (Nat.not_lt_zero _), .inr ⟨41, At.head hb2, by decide⟩,
        Nat.le_refl _, by show p + 2 < p + 3; omega, ⟨by decide, At.head hb2, hc, fun z => by cases z⟩, fun j hj => absurd hj (Nat.not_lt_zero _), .inl (Nat.le_refl _), rfl⟩, rfl⟩
  | n + 3 =>
    have e1 : bl (n + 3) q = plen q + 3 := bl_str q (by omega)
    have h' : At L p (32 :: (34 :: rend q ++ [34])) := h
    have hlead : lead (n + 3) = 1 := if_neg (by omega)
    rw [hlead]
    refine ⟨fun j hj => ?_, .inr ⟨34, At.head (At.tail h'), by decide⟩, ⟨by show p + 1 + (plen q + 2) ≤ e; omega, by omega, ⟨At.tail h', hw (by omega)⟩, fun j hj => absurd hj (Nat.not_lt_zero _), .inl (by show e ≤ p + 1 + (plen q + 2); omega), by show p + 1 + (plen q + 2) = e; omega⟩, rfl⟩
    obtain rfl : j = 0 := Nat.lt_one_iff.mp hj
    exact ⟨by omega, At.head h'⟩


end

section
open PySem PySem.W PyProof.Rows PySem.Calls PySem.Builtin PySem.Builtin.Str
theorem sw2 {α : Type} {a b : α} {l : List α} : ∀ q ∈ a :: b :: l, q ∈ b :: a :: l := fun q hq => by
  rcases List.mem_cons.mp hq with rfl | hq
  · exact .tail _ (.head _)
  · rcases List.mem_cons.mp hq with rfl | hq
    · exact .head _
    · exact .tail _ (.tail _ hq)
theorem sub_cons {α : Type} {a : α} {A B : List α} (h : ∀ q ∈ A, q ∈ B) : ∀ q ∈ a :: A, q ∈ a :: B := fun q hq => by
  rcases List.mem_cons.mp hq with rfl | hq
  · exact .head _
  · exact .tail _ (h q hq)
theorem sw3 {α : Type} {a b c : α} {l : List α} : ∀ q ∈ a :: b :: c :: l, q ∈ b :: c :: a :: l := fun q hq => by
  rcases List.mem_cons.mp hq with rfl | hq
  · exact .tail _ (.tail _ (.head _))
  · exact sub_cons (sub_cons fun q h => .tail _ h) q hq
theorem mid {α : Type} {a : α} {A B : List α} : ∀ q ∈ A ++ a :: B, q ∈ a :: (A ++ B) := fun q hq => by
  rcases List.mem_append.mp hq with hq | hq
  · exact .tail _ (List.mem_append_left _ hq)
  · exact sub_cons (fun q h => List.mem_append_right _ h) q hq
theorem mid' {α : Type} {a : α} {A B : List α} : ∀ q ∈ a :: (A ++ B), q ∈ A ++ a :: B := fun q hq => by
  rcases List.mem_cons.mp hq with rfl | hq
  · exact List.mem_append_right _ (.head _)
  · exact (List.mem_append.mp hq).elim (List.mem_append_left _) fun h => List.mem_append_right _ (.tail _ h)
theorem eq_Sx {y : PySem.Str} {z : List Nat} (h : y.cps.toList = z) : y = Sx z := by
  obtain ⟨⟨q⟩⟩ := y
  subst h; rfl
theorem strs_at : ∀ {vs : List Value} {ys : List PySem.Str} {i : Nat} {v : Value}, strsOf vs = some ys → vs[i]? = some v → ∃ y t, v = .str y t ∧ ys[i]? = some y
  | [], _, _, _, _, h => by simp at h
  | .str y t :: r, ys, i, v, h, hv => by
    obtain ⟨zs, h1, rfl⟩ := Option.map_eq_some_iff.mp h
    cases i with
    | zero => simp at hv; exact ⟨y, t, hv.symm, rfl⟩
    | succ i => simpa using strs_at h1 (by simpa using hv)
theorem strs_at' {vs : List Value} {ys : List PySem.Str} {zs : List (List Nat)} {i : Nat} {v : Value} (h : strsOf vs = some ys) (h2 : ys.map (·.cps.toList) = zs) (hv : vs[i]? = some v) : ∃ y t, v = .str y t ∧ zs[i]? = some y.cps.toList := by
  obtain ⟨y, t, rfl, hy⟩ := strs_at h hv
  exact ⟨y, t, rfl, by rw [← h2, List.getElem?_map, hy]; rfl⟩
section
variable {w : World} {c : Cfg} {m : Vars} {l : Led} {k : Nat} {x : PySem.Str} {t u v z : Tok} {pl : Sem Bool}
theorem J_gmS {Q : Value × List Value → Vars → Led → Prop} (h : Q (.builtin "str.startswith", [.str x t]) m l) : J w c (getMethod (.str x t) "startswith" pl) Q m l :=
  fun _ _ F N => PySem.GM.startswith (post_intro F N h)
theorem J_gmJ {Q : Value × List Value → Vars → Led → Prop} (h : Q (.builtin "str.join", [.str x t]) m l) : J w c (getMethod (.str x t) "join" pl) Q m l :=
  fun _ _ F N => PySem.GM.join (post_intro F N h)
theorem gives_starts (x y : PySem.Str) (i j : Int) : Gives («str.startswith» ⟨[.str x t, .str y u, .int i v, .int j z], []⟩) (.val (.bool (fromIndex x.length i + y.length ≤ min (fromIndex x.length j) x.length && subAt x y (fromIndex x.length i)))) := .of_eq rfl
theorem J_starts {L ys : List Nat} {y : PySem.Str} {p e : Nat} {b : Bool} {Q : Value → Vars → Led → Prop} (he : e ≤ L.length) (hy : y.cps.toList = ys) (hb : (decide (p + ys.length ≤ e) && (L.drop p).take ys.length == ys) = b) (h : Q (.bool b) m l) :
    J w c (call (.builtin "str.startswith") [.str (Sx L) t, .str y u, .int (p : Int) v, .int (e : Int) z]) Q m l := by
  intro _ _ F N
  refine call_gives PySem.F.slot_str_startswith (typeIs_str _ _ _) PySem.F.entry_str_startswith (PySem.F.args_str_startswith_4 _ _ _ _) (gives_starts _ _ _ _) ?_
  have f : ∀ n i : Nat, fromIndex n (i : Int) = i := fun n i => by
    unfold fromIndex
    rw [if_neg (by omega)]
    omega
  rw [f, f, Sx_len, Nat.min_eq_left he]
  have e2 : subAt (Sx L) y p = ((L.drop p).take ys.length == ys) := by
    rw [eq_Sx hy]
    unfold subAt
    rw [Sx_len, Bool.eq_iff_iff, beq_iff_eq, beq_iff_eq, ← Array.toList_inj]
    simp [Sx]
  rw [e2, show y.length = ys.length by rw [eq_Sx hy, Sx_len], hb]
  exact post_intro F N h
end


end

/-! the Scanner's own dict -/
abbrev sD (w : World) (W : PySem.Str) (p e dp : Nat) (T : Nat → Tok) : Obj := dictOf [⟨PyData.keyHash w.params "text", .str "text" (T 0), .str W (T 4)⟩, ⟨PyData.keyHash w.params "spot", .str "spot" (T 1), .int (p : Int) (T 5)⟩,
  ⟨PyData.keyHash w.params "end", .str "end" (T 2), .int (e : Int) (T 6)⟩, ⟨PyData.keyHash w.params "depth", .str "depth" (T 3), .int (dp : Int) (T 7)⟩] 4
section
variable {w : World} {c : Cfg} {m : Vars} {l r : Led} {k : Nat} {x dx : Addr} {W : PySem.Str} {p p' e dp : Nat} {T : Nat → Tok} {Q : Value → Vars → Led → Prop} {ex : Bool}
theorem J_gText (G : Good w c k) (h1 : (x, instObj 167 dx) ∈ l) (h2 : (dx, sD w W p e dp T) ∈ l) (h : Q (.str W (T 4)) m l) : J w c (getAttr (.ref x) "text" ex) Q m l := by
  refine' J_geta G h1 h2 ?a ?b ?c ?d ?e ?f h
  case a => k_is
  case b => k_is
  case c => k_is
  case d => exact rfl
  case e => exact rfl
  case f => exact rfl
theorem J_gSpot (G : Good w c k) (h1 : (x, instObj 167 dx) ∈ l) (h2 : (dx, sD w W p e dp T) ∈ l) (h : Q (.int (p : Int) (T 5)) m l) : J w c (getAttr (.ref x) "spot" ex) Q m l := by
  refine' J_geta G h1 h2 ?a ?b ?c ?d ?e ?f h
  case a => k_is
  case b => k_is
  case c => k_is
  case d => exact rfl
  case e => exact rfl
  case f => exact rfl
theorem J_gEnd (G : Good w c k) (h1 : (x, instObj 167 dx) ∈ l) (h2 : (dx, sD w W p e dp T) ∈ l) (h : Q (.int (e : Int) (T 6)) m l) : J w c (getAttr (.ref x) "end" ex) Q m l := by
  refine' J_geta G h1 h2 ?a ?b ?c ?d ?e ?f h
  case a => k_is
  case b => k_is
  case c => k_is
  case d => exact rfl
  case e => exact rfl
  case f => exact rfl
theorem J_gDepth (G : Good w c k) (h1 : (x, instObj 167 dx) ∈ l) (h2 : (dx, sD w W p e dp T) ∈ l) (h : Q (.int (dp : Int) (T 7)) m l) : J w c (getAttr (.ref x) "depth" ex) Q m l := by
  refine' J_geta G h1 h2 ?a ?b ?c ?d ?e ?f h
  case a => k_is
  case b => k_is
  case c => k_is
  case d => exact rfl
  case e => exact rfl
  case f => exact rfl
theorem J_sSpot (G : Good w c k) {i : Int} {t : Tok} {Q : Unit → Vars → Led → Prop} (h1 : (x, instObj 167 dx) ∈ r) (hr : ∀ q ∈ r, q.1 ≠ dx) (hi : i = (p' : Int)) (h : ∀ T', Q () m ((dx, sD w W p' e dp T') :: r)) :
    J w c (setAttr (.ref x) "spot" (.int i t)) Q m ((dx, sD w W p e dp T) :: r) := by
  subst hi
  refine' J_seta (es' := _) (n' := 4) G h1 hr ?a ?b ?c ?d ?e ?f ?g (h fun n => if n = 5 then t else T n)
  case a => k_is
  case b => k_is
  case c => k_is
  case d => k_is
  case e => exact rfl
  case f => intro t; exact rfl
  case g => exact Nat.le_of_ble_eq_true rfl
/-- a method of the Scanner -/
theorem J_gm (G : Good w c k) {f : Addr} {name : PySem.Str} {pl : Sem Bool} {Q : Value × List Value → Vars → Led → Prop} (h1 : (x, instObj 167 dx) ∈ l) (h2 : (dx, sD w W p e dp T) ∈ l)
    (hg : plainGet (Mine.KK w.params) 167 name = true) (hf : findIn (Mine.KK w.params) (.ref 167) name = some (some (.ref f))) (ht : isFn (Mine.KK w.params) (.ref f) = true)
    (hl : getL name [⟨PyData.keyHash w.params "text", .str "text" (T 0), .str W (T 4)⟩, ⟨PyData.keyHash w.params "spot", .str "spot" (T 1), .int (p : Int) (T 5)⟩,
  ⟨PyData.keyHash w.params "end", .str "end" (T 2), .int (e : Int) (T 6)⟩, ⟨PyData.keyHash w.params "depth", .str "depth" (T 3), .int (dp : Int) (T 7)⟩] = some none) (h : Q (.ref f, [.ref x]) m l) : J w c (getMethod (.ref x) name pl) Q m l := J_getm G h1 h2 hg hf ht hl h
end
/-! its text, sign by sign -/
def sgn (L : List Nat) (p e : Nat) : List Nat := if p < e then (L[p]?).toList else []
theorem sgn_at {L : List Nat} {p e n : Nat} (h : p < e) (hn : L[p]? = some n) : sgn L p e = [n] := by simp [sgn, h, hn]
theorem sgn_end {L : List Nat} {p e : Nat} (h : e ≤ p) : sgn L p e = [] := by simp [sgn]; omega
theorem item_Sx {L : List Nat} {p n : Nat} (h : L[p]? = some n) : Txt.item (Sx L) (p : Int) = Sx [n] := by
  have := (List.getElem?_eq_some_iff.mp h).1
  have e : Txt.charAt (Sx L) (p : Int) = some n := by
    unfold Txt.charAt seqIndex?
    have h0 : ¬ ((p : Int) < 0) := by omega
    simp only [Sx_len, h0, if_false]
    rw [if_pos (by simp; omega)]
    simp [Sx, h]
  unfold Txt.item
  rw [e]; rfl


local macro_rules | `(tactic| walk_at "lk") => `(tactic| first | with_reducible assumption | with_reducible exact up_same | ((with_reducible refine up_ne ?hne ?_); (case hne => decide); walk_at "lk") | exact rfl)
local macro_rules | `(tactic| walk_at "mem") => `(tactic| first | exact List.mem_cons_self | with_reducible assumption | (refine List.mem_cons_of_mem _ ?_; walk_at "mem"))
local macro_rules | `(tactic| walk_at "js") => `(tactic| first
  | with_reducible refine J_cons ?_
  | with_reducible refine J_nil ?_
  | ((with_reducible refine' J_asgN ?h ?hs); (case hs => exact rfl))
  | with_reducible refine J_if ?_
  | with_reducible refine J_ret ?_
  | with_reducible refine J_cont ?_
  | with_reducible refine J_ret0 ?_
  | ((with_reducible refine' J_asgT ?h ?hs ?hw); (case hs => exact rfl); (case hw => exact rfl))
  | ((with_reducible refine' J_asgTs ?h ?hs ?hw); (case hs => exact rfl); (case hw => exact rfl))
  | ((with_reducible refine' J_asgA ?h ?hs); (case hs => exact rfl))
  | ((with_reducible refine' J_asgS ?h ?hs); (case hs => exact rfl))
  | with_reducible refine J_aug ?_
  | with_reducible refine J_augA ?_
  | ((with_reducible refine' J_expr ?h ?hi ?hs); (case hs => exact rfl); (case hi => exact rfl))
  | ((with_reducible refine' J_loc ?hv ?h ?hk ?hl ?hd); (case hk => exact rfl); (case hl => exact rfl); (case hd => decide); (case hv => walk_at "lk"))
  | ((with_reducible refine' J_ldn ?hv ?h ?hk ?hl); (case hk => exact rfl); (case hl => exact rfl); (case hv => walk_at "lk"))
  | ((with_reducible refine' J_st ?h ?hk ?hl); (case hk => exact rfl); (case hl => exact rfl))
  | ((with_reducible refine' J_bn ?h ?hk ?hl); (case hk => exact rfl); (case hl => exact rfl))
  | ((with_reducible refine' J_an ?h ?hk ?hl); (case hk => exact rfl); (case hl => exact rfl))
  | ((with_reducible refine' J_locX ?hv ?h ?hk ?hl ?hd); (case hk => exact rfl); (case hl => exact rfl); (case hd => decide); (case hv => walk_at "lk"))
  | ((with_reducible refine J_int ?_); intro _)
  | ((with_reducible refine J_str ?_); intro _)
  | with_reducible refine J_none ?_
  | with_reducible refine J_bool ?_
  | ((with_reducible refine' J_glob ?G ?e ?h ?hk ?hx ?hd); (case G => with_reducible assumption); (case hx => exact rfl); (case hk => exact rfl); (case e => k_is); (case hd => decide))
  | ((with_reducible refine' J_blt ?G ?e ?hv ?h ?hn ?hk ?hx ?hd); (case G => with_reducible assumption); (case hx => exact rfl); (case hk => exact rfl); (case e => k_is); (case hv => boot_by_name); (case hn => decide); (case hd => decide))
  | with_reducible refine J_bin ?_
  | with_reducible refine J_un ?_
  | ((with_reducible refine' J_cmp ?h ?hm); (case hm => with_unfolding_all rfl))
  | ((with_reducible refine' J_tcmp ?h ?hm); (case hm => with_unfolding_all rfl))
  | with_reducible refine J_tand0 ?_
  | with_reducible refine J_tand ?_
  | with_reducible refine J_tifx ?_
  | with_reducible refine J_ifx ?_
  | with_reducible refine J_and ?_
  | with_reducible refine J_or ?_
  | with_reducible refine J_bone ?_
  | with_reducible refine J_tuple ?_
  | with_reducible refine J_list ?_
  | ((with_reducible refine' J_sp ?h ?he); (case he => exact rfl))
  | with_reducible refine J_sp0 ?_
  | ((with_reducible refine' J_sliceS ?h ?hs ?ht); (case hs => (intro _ _ _; with_unfolding_all rfl)); (case ht => (intro _ _ _; with_unfolding_all rfl)))
  | with_reducible refine J_subs ?_
  | with_reducible refine J_attr ?_
  | ((with_reducible refine' J_meth ?h ?he); (case he => exact rfl))
  | ((with_reducible refine' J_call ?h ?he); (case he => exact rfl))
  | ((with_reducible refine' J_callN ?G ?hk ?h ?he ?hp); (case G => with_reducible assumption); (case hk => k_is); (case he => exact rfl); (case hp => exact rfl))
  | ((with_reducible refine' J_call0 ?G ?hk ?h); (case G => with_reducible assumption); (case hk => k_is))
  | ((with_reducible refine' J_cb1 ?h ?he ?hp); (case he => exact rfl); (case hp => exact rfl))
  | ((with_reducible refine J_add ?_); intro _)
  | ((with_reducible refine J_iadd ?_); intro _)
  | ((with_reducible refine J_sub_ ?_); intro _)
  | with_reducible refine J_lt ?_
  | with_reducible refine J_gt ?_
  | with_reducible refine J_eqi ?_
  | with_reducible refine J_nei ?_
  | with_reducible refine J_tb ?_
  | ((with_reducible refine' J_tplain ?h ?he); (case he => exact rfl))
  | ((with_reducible refine' J_cm1 ?h ?he ?hp); (case he => exact rfl); (case hp => exact rfl))
  | ((with_reducible refine' J_ct1 ?h ?he ?hp); (case he => exact rfl); (case hp => exact rfl))
  | ((with_reducible refine' J_gText ?G ?hm ?hn ?h); (case G => with_reducible assumption); (case hm => with_reducible walk_at "mem"); (case hn => with_reducible walk_at "mem"))
  | ((with_reducible refine' J_gSpot ?G ?hm ?hn ?h); (case G => with_reducible assumption); (case hm => with_reducible walk_at "mem"); (case hn => with_reducible walk_at "mem"))
  | ((with_reducible refine' J_gEnd ?G ?hm ?hn ?h); (case G => with_reducible assumption); (case hm => with_reducible walk_at "mem"); (case hn => with_reducible walk_at "mem"))
  | ((with_reducible refine' J_gDepth ?G ?hm ?hn ?h); (case G => with_reducible assumption); (case hm => with_reducible walk_at "mem"); (case hn => with_reducible walk_at "mem"))
  | ((with_reducible refine' J_gm ?G ?hm ?hn ?hg ?hf ?ht ?hl ?h); (case G => with_reducible assumption); (case hm => with_reducible walk_at "mem"); (case hn => with_reducible walk_at "mem"); (case hg => k_is); (case hf => k_is); (case ht => k_is); (case hl => exact rfl))
  | ((with_reducible refine' J_adds ?hz ?h); (case hz => decide); intro _)
  | with_reducible refine J_isubI fun _ => ?_
  | ((with_reducible refine' J_lm_append ?hm ?h); (case hm => with_reducible walk_at "mem"))
  | ((with_reducible refine' J_lm_extend ?hm ?h); (case hm => with_reducible walk_at "mem"))
  | with_reducible refine J_gmS ?_
  | with_reducible refine J_gmJ ?_
  | with_reducible refine ite_t ?_
  | with_reducible refine ite_f ?_
  | with_reducible refine J_aio ?_
  | with_reducible refine J_aio0 ?_)
local macro_rules | `(tactic| walk_at "jj") => `(tactic| repeat' (walk_at "js"))
local macro_rules | `(tactic| walk_at "en") => `(tactic| (refine' J_enterB ?G ?B ?ho ?hcd ?hb ?hl ?h ?h1 ?h2 ?h3 ?h4 ?hbd; (case B => with_reducible assumption); (case G => with_reducible assumption); (case ho => k_is); (case hbd => (conv => lhs; whnf); try exact rfl); (case hcd => k_is); (case hb => exact fun s _ => BindsTo.of_eq rfl); (case hl => exact rfl); (case h1 => exact rfl); (case h2 => exact rfl); (case h3 => exact rfl); (case h4 => decide)))

section
variable {prog : Program} {w : World} {A : Around} {E : Value → Shared → Prop} {R : Result → Shared → Prop} {s : Shared}
theorem turn_l0 (elt t1 it1 t2 it2 : Expr) (scope : Scope) (pos : Pos) (it acc : Value) (env : Env) :
    compTurn (.ListComp elt [⟨t1, it1, [], 0⟩, ⟨t2, it2, [], 0⟩] scope pos) 0 it acc env = (standAt it1.pos >>= fun _ => pyNext it >>= fun r => match r with
      | none => pure (.done .next)
      | some v => letOwnedTupleGo t1 it v >>= fun _ => assign t1 env v >>= fun _ =>
        eval it2 env >>= fun x => standAt it2.pos >>= fun _ => foldedSetIterable it2 env x >>= fun x => holding [x] (pyIter x) >>= fun i2 => runOwn (.compStart (.ListComp elt [⟨t1, it1, [], 0⟩, ⟨t2, it2, [], 0⟩] scope pos) 1 i2 acc env) env >>= fun _ =>
          again (.compLoop (.ListComp elt [⟨t1, it1, [], 0⟩, ⟨t2, it2, [], 0⟩] scope pos) 0 it acc env)) := by rfl
theorem turn_l1 (elt t1 it1 t2 it2 : Expr) (scope : Scope) (pos : Pos) (it acc : Value) (env : Env) :
    compTurn (.ListComp elt [⟨t1, it1, [], 0⟩, ⟨t2, it2, [], 0⟩] scope pos) 1 it acc env = (standAt it2.pos >>= fun _ => pyNext it >>= fun r => match r with
      | none => pure (.done .next)
      | some v => letOwnedTupleGo t2 it v >>= fun _ => assign t2 env v >>= fun _ =>
        (eval elt env >>= fun x => call (.builtin "list.append") [acc, x] >>= fun _ => pure ()) >>= fun _ =>
          again (.compLoop (.ListComp elt [⟨t1, it1, [], 0⟩, ⟨t2, it2, [], 0⟩] scope pos) 1 it acc env)) := by rfl
end
section
variable {prog : Program} {w : World} {A : Around} {E : Value → Shared → Prop} {R : Result → Shared → Prop} {s : Shared}
abbrev lso (ys : List Value) : Obj := LCg.lst ys
theorem lso_snoc (ys : List Value) (y : Value) : ({ cls := .type "list", data := .seq (ys.toArray.push y) (ys.length + 1) } : Obj) = lso (ys ++ [y]) := LCg.lst_snoc ys y
theorem comp_in {x y : PySem.Str} {p1 p2 p3 : Pos} {it1 it2 : Expr} {scope : Scope} {pos : Pos} {env : Env} {I D fl : Addr} {fvs acc : List Value} {m : Vars} (hh : A.handled = none) (hkind : env.scope.kind = .function) (hy : env.kindOf y = some .local) (hyd : (y == ("__debug__" : PySem.Str)) = false)
    (hID : I ≠ D) (hIC : I ≠ env.locals) (hDC : D ≠ env.locals) (hfI : fl ≠ I) (hfD : fl ≠ D) (hfC : fl ≠ env.locals) (hsz : acc.length + fvs.length ≤ 100000)
    (hit : s.heap.IsListIter I fl 0) (hl : s.heap.IsList fl fvs.toArray) (hD : s.heap.get? D = some (lso acc)) (hn : s.heap.Ns env.locals m)
    (hR : ∀ h' tk m', (∀ b o, b ≠ I → b ≠ D → b ≠ env.locals → s.heap.get? b = some o → h'.get? b = some o) → h'.get? D = some (lso (acc ++ fvs)) → h'.Ns env.locals m' → R (.ok .next) { s with heap := h', toks := tk }) :
    codeAny (model prog w) A (.compLoop (.ListComp (.Name y p1) [⟨.Name x p2, it1, [], 0⟩, ⟨.Name y p3, it2, [], 0⟩] scope pos) 1 (.ref I) (.ref D) env) R s := by
  have hp : (env.scope.kind == .class || (env.scope.kind == .module && env.locals != env.globals)) = false := by rw [hkind]; rfl
  refine codeAny_loop rfl (fun k s' => ∃ h' tk j m', s' = { s with heap := h', toks := tk } ∧ j ≤ fvs.length ∧ k = fvs.length - j ∧ h'.IsListIter I fl j ∧ h'.IsList fl fvs.toArray ∧ h'.get? D = some (lso (acc ++ fvs.take j)) ∧ h'.Ns env.locals m' ∧
    ∀ b o, b ≠ I → b ≠ D → b ≠ env.locals → s.heap.get? b = some o → h'.get? b = some o) ?_ fvs.length ⟨s.heap, s.toks, 0, m, rfl, Nat.zero_le _, rfl, hit, hl, by rw [List.take_zero, List.append_nil]; exact hD, hn, fun _ _ _ _ _ e => e⟩
  rintro k s' ⟨h', tk, j, m', rfl, hj, rfl, hit', hl', hD', hn', hk⟩
  show wpAny _ _ ((compTurn (.ListComp (.Name y p1) [⟨.Name x p2, it1, [], 0⟩, ⟨.Name y p3, it2, [], 0⟩] scope pos) 1 (.ref I) (.ref D) env).onRaise (fun x => do noteFrame x env; theTreesLotGoes x)) _ _ _
  refine wpAny_noted ?_
  rw [turn_l1]
  refine wpAny_bind (wpAny_standAt (wpAny_bind ?_))
  cases hv : fvs.toArray[j]? with
  | none =>
    refine wpAny_pyNext_list_end hh hit' hl' hv fun h₁ he => wpAny_pure ?_
    have hle : fvs.length ≤ j := by simpa using hv
    obtain rfl : j = fvs.length := by omega
    rw [List.take_length] at hD'
    exact hR h₁ tk m' (fun b o h1 h2 h3 e => he b o h1 (hk b o h1 h2 h3 e)) (he _ _ (Ne.symm hID) hD') (hn'.extBut he (Ne.symm hIC))
  | some v =>
    have hlt : j < fvs.length := by
      by_cases e : j < fvs.length
      · exact e
      · rw [Array.getElem?_eq_none (by simpa using e)] at hv; cases hv
    have hv2 : fvs[j]? = some v := by simpa using hv
    refine wpAny_pyNext_list_item hit' hl' hv fun h₁ hit₁ hs₁ => ?_
    refine wpAny_bind (wpAny_of_eq (by rfl) ?_)
    refine wpAny_bind (wpAny_assign_Name (wpAny_storeName_local hy (hn'.sameBut hs₁ (Ne.symm hIC)) (fun h₂ hn₂ hs₂ => ?_) hp))
    refine wpAny_bind (wpAny_bind (wpAny_Name (wpAny_loadName_local hkind hy hn₂ (if_pos rfl) ?_) hyd))
    have hD₂ : h₂.get? D = some (lso (acc ++ fvs.take j)) := by rw [hs₂.2 D hDC, hs₁.2 D (Ne.symm hID)]; exact hD'
    refine wpAny_bind (append_at (hsz := by rw [PySem.sizeLine_eq]; simp; omega) hD₂ fun h₃ hs₃ hD₃ => ?_)
    refine wpAny_pure (wpAny_pure ⟨rfl, fvs.length - (j + 1), by omega, h₃, tk + 1, j + 1, _, rfl, hlt, rfl, ?_, ?_, ?_, hn₂.sameBut hs₃ (Ne.symm hDC), fun b o h1 h2 h3 e => ?_⟩)
    · exact (hit₁.extBut hs₂.extBut hIC).extBut hs₃.extBut hID
    · exact ((hl'.extBut hs₁.extBut hfI).extBut hs₂.extBut hfC).extBut hs₃.extBut hfD
    · rw [hD₃, show acc ++ fvs.take (j + 1) = (acc ++ fvs.take j) ++ [v] by rw [List.take_add_one, hv2, List.append_assoc]; rfl]
      exact congrArg some (lso_snoc _ _)
    · rw [hs₃.2 b h2, hs₂.2 b h3, hs₁.2 b h1]; exact hk b o h1 h2 h3 e
theorem compStart_1 {y x : PySem.Str} {p1 p2 p3 : Pos} {it1 it2 : Expr} {scope : Scope} {pos : Pos} {env : Env} {it acc : Value}
    (h0 : codeAny (model prog w) A (.compLoop (.ListComp (.Name y p1) [⟨.Name x p2, it1, [], 0⟩, ⟨.Name y p3, it2, [], 0⟩] scope pos) 1 it acc env) R s)
    (h : wpAny (model prog w) A (pyIter it) (fun it' s' => codeAny (model prog w) A (.compLoop (.ListComp (.Name y p1) [⟨.Name x p2, it1, [], 0⟩, ⟨.Name y p3, it2, [], 0⟩] scope pos) 1 it' acc env) R s')
      (notedBy (model prog w) A env fun x s' => R (.error x) s') s) :
    codeAny (model prog w) A (.compStart (.ListComp (.Name y p1) [⟨.Name x p2, it1, [], 0⟩, ⟨.Name y p3, it2, [], 0⟩] scope pos) 1 it acc env) R s := by
  refine codeAny_of_tree ?_
  show wpAny _ _ ((compStart (.ListComp (.Name y p1) [⟨.Name x p2, it1, [], 0⟩, ⟨.Name y p3, it2, [], 0⟩] scope pos) 1 it acc env).onRaise (fun x => do noteFrame x env; standAt theWindowsPlace)) _ _ s
  refine wpAny_notedAt ?_
  unfold compStart
  show wpAny _ _ (ask >>= _) _ _ s
  refine wpAny_bind (wpAny_askSetting (wpAny_ite ?_))
  split
  · first
      | exact wpAny_bind (wpAny_pure (wpAny_pure (And.intro rfl h0)))
      | exact wpAny_pure (And.intro rfl h0)
  · first
      | exact wpAny_bind (wpAny_rule (wpAny_bind (wpAny_standAt (wpAny_bind (wpAny_mono h (fun it' s' h' => wpAny_pure (And.intro rfl h')) fun _ _ x => x)))))
      | (refine wpAny_bind (wpAny_rule ?_); show wpAny _ _ (standAt it2.pos >>= _) _ _ s; exact wpAny_bind (wpAny_standAt (wpAny_bind (wpAny_mono h (fun it' s' h' => wpAny_pure (And.intro rfl h')) fun _ _ x => x))))
end
inductive FlatL (l : Led) : List Value → List Value → Prop
  | nil : FlatL l [] []
  | cons {ta fl : Addr} {a b c : Value} {nt nf : Nat} {fvs vs out : List Value} : (ta, tupO [a, b, c, .ref fl] nt) ∈ l → (fl, W.listOf fvs.toArray nf) ∈ l → FlatL l vs out → FlatL l (.ref ta :: vs) (fvs ++ out)
section
variable {prog : Program} {w : World} {A : Around} {E : Value → Shared → Prop} {R : Result → Shared → Prop} {s : Shared}
theorem ne_of_none {g : Heap} {a b : Addr} {o : Obj} (h1 : g.get? a = some o) (h2 : g.get? b = none) : a ≠ b := fun e => by subst e; rw [h1] at h2; cases h2
theorem comp_out {x y : PySem.Str} {p1 p2 p3 q1 q2 q3 : Pos} {kk : Nat} {it1 : Expr} {scope : Scope} {pos : Pos} {env : Env} {I D sa : Addr} {svs out : List Value} {m : Vars} {g : Heap} {l : Led} (hh : A.handled = none) (hkind : env.scope.kind = .function)
    (hx : env.kindOf x = some .local) (hy : env.kindOf y = some .local) (hxd : (x == ("__debug__" : PySem.Str)) = false) (hyd : (y == ("__debug__" : PySem.Str)) = false)
    (hID : I ≠ D) (hIC : I ≠ env.locals) (hDC : D ≠ env.locals) (gI : g.get? I = none) (gD : g.get? D = none) (gC : g.get? env.locals = none) (hsz : out.length ≤ 100000)
    (hg : ∀ b o, g.get? b = some o → s.heap.get? b = some o) (hgl : ∀ p ∈ l, g.get? p.1 = some p.2)
    (hit : s.heap.IsListIter I sa 0) (hl : g.IsList sa svs.toArray) (hD : s.heap.get? D = some (lso [])) (hn : s.heap.Ns env.locals m) (hf : FlatL l svs out)
    (hR : ∀ h' tk m', (∀ b o, g.get? b = some o → h'.get? b = some o) → h'.get? D = some (lso out) → h'.Ns env.locals m' → R (.ok .next) { s with heap := h', toks := tk })
    (hs3 : ∀ ta t, subscripted (.Constant (.int 3) kk q2) false (.ref ta) (.int 3 t) = operate [.ref ta, .int 3 t] (getItem (.ref ta) (.int 3 t)) := by intro _ _; with_unfolding_all rfl) :
    codeAny (model prog w) A (.compLoop (.ListComp (.Name y p1) [⟨.Name x p2, it1, [], 0⟩, ⟨.Name y p3, .Subscript (.Name x q1) (.Constant (.int 3) kk q2) q3, [], 0⟩] scope pos) 0 (.ref I) (.ref D) env) R s := by
  have hp : (env.scope.kind == .class || (env.scope.kind == .module && env.locals != env.globals)) = false := by rw [hkind]; rfl
  refine codeAny_loop rfl (fun k s' => ∃ h' tk done rest acc o2 m', s' = { s with heap := h', toks := tk } ∧ svs = done ++ rest ∧ FlatL l rest o2 ∧ out = acc ++ o2 ∧ k = rest.length ∧ h'.IsListIter I sa done.length ∧ (∀ b o, g.get? b = some o → h'.get? b = some o) ∧
    h'.get? D = some (lso acc) ∧ h'.Ns env.locals m') ?_ svs.length ⟨s.heap, s.toks, [], svs, [], out, m, rfl, rfl, hf, rfl, rfl, hit, hg, hD, hn⟩
  rintro k s' ⟨h', tk, done, rest, acc, o2, m', rfl, rfl, hf', rfl, rfl, hit', hg', hD', hn'⟩
  show wpAny _ _ ((compTurn (.ListComp (.Name y p1) [⟨.Name x p2, it1, [], 0⟩, ⟨.Name y p3, .Subscript (.Name x q1) (.Constant (.int 3) kk q2) q3, [], 0⟩] scope pos) 0 (.ref I) (.ref D) env).onRaise (fun x => do noteFrame x env; theTreesLotGoes x)) _ _ _
  refine wpAny_noted ?_
  rw [turn_l0]
  refine wpAny_bind (wpAny_standAt (wpAny_bind ?_))
  have hl' : h'.IsList sa (done ++ rest).toArray := let ⟨o, e, r⟩ := hl; ⟨o, hg' _ _ e, r⟩
  have hsaI : sa ≠ I := let ⟨o, e, r⟩ := hl; ne_of_none e gI
  have hsaC : sa ≠ env.locals := let ⟨o, e, r⟩ := hl; ne_of_none e gC
  have hsaD : sa ≠ D := let ⟨o, e, r⟩ := hl; ne_of_none e gD
  cases hf' with
  | nil =>
    refine wpAny_pyNext_list_end hh hit' hl' (by simp) fun h₁ he => wpAny_pure ?_
    rw [List.append_nil] at hR
    exact hR h₁ tk m' (fun b o e => he b o (ne_of_none e gI) (hg' b o e)) (he _ _ (Ne.symm hID) hD') (hn'.extBut he (Ne.symm hIC))
  | @cons ta fl va vb vc nt nf fvs vs o3 m1 m2 hr =>
    refine wpAny_pyNext_list_item (x := .ref ta) hit' hl' (by simp) fun h₁ hit₁ hs₁ => ?_
    refine wpAny_bind (wpAny_of_eq (by rfl) ?_)
    refine wpAny_bind (wpAny_assign_Name (wpAny_storeName_local hx (hn'.sameBut hs₁ (Ne.symm hIC)) (fun h₂ hn₂ hs₂ => ?_) hp))
    have g2 : ∀ b o, g.get? b = some o → h₂.get? b = some o := fun b o e => by rw [hs₂.2 b (ne_of_none e gC), hs₁.2 b (ne_of_none e gI)]; exact hg' b o e
    have hta := g2 _ _ (hgl _ m1)
    have hfl := g2 _ _ (hgl _ m2)
    refine wpAny_bind (Subscript_ (wpAny_Name (wpAny_loadName_local hkind hx hn₂ (if_pos rfl) (wpAny_Constant_int ?_)) hxd))
    refine item_tupleT (l := [va, vb, vc, .ref fl]) (j := 3) (x := .ref fl) ⟨_, hta, rfl, nt, rfl⟩ (by decide) (by decide) rfl rfl ?_ (hs3 _ _)
    refine wpAny_bind (wpAny_standAt (wpAny_bind (wpAny_of_eq (by rfl) (wpAny_bind (wpAny_holding (wpAny_pyIter_list (items := fvs.toArray) ⟨_, hfl, rfl, _, rfl⟩ ?_))))))
    have hD₂ : h₂.get? D = some (lso acc) := by rw [hs₂.2 D hDC, hs₁.2 D (Ne.symm hID)]; exact hD'
    have up : ∀ b o, h₂.get? b = some o → (h₂.push { cls := .type "list_iterator", data := .fields #[.ref fl, .int 0 0] }).get? b = some o := fun b o e => Heap.get?_push_of_some _ e
    have hit2 : h₂.IsListIter I sa (done.length + 1) := hit₁.extBut hs₂.extBut hIC
    have lt : ∀ {b o}, h₂.get? b = some o → b ≠ h₂.objs.size := fun e => Nat.ne_of_lt (Heap.lt_size e)
    have hCs : env.locals ≠ h₂.objs.size := Nat.ne_of_lt hn₂.lt
    have hIs : I ≠ h₂.objs.size := let ⟨o, e, r⟩ := hit2; lt e
    refine wpAny_bind (wpAny_runOwn ?_)
    have inn : ∀ s' : Shared, s' = ({ s with heap := h₂.push { cls := .type "list_iterator", data := .fields #[.ref fl, .int 0 0] }, toks := tk + 1 + 1 } : Shared) → ∀ R' : Result → Shared → Prop,
        (∀ h' tk m', (∀ b o, b ≠ h₂.objs.size → b ≠ D → b ≠ env.locals → h₂.get? b = some o → h'.get? b = some o) → h'.get? D = some (lso (acc ++ fvs)) → h'.Ns env.locals m' → R' (.ok .next) { s with heap := h', toks := tk }) → ∀ A' : Around, A'.handled = none →
        codeAny (model prog w) A' (.compLoop (.ListComp (.Name y p1) [⟨.Name x p2, it1, [], 0⟩, ⟨.Name y p3, .Subscript (.Name x q1) (.Constant (.int 3) kk q2) q3, [], 0⟩] scope pos) 1 (.ref h₂.objs.size) (.ref D) env) R' s' := by
      rintro s' rfl R' hR' A' hA
      refine comp_in hA hkind hy hyd (Ne.symm (lt hD₂)) (Ne.symm hCs) hDC (lt hfl) (ne_of_none (hgl _ m2) gD) (ne_of_none (hgl _ m2) gC) (by simp at hsz; omega)
        ⟨_, Heap.get?_push_size _ rfl, rfl, rfl⟩ ⟨_, up _ _ hfl, rfl, _, rfl⟩ (up _ _ hD₂) (hn₂.at fun o e => up _ _ e) (fun h' tk m' h1 h2 h3 => hR' h' tk m' (fun b o a1 a2 a3 e => h1 b o a1 a2 a3 (up _ _ e)) h2 h3)
    have fin : ∀ (h' : Heap) (tk' : Nat) (m' : Vars), (∀ b o, b ≠ h₂.objs.size → b ≠ D → b ≠ env.locals → h₂.get? b = some o → h'.get? b = some o) → h'.get? D = some (lso (acc ++ fvs)) → h'.Ns env.locals m' → wpAny (model prog w) (A.under (.compLoop (.ListComp (.Name y p1) [⟨.Name x p2, it1, [], 0⟩, ⟨.Name y p3, .Subscript (.Name x q1) (.Constant (.int 3) kk q2) q3, [], 0⟩] scope pos) 0 (.ref I) (.ref D) env)) (again (.compLoop (.ListComp (.Name y p1) [⟨.Name x p2, it1, [], 0⟩, ⟨.Name y p3, .Subscript (.Name x q1) (.Constant (.int 3) kk q2) q3, [], 0⟩] scope pos) 0 (.ref I) (.ref D) env)) (fun fin s' => match fin with
        | .done f => R (.ok f) s'
        | .again c' => c' = (.compLoop (.ListComp (.Name y p1) [⟨.Name x p2, it1, [], 0⟩, ⟨.Name y p3, .Subscript (.Name x q1) (.Constant (.int 3) kk q2) q3, [], 0⟩] scope pos) 0 (.ref I) (.ref D) env) ∧ ∃ m, m < (Value.ref ta :: vs).length ∧ ∃ h' tk done1 rest acc1 o2 m', s' = { s with heap := h', toks := tk } ∧ done ++ Value.ref ta :: vs = done1 ++ rest ∧ FlatL l rest o2 ∧ acc ++ (fvs ++ o3) = acc1 ++ o2 ∧ m = rest.length ∧ h'.IsListIter I sa done1.length ∧ (∀ b o, g.get? b = some o → h'.get? b = some o) ∧
    h'.get? D = some (lso acc1) ∧ h'.Ns env.locals m') (notedBy (model prog w) (A.under (.compLoop (.ListComp (.Name y p1) [⟨.Name x p2, it1, [], 0⟩, ⟨.Name y p3, .Subscript (.Name x q1) (.Constant (.int 3) kk q2) q3, [], 0⟩] scope pos) 0 (.ref I) (.ref D) env)) env fun e s' => R (.error e) s') { s with heap := h', toks := tk' } := fun h' tk' m' h1 h2 h3 =>
      wpAny_pure ⟨rfl, vs.length, Nat.lt_succ_self _, h', tk', done ++ [.ref ta], vs, acc ++ fvs, o3, m', rfl, by simp, hr, by simp, rfl, by rw [List.length_append]; exact (let ⟨o, e, r⟩ := hit2; ⟨o, h1 _ _ hIs hID hIC e, r⟩), fun b o e => h1 b o (lt (g2 _ _ e)) (ne_of_none e gD) (ne_of_none e gC) (g2 _ _ e), h2, h3⟩
    dsimp only
    refine compStart_1 (inn _ rfl _ ?_ _ ?_) (wpAny_pyIter_listiter (it := h₂.objs.size) (l := fl) (i := 0) ⟨_, Heap.get?_push_size _ rfl, rfl, rfl⟩ ?_)
    · exact fin
    · exact hh
    · refine inn _ rfl _ ?_ _ ?_
      · exact fin
      · exact hh
end
section
variable {w : World} {c : Cfg} {m : Vars} {l : Led} {k : Nat} {cn : PySem.Str} {cs : Scope} {ca : Addr} {ccd : Value}
theorem J_comp2 (G : Good w c k) {x y z : PySem.Str} {p1 p2 p3 p4 q1 q2 q3 : Pos} {kk : Nat} {scope : Scope} {pos : Pos} {sa : Addr} {svs out : List Value} {n : Nat} {Q : Value → Vars → Led → Prop}
    (hz : m z = some (.ref sa)) (hm : (sa, W.listOf svs.toArray n) ∈ l) (hf : FlatL l svs out) (hsz : out.length ≤ 100000)
    (h : ∀ d, (∀ p ∈ l, p.1 < d) → Q (.ref d) m ((d, W.listOf out.toArray out.length) :: l))
    (hkz : cs.kind = .function := by rfl) (hlz : (envOf cn cs c.L ca ccd).kindOf z = some .local := by rfl) (hdz : (z == ("__debug__" : PySem.Str)) = false := by decide)
    (hclos : closureFor scope (envOf cn cs c.L ca ccd) = pure [] := by rfl) (hcell : ∀ y ∈ scope.names, y.2 ≠ .cell := by decide) (hkind : scope.kind = .function := by rfl)
    (hnames : ∀ y ∈ scope.names, y.2 = .local → scope.names.lookup y.1 = some .local := by decide) (hx : scope.names.lookup x = some .local := by rfl) (hy : scope.names.lookup y = some .local := by rfl)
    (hxd : (x == ("__debug__" : PySem.Str)) = false := by decide) (hyd : (y == ("__debug__" : PySem.Str)) = false := by decide) :
    J w c (eval (.ListComp (.Name y p1) [⟨.Name x p2, .Name z p4, [], 0⟩, ⟨.Name y p3, .Subscript (.Name x q1) (.Constant (.int 3) kk q2) q3, [], 0⟩] scope pos) (envOf cn cs c.L ca ccd)) Q m l := by
  intro g tk F N
  rw [eval_ListComp]
  refine wpAny_comprehension_free (use := none) rfl (fun _ => rfl) hclos hkind hnames ?_
  refine ld F hz ?_ hkz hlz hdz
  have hsa := N.get hm
  refine wpAny_pyIter_list (items := svs.toArray) ⟨_, hsa, rfl, _, rfl⟩ (wpAny_newObj_type (wpAny_newFunctionEnv hcell (by intro y hy; simp at hy) (fun h₁ hns₁ hsb₁ => ?_) hkind))
  dsimp only at hns₁ hsb₁ ⊢
  generalize hH1 : g.push { cls := .type "list_iterator", data := .fields #[.ref sa, .int 0 0] } = H1 at hns₁ hsb₁ ⊢
  generalize hH2 : H1.push { cls := .type "list", dict := none, data := .seq ([] : List Value).toArray } = H2 at hns₁ hsb₁ ⊢
  have s1 : H1.objs.size = g.objs.size + 1 := by rw [← hH1, Heap.size_push]
  have s2 : H2.objs.size = H1.objs.size + 1 := by rw [← hH2, Heap.size_push]
  have h01 : g.objs.size ≤ H1.objs.size := by omega
  have h02 : g.objs.size ≤ H2.objs.size := by omega
  have up : ∀ b o, g.get? b = some o → h₁.get? b = some o := fun b o e => hsb₁.extBut b o (Nat.ne_of_lt (Nat.lt_of_lt_of_le (Heap.lt_size e) h02)) (Heap.get?_push_of_some _ (hH2 ▸ Heap.get?_push_of_some _ (hH1 ▸ Heap.get?_push_of_some _ e)))
  have hI : h₁.IsListIter g.objs.size sa 0 := ⟨_, hsb₁.extBut _ _ (Nat.ne_of_lt (by omega)) (Heap.get?_push_of_some _ (hH2 ▸ Heap.get?_push_of_some _ (hH1 ▸ Heap.get?_push_size _ rfl))), rfl, rfl⟩
  have hD : h₁.get? H1.objs.size = some (lso []) := hsb₁.extBut _ _ (Nat.ne_of_lt (by omega)) (Heap.get?_push_of_some _ (hH2 ▸ Heap.get?_push_size _ rfl))
  have fresh : ∀ a, g.objs.size ≤ a → g.get? a = none := fun a ha => by
    cases e : g.get? a with
    | none => rfl
    | some o' => exact absurd (Heap.lt_size e) (Nat.not_lt.mpr ha)
  have fin : ∀ A' : Around, A'.handled = none → codeAny (model PR w) A' (.compLoop (.ListComp (.Name y p1) [⟨.Name x p2, .Name z p4, [], 0⟩, ⟨.Name y p3, .Subscript (.Name x q1) (.Constant (.int 3) kk q2) q3, [], 0⟩] scope pos) 0 (.ref g.objs.size) (.ref H1.objs.size)
      (compEnvC scope [] H2.objs.size (envOf cn cs c.L ca ccd))) (compPost (model PR w) c.A c.E none (Post c Q) (.ref H1.objs.size) H2.objs.size) ⟨h₁, c.gs, c.dr, tk, c.os⟩ := by
    intro A' hA
    refine comp_out (g := g) (l := l) (env := compEnvC scope [] H2.objs.size (envOf cn cs c.L ca ccd)) (m := fun x => ([] : List (PySem.Str × Value)).reverse.lookup x) hA hkind (lookup_relabel_local hx) (lookup_relabel_local hy) hxd hyd (by rw [s1]; exact Nat.ne_of_lt (Nat.lt_succ_self _)) (Nat.ne_of_lt (show g.objs.size < H2.objs.size by omega)) (Nat.ne_of_lt (show H1.objs.size < H2.objs.size by omega))
      (fresh _ (Nat.le_refl _)) (fresh _ (by omega)) (fresh _ (by show g.objs.size ≤ H2.objs.size; omega)) hsz up (fun p hp => (N p hp).1) hI ⟨_, hsa, rfl, _, rfl⟩ hD hns₁ hf ?_
    intro h' tk' m' hk hD' hn'
    refine ⟨m', hn', fun h'' hs'' => ?_⟩
    have k2 : ∀ b o, g.get? b = some o → h''.get? b = some o := fun b o e => hs''.extBut b o (Nat.ne_of_lt (Nat.lt_of_lt_of_le (Heap.lt_size e) h02)) (hk b o e)
    refine post_intro (F.keeps k2) (fun p hp => ?_) (h H1.objs.size fun p hp => Nat.lt_of_lt_of_le (Heap.lt_size (N p hp).1) h01)
    rcases List.mem_cons.mp hp with rfl | hp
    · have hL := F.ns.lt
      exact ⟨hs''.extBut _ _ (Nat.ne_of_lt (show H1.objs.size < H2.objs.size by omega)) hD', (Nat.ne_of_gt (Nat.lt_of_lt_of_le hL h01)), (by
        cases e : c.h₀.get? H1.objs.size with
        | none => rfl
        | some o' => exact absurd (Nat.lt_of_lt_of_le (Heap.lt_size (F.keep _ _ e)) h01) (Nat.lt_irrefl _))⟩
    · exact ⟨k2 _ _ (N p hp).1, (N p hp).2⟩
  exact codeAny_compStart_list (fin _ G.hh) (wpAny_pyIter_listiter hI (fin _ G.hh))
end


section
section
open PySem.Calls
variable {prog : Program} {w : World} {A : Around} {E : Value → Shared → Prop} {s : Shared}
theorem tup_lt {a b : Addr} {i1 i2 j1 j2 : Int} {t1 t2 u1 u2 : Tok} {n n' : Nat} {P : Fin → Shared → Prop} (ha : s.heap.get? a = some (tupO [.int i1 t1, .int i2 t2] n)) (hb : s.heap.get? b = some (tupO [.int j1 u1, .int j2 u2] n')) (hlt : j1 < i1)
    (h : P (.done (.ret (.bool false))) s) : wpAny (model prog w) A (Builtin.«tuple.__lt__» ⟨[.ref a, .ref b], []⟩) P E s := by
  show wpAny _ _ (isInstance (.ref b) (.type "tuple") >>= _) _ _ s
  refine wpAny_bind (wpAny_isInstance (T := "tuple") ⟨_, hb, rfl⟩ isSubtype_tuple_tuple ?_)
  simp only [Bool.not_true, Bool.false_eq_true, if_false]
  refine wpAny_bind (wpAny_tupleItemsOf ha rfl ?_)
  refine wpAny_bind (wpAny_tupleItemsOf hb rfl ?_)
  refine wpAny_bind ?_
  simp only [List.zip_cons_cons, List.forIn_cons]
  refine wpAny_bind (wpAny_bind (wpAny_eqBool_int ?_))
  rw [show (i1 == j1) = false from beq_eq_false_iff_ne.mpr (by omega)]
  simp only [Bool.not_false, if_true]
  refine wpAny_bind (wpAny_rule (wpAny_bind ?_))
  refine richCompare_gives (op := .Lt) (typeIs_int s _ _) (typeIs_int s _ _) F.slot_int_lt F.entry_int_lt (F.args_int_lt_2 _ _) (gives_int_lt _ _ _ _) (fun x => nomatch x) ?_
  rw [decide_eq_false (by omega)]
  exact wpAny_bind (wpAny_pure (wpAny_pure (wpAny_pure (wpAny_pure h))))
theorem rc_lt {a b : Addr} {i1 i2 j1 j2 : Int} {t1 t2 u1 u2 : Tok} {n n' : Nat} {Q : Value → Shared → Prop} (hu : A.units < cLine) (ha : s.heap.get? a = some (tupO [.int i1 t1, .int i2 t2] n)) (hb : s.heap.get? b = some (tupO [.int j1 u1, .int j2 u2] n')) (hlt : j1 < i1)
    (h : Q (.bool false) s) : wpAny (model prog w) A (richCompare .Lt (.ref a) (.ref b)) Q E s :=
  wpAny_richCompare_same_room (T := "tuple") (op := .Lt) ⟨_, ha, rfl⟩ ⟨_, hb, rfl⟩ F.slot_tuple_lt (wpAny_call_entry F.slot_tuple_lt ⟨_, ha, rfl⟩ F.entry_tuple_lt (tup_lt ha hb hlt ⟨_, rfl, (fun e => nomatch e), h⟩) (F.args_tuple_lt_2 _ _)) hu
theorem min_loop {g : Heap} {I S l : Addr} {vs : List Value} {v0 : Value} {R : Result → Shared → Prop} (hh : A.handled = none) (gI : g.get? I = none) (gS : g.get? S = none) (hSI : S ≠ I) (hl : g.IsList l vs.toArray)
    (hcmp : ∀ j v, 0 < j → vs[j]? = some v → ∀ (s : Shared), (∀ b o, g.get? b = some o → s.heap.get? b = some o) → ∀ Q E, Q (.bool false) s → wpAny (model prog w) A.in1 (richCompare .Lt v v0) Q E s)
    (hR : ∀ h' tk, (∀ b o, g.get? b = some o → h'.get? b = some o) → R (.ok (.ret v0)) { s with heap := h', toks := tk }) :
    ∀ k j (h : Heap) tk c, vs.length - j = k → 1 ≤ j → j ≤ vs.length → (∀ b o, g.get? b = some o → h.get? b = some o) → h.IsListIter I l j → h.get? S = some { cls := .type "list", dict := none, data := .seq #[v0, v0] c, slots := #[] } →
      codeAny (model prog w) A (.builtin "min.loop" ⟨[.ref I, .none, .ref S], []⟩) R { s with heap := h, toks := tk } := by
  have hname : (toString "min" ++ toString ".loop" : String) = "min.loop" := by decide
  intro k
  induction k with
  | zero =>
    intro j h tk c hk h1 hj hg hit hS
    refine codeAny_builtin PySem.F.entry_min_loop ?_
    rw [Around.under_plainId PySem.F.plain_min_loop _]
    show wpAny _ A.in1 (seqItems? (.ref S) >>= _) _ _ _
    refine wpAny_bind (wpAny_seqItems hS rfl ?_)
    show wpAny _ A.in1 (tryCatch (pyNext (.ref I)) _ >>= _) _ _ _
    refine wpAny_bind (wpAny_tryCatch (wpAny_pyNext_list_end (items := vs.toArray) hh hit (let ⟨o, e, r⟩ := hl; ⟨o, hg _ _ e, r⟩) (by simp; omega) fun h' he => ?_))
    show wpAny _ A.in1 (updateSeq S (fun _ => #[]) >>= _) _ _ _
    refine wpAny_bind ?_
    refine wpAny_updateSeq (he S _ hSI hS) rfl (wpAny_bind (wpAny_letGo (wpAny_pure ?_)))
    exact hR _ _ fun b o e => (Heap.get?_update_other _ _ (Ne.symm (ne_of_none e gS))).trans (he b o (ne_of_none e gI) (hg b o e))
  | succ k ih =>
    intro j h tk c hk h1 hj hg hit hS
    have hlt : j < vs.length := by omega
    refine codeAny_builtin PySem.F.entry_min_loop ?_
    rw [Around.under_plainId PySem.F.plain_min_loop _]
    show wpAny _ A.in1 (seqItems? (.ref S) >>= _) _ _ _
    refine wpAny_bind (wpAny_seqItems hS rfl ?_)
    show wpAny _ A.in1 (tryCatch (pyNext (.ref I)) _ >>= _) _ _ _
    refine wpAny_bind (wpAny_tryCatch (wpAny_pyNext_list_item (items := vs.toArray) (x := vs[j]) hit (let ⟨o, e, r⟩ := hl; ⟨o, hg _ _ e, r⟩) (by simp [hlt]) fun h' hit' hs' => ?_))
    have hS' : h'.get? S = some { cls := .type "list", dict := none, data := .seq #[v0, v0] c, slots := #[] } := hs'.extBut S _ hSI hS
    have hg' : ∀ b o, g.get? b = some o → h'.get? b = some o := fun b o e => hs'.extBut b o (ne_of_none e gI) (hg b o e)
    show wpAny _ A.in1 (tryCatch (holding [vs[j], vs[j]] (richCompare .Lt vs[j] v0 >>= _)) _ >>= _) _ _ _
    refine wpAny_bind (wpAny_tryCatch (wpAny_holding (wpAny_bind (hcmp j vs[j] (by omega) (by simp [hlt]) _ hg' _ _ ?_))))
    refine wpAny_bind (wpAny_holding (wpAny_truthy_bool ?_))
    refine wpAny_bind (wpAny_letGo (wpAny_pure ?_))
    simp only [Bool.false_eq_true, if_false]
    refine wpAny_bind (wpAny_letGo ?_)
    rw [hname]
    exact wpAny_pure ⟨plainId_quiet PySem.F.plain_min_loop _, ih (j + 1) _ _ c (by omega) (by omega) hlt hg' hit' hS'⟩
end
section
open PySem.Calls
variable {w : World} {c : Cfg} {m : Vars} {l : Led} {k : Nat}
/-- a list of pairs of which the first is least -/
inductive PairsGt (l : Led) (i0 : Int) : List Value → Prop
  | nil : PairsGt l i0 []
  | cons {a : Addr} {i j : Int} {t u : Tok} {n : Nat} {vs : List Value} : (a, tupO [.int i t, .int j u] n) ∈ l → i0 < i → PairsGt l i0 vs → PairsGt l i0 (.ref a :: vs)
theorem PairsGt.at {l : Led} {i0 : Int} : ∀ {vs : List Value} {j : Nat} {v : Value}, PairsGt l i0 vs → vs[j]? = some v → ∃ a i j t u n, v = .ref a ∧ (a, tupO [.int i t, .int j u] n) ∈ l ∧ i0 < i
  | _ :: _, 0, _, .cons h1 h2 _, e => by cases e; exact ⟨_, _, _, _, _, _, rfl, h1, h2⟩
  | _ :: _, j + 1, _, .cons _ _ r, e => PairsGt.at r (j := j) (by simpa using e)
  | [], _, _, _, e => by simp at e
theorem J_min (G : Good w c (k + 1)) {la a0 : Addr} {nn n0 : Nat} {i0 j0 : Int} {t0 u0 : Tok} {vs : List Value} {Q : Value → Vars → Led → Prop} (hm : (la, W.listOf (Value.ref a0 :: vs).toArray nn) ∈ l) (h0 : (a0, tupO [.int i0 t0, .int j0 u0] n0) ∈ l) (hp : PairsGt l i0 vs)
    (h : Q (.ref a0) m l) : J w c (call (.builtin "min") [.ref la]) Q m l := by
  intro g tk F N
  have hname : (toString "min" ++ toString ".loop" : String) = "min.loop" := by decide
  refine call_function_tree PySem.F.kind_min PySem.F.plain_min PySem.F.entry_min (PySem.F.args_min1 _) ?_
  show wpAny _ c.A.in1 (Builtin.Builtins.bindParams "min" ["key", "default"] 0 ⟨[], []⟩ >>= _) _ _ _
  refine wpAny_bind (wpAny_of_eq (show Builtin.Builtins.bindParams "min" ["key", "default"] 0 ⟨[], []⟩ = pure [none, none] from rfl) ?_)
  refine wpAny_bind (wpAny_pure ?_)
  have hla := (N _ hm).1
  have gl : g.IsList la (Value.ref a0 :: vs).toArray := ⟨_, hla, rfl, _, rfl⟩
  refine wpAny_bind (wpAny_pyIter_list gl ?_)
  refine wpAny_bind (wpAny_newObj_type ?_)
  rw [hname]
  dsimp only
  generalize hH1 : g.push { cls := .type "list_iterator", data := .fields #[.ref la, .int 0 0] } = H1
  have s1 : H1.objs.size = g.objs.size + 1 := by rw [← hH1, Heap.size_push]
  have fresh : ∀ a, g.objs.size ≤ a → g.get? a = none := fun a ha => by
    cases e : g.get? a with
    | none => rfl
    | some o' => exact absurd (Heap.lt_size e) (Nat.not_lt.mpr ha)
  have gI := fresh g.objs.size (Nat.le_refl _)
  have gS := fresh H1.objs.size (by omega)
  have hSI : H1.objs.size ≠ g.objs.size := Nat.ne_of_gt (by omega)
  have up : ∀ b o, g.get? b = some o → (H1.push { cls := .type "list", dict := none, data := .seq ([] : List Value).toArray }).get? b = some o := fun b o e => Heap.get?_push_of_some _ (hH1 ▸ Heap.get?_push_of_some _ e)
  refine wpAny_pure ⟨plainId_quiet PySem.F.plain_min_loop _, ?_⟩
  refine codeAny_builtin PySem.F.entry_min_loop ?_
  rw [Around.under_plainId PySem.F.plain_min_loop _]
  show wpAny _ c.A.in1 (seqItems? (.ref H1.objs.size) >>= _) _ _ _
  refine wpAny_bind (wpAny_seqItems (Heap.get?_push_size _ rfl) rfl ?_)
  show wpAny _ c.A.in1 (tryCatch (pyNext (.ref g.objs.size)) _ >>= _) _ _ _
  refine wpAny_bind (wpAny_tryCatch (wpAny_pyNext_list_item (items := (Value.ref a0 :: vs).toArray) (x := .ref a0) (l := la) (i := 0) ⟨_, Heap.get?_push_of_some _ (hH1 ▸ Heap.get?_push_size _ rfl), rfl, rfl⟩ ⟨_, up _ _ hla, rfl, _, rfl⟩ (by simp) fun h' hit' hs' => ?_))
  have hS' : h'.get? H1.objs.size = some { cls := .type "list", dict := none, data := .seq ([] : List Value).toArray 0 } := hs'.extBut _ _ hSI (Heap.get?_push_size _ rfl)
  show wpAny _ c.A.in1 (updateSeq H1.objs.size (fun _ => #[.ref a0, .ref a0]) >>= _) _ _ _
  refine wpAny_bind ?_
  refine wpAny_updateSeq hS' rfl ?_
  rw [hname]
  have hu : c.A.in1.units < cLine := by
    have := G.hu
    show c.A.units + 1 < 9900
    omega
  refine wpAny_pure ⟨plainId_quiet PySem.F.plain_min_loop _, min_loop (s := ⟨h', c.gs, c.dr, tk, c.os⟩) (A := c.A) (g := g) (v0 := .ref a0) (vs := Value.ref a0 :: vs) G.hh gI gS hSI gl ?_ ?_ _ 1 _ _ _ rfl (Nat.le_refl _) (by simp) ?_ ?_ (Heap.get?_update_self _ hS' rfl)⟩
  · intro j v hj hv s' hg' Q' E' hq
    obtain ⟨j, rfl⟩ : ∃ j', j = j' + 1 := ⟨j - 1, by omega⟩
    obtain ⟨a, i, jj, t, u, n, rfl, hm2, hlt⟩ := hp.at (j := j) (by simpa using hv)
    exact rc_lt hu (hg' _ _ (N _ hm2).1) (hg' _ _ (N _ h0).1) hlt hq
  · intro h'' tk'' hk''
    exact post_intro (F.keeps hk'') (N.grown hk'') h
  · exact fun b o e => (Heap.get?_update_other _ _ (Ne.symm (ne_of_none e gS))).trans (hs'.extBut b o (ne_of_none e gI) (up b o e))
  · obtain ⟨o, ho, hr⟩ := hit'
    exact ⟨o, (Heap.get?_update_other _ _ hSI).trans ho, hr⟩
end


end


section
variable {w : World} {c : Cfg} {α β : Type} {m : Vars} {l l' : Led} {k : Nat} {i j : Int} {t u : Tok} {Q : Value → Vars → Led → Prop}
theorem bits_small {a : Int} (h0 : 0 ≤ a) (h : a ≤ 1000000) : Builtin.Int.intBits a ≤ 64 := by
  exact intBits_le_64 (by omega) (by omega)
set_option maxHeartbeats 8000000 in
theorem turn_J (G : Good w c (k + 1)) {wd cla : Addr} {wo : Obj} {at_ : Nat} {t3 tm : Tok} {vs : List Value} {ns : List Int} {many : Int} {nn : Nat} {r : Led}
    (hw : DK w wo [(Str.ofString "cells", .ref cla), (Str.ofString "at", .int (at_ : Int) t3)]) (hc : (cla, W.listOf vs.toArray nn) ∈ r)
    (hi : IntsAre vs ns) (hlen : ns.length ≤ 63) (hfr : ∀ p ∈ r, p.1 ≠ wd) (hk : at_ ≤ 10000) (hm : 0 < many) 
    (ret : ∀ d t t' wo', 0 ≤ d → d < many → DK w wo' [(Str.ofString "cells", .ref cla), (Str.ofString "at", .int ((at_ + 1 : Nat) : Int) t')] → Q (.int d t) m ((wd, wo') :: r)) :
    J w c (call (.ref 184) [.ref wd, .int many tm]) Q m ((wd, wo) :: r) := by
  have hB : Binds [(Str.ofString "wheel", .ref wd), (Str.ofString "many", .int many tm)] := trivial
  walk_at "en"
  intro c' G' C' he
  walk_at "jj"
  refine J_dget (v := .int (at_ : Int) t3) (.head _) hw rfl ?_
  walk_at "jj"
  refine J_dset hfr hw (Nat.le_of_ble_eq_true rfl) ?_
  intro wo' hw'
  have hw2 : DK w wo' [(Str.ofString "cells", .ref cla), (Str.ofString "at", .int ((at_ : Int) + 1) _)] := hw'
  walk_at "jj"
  refine J_dget (v := .ref cla) (.head _) hw2 rfl ?_
  walk_at "jj"
  refine J_lenL (.tail _ hc) (by have := hi.length; simp; omega) fun _ => ?_
  walk_at "jj"
  rw [show vs.toArray.size = ns.length by simp [hi.length]]
  by_cases hlt : at_ < ns.length
  · refine ite_dt (by omega) ?_
    walk_at "jj"
    refine J_dget (v := .ref cla) (.head _) hw2 rfl ?_
    walk_at "jj"
    obtain ⟨t0, hx⟩ := hi.get at_ ns[at_] (by simp [hlt])
    refine J_itemL (.tail _ hc) (by omega) (by omega) (by simpa using hx) ?_
    walk_at "jj"
    refine J_mod (by omega) fun _ => ?_
    exact ret _ _ _ _ (Int.fmod_nonneg_of_pos _ hm) (Int.fmod_lt_of_pos _ hm) hw2
  · refine ite_df (by omega) ?_
    walk_at "jj"
    refine J_mul (IntMulOk.of_left (by decide +kernel)) fun _ => ?_
    walk_at "jj"
    refine J_mul (IntMulOk.of_left (bits_small (by omega) (by omega))) fun _ => ?_
    walk_at "jj"
    refine J_fdiv (by decide) (fun _ => ?_) (by decide)
    walk_at "jj"
    refine J_mod (by omega) fun _ => ?_
    exact ret _ _ _ _ (Int.fmod_nonneg_of_pos _ hm) (Int.fmod_lt_of_pos _ hm) hw2
end


section
variable {w : World} {c : Cfg} {m : Vars} {r : Led} {k : Nat} {x dx : Addr} {L : List Nat} {p e dp : Nat} {T : Nat → Tok} {Q : Value → Vars → Led → Prop}
theorem J_isubL {value slice : Expr} {n : Nat} {t u : Tok} {l : Led} (hz : L.length < 5000) (hn : L[p]? = some n) (h : ∀ t, Q (.str (Sx [n]) t) m l)
    (hs : subscripted slice false (.str (Sx L) t) (.int (p : Int) u) = operate [.str (Sx L) t, .int (p : Int) u] (getItem (.str (Sx L) t) (.int (p : Int) u)) := by with_unfolding_all rfl) (ht : ∀ r, letTemporaryGo value (.str (Sx L) t) r = pure () := by intro _; with_unfolding_all rfl) :
    J w c (subscriptTail value slice (.str (Sx L) t) (.int (p : Int) u)) Q m l := by
  have := (List.getElem?_eq_some_iff.mp hn).1
  exact J_isub (by omega) (by rw [Sx_len]; omega) (by rw [Sx_len]; omega) (fun t => by rw [item_Sx hn]; exact h t) hs ht
theorem sign_J (G : Good w c (k + 1)) (h1 : (x, instObj 167 dx) ∈ r) (he : e ≤ L.length) (hz : L.length < 5000) (h : ∀ t, Q (.str (Sx (sgn L p e)) t) m ((dx, sD w (Sx L) p e dp T) :: r)) :
    J w c (call (.ref 108) [.ref x]) Q m ((dx, sD w (Sx L) p e dp T) :: r) := by
  have hB : Binds [(Str.ofString "self", .ref x)] := trivial
  walk_at "en"
  intro c' G' C' he'
  walk_at "jj"
  by_cases hlt : p < e
  · refine ite_dt (by omega) ?_
    obtain ⟨n, hn⟩ : ∃ n, L[p]? = some n := ⟨_, List.getElem?_eq_getElem (by omega)⟩
    walk_at "jj"
    refine J_isubL hz hn fun t => ?_
    have := h t
    rw [sgn_at hlt hn] at this
    exact this
  · refine ite_df (by omega) ?_
    walk_at "jj"
    have := h (by assumption)
    rw [sgn_end (by omega)] at this
    exact this
end


section
variable {w : World} {c : Cfg} {m : Vars} {r : Led} {k : Nat} {x dx : Addr} {L : List Nat} {p e dp : Nat} {T : Nat → Tok} {Q : Value → Vars → Led → Prop}
theorem skip_J (G : Good w c (k + 2)) (h1 : (x, instObj 167 dx) ∈ r) (hr : ∀ q ∈ r, q.1 ≠ dx) (he : e + 2 ≤ L.length) (hz : L.length < 5000) (b : Nat) (hb : ∀ i, i < b → p + i < e ∧ L[p + i]? = some 32) (hs : stop L (p + b) e)
    (h : ∀ T', Q .none m ((dx, sD w (Sx L) (p + b) e dp T') :: r)) : J w c (call (.ref 115) [.ref x]) Q m ((dx, sD w (Sx L) p e dp T) :: r) := by
  have hB : Binds [(Str.ofString "self", .ref x)] := trivial
  walk_at "en"
  intro c' G' C' he'
  refine J_cons (J_while G' he' (fun n m' l' => n ≤ b ∧ m' = (fun y => List.lookup y [(Str.ofString "self", Value.ref x)].reverse) ∧ ∃ T', l' = (dx, sD w (Sx L) (p + (b - n)) e dp T') :: r) b ⟨Nat.le_refl _, rfl, T, by rw [Nat.sub_self, Nat.add_zero]⟩ ?_)
  rintro n m' l' ⟨hn, rfl, T', rfl⟩
  walk_at "jj"
  by_cases hlt : p + (b - n) < e
  · refine ite_dt (by omega) ?_
    walk_at "jj"
    by_cases hn0 : n = 0
    · subst hn0
      obtain hs | ⟨v, hv, hv'⟩ := hs
      · omega
      · rw [Nat.sub_zero] at hlt ⊢
        simp only [List.mem_cons, List.mem_nil_iff, not_or, or_false] at hv'
        refine J_isubL hz hv fun _ => ?_
        walk_at "jj"
        refine J_in1 (ys := [32, 9, 13, 10]) (b := false) rfl (by simp [hv']) ?_
        walk_at "jj"
        refine J_isubL hz hv fun _ => ?_
        walk_at "jj"
        refine J_eqL (ys := [37]) (b := false) rfl (by simp [hv']) ?_
        walk_at "jj"
        refine ⟨L, p + b, p + b + 2, _, _, _, rfl, rfl, rfl, by omega, by omega, by omega, fun t => ?_⟩
        walk_at "jj"
        refine J_eqL (ys := [47, 42]) (b := false) rfl ?_ ?_
        · rw [List.drop_eq_getElem_cons (by omega), show p + b + 2 - (p + b) = 1 + 1 by omega, List.take_succ_cons]
          rw [List.getElem?_eq_getElem (by omega)] at hv
          simp at hv
          simp [hv, hv']
        walk_at "jj"
        exact h _
    · have hc := hb (b - n) (by omega)
      refine J_isubL hz hc.2 fun _ => ?_
      walk_at "jj"
      refine J_in1 (ys := [32, 9, 13, 10]) (b := true) rfl rfl ?_
      walk_at "jj"
      refine J_sSpot (p' := p + (b - (n - 1))) G' h1 hr (by omega) fun T2 => ?_
      walk_at "jj"
      exact ⟨n - 1, _, by omega, fun _ h => h, by omega, rfl, T2, rfl⟩
  · refine ite_df (by omega) ?_
    walk_at "jj"
    have hn0 : n = 0 := by
      by_cases h0 : n = 0
      · exact h0
      · have := hb (b - n) (by omega)
        omega
    subst hn0
    exact h _
end


section
variable {w : World} {c : Cfg} {m : Vars} {r : Led} {k : Nat} {x dx : Addr} {L : List Nat} {p e dp : Nat} {T : Nat → Tok} {Q : Value → Vars → Led → Prop}
theorem run_of_J (G : Good w c (k + 2)) (h1 : (x, instObj 167 dx) ∈ r) (hr : ∀ q ∈ r, q.1 ≠ dx) (he : e ≤ L.length) (hz : L.length < 5000) {S : PySem.Str} {tS : Tok} {ys : List Nat} (hS : S.cps.toList = ys) (n : Nat)
    (hn : ∀ i, i < n → p + i < e ∧ ∃ v, L[p + i]? = some v ∧ v ∈ ys) (hpe : p + n ≤ L.length) (hs : e ≤ p + n ∨ ∃ v, L[p + n]? = some v ∧ v ∉ ys)
    (h : ∀ t T', Q (.str (Sx ((L.drop p).take n)) t) m ((dx, sD w (Sx L) (p + n) e dp T') :: r)) : J w c (call (.ref 122) [.ref x, .str S tS]) Q m ((dx, sD w (Sx L) p e dp T) :: r) := by
  have hB : Binds [(Str.ofString "self", .ref x), (Str.ofString "signs", .str S tS)] := trivial
  walk_at "en"
  intro c' G' C' he'
  walk_at "jj"
  refine J_while G' he' (fun j m' l' => j ≤ n ∧ m' = up (fun y => List.lookup y [(Str.ofString "self", Value.ref x), (Str.ofString "signs", Value.str S tS)].reverse) (Str.ofString "begin") (.int (p : Int) (T 5)) ∧ ∃ T', l' = (dx, sD w (Sx L) (p + (n - j)) e dp T') :: r) n ⟨Nat.le_refl _, rfl, T, by rw [Nat.sub_self, Nat.add_zero]⟩ ?_
  rintro j m' l' ⟨hj, rfl, T', rfl⟩
  walk_at "jj"
  by_cases hlt : p + (n - j) < e
  · refine ite_dt (by omega) ?_
    walk_at "jj"
    by_cases h0 : j = 0
    · subst h0
      obtain hs | ⟨v, hv, hv'⟩ := hs
      · omega
      · refine J_isubL hz hv fun _ => ?_
        walk_at "jj"
        refine J_in1 (ys := ys) (b := false) hS (by simp [hv']) ?_
        walk_at "jj"
        refine ⟨L, p, p + n, _, _, _, rfl, rfl, rfl, by omega, by omega, by omega, fun t => ?_⟩
        rw [Nat.add_sub_cancel_left]
        exact h t T'
    · obtain ⟨_, v, hv, hv'⟩ := hn (n - j) (by omega)
      refine J_isubL hz hv fun _ => ?_
      walk_at "jj"
      refine J_in1 (ys := ys) (b := true) hS (by simp [hv']) ?_
      walk_at "jj"
      refine J_sSpot (p' := p + (n - (j - 1))) G' h1 hr (by omega) fun T2 => ?_
      walk_at "jj"
      exact ⟨j - 1, _, by omega, fun _ h => h, by omega, rfl, T2, rfl⟩
  · refine ite_df (by omega) ?_
    walk_at "jj"
    have h0 : j = 0 := by
      by_cases h0 : j = 0
      · exact h0
      · have := hn (n - j) (by omega)
        omega
    subst h0
    refine ⟨L, p, p + n, _, _, _, rfl, rfl, rfl, by omega, by omega, by omega, fun t => ?_⟩
    rw [Nat.add_sub_cancel_left]
    exact h t T'
end


section
variable {w : World} {c : Cfg} {m : Vars} {r : Led} {k : Nat} {x dx : Addr} {L : List Nat} {p e dp : Nat} {T : Nat → Tok} {Q : Value → Vars → Led → Prop}
theorem tup3 {l : Led} {a : Addr} {k : PySem.Str} {v : Value} {D : Dat} {i j : Int} {t u : Tok} {n : Nat} (hm : (a, tupO [.str k t, v, .int i u] n) ∈ l) (hv : DatIn l v D) (hi : i = j) : DatIn l (.ref a) (.tuple [.str k, D, .int j]) := by
  subst hi
  exact .tuple hm (.cons (.str _ _) (.cons hv (.cons (.int _ _) .nil)))
theorem number_J (G : Good w c (k + 3)) (h1 : (x, instObj 167 dx) ∈ r) (hr : ∀ q ∈ r, q.1 ≠ dx) (he : e ≤ L.length) (hz : L.length < 5000) (hp : p + 2 < e) (c0 : L[p]? = some 49) (c1 : L[p + 1]? = some 50) (c2 : L[p + 2]? = some 32)
    (h : ∀ a o T', (∀ q ∈ r, q.1 < a) → dx < a → DatIn [(a, o)] (.ref a) (tk3 "int" (.int 12) p) → Q (.ref a) m ((a, o) :: (dx, sD w (Sx L) (p + 2) e dp T') :: r)) : J w c (call (.ref 129) [.ref x]) Q m ((dx, sD w (Sx L) p e dp T) :: r) := by
  have hB : Binds [(Str.ofString "self", .ref x)] := trivial
  walk_at "en"
  intro c' G' C' he'
  walk_at "jj"
  refine run_of_J G' h1 hr he hz (ys := [48, 49, 50, 51, 52, 53, 54, 55, 56, 57]) rfl 2 (fun i hi => ?_) (by omega) (.inr ⟨32, c2, by decide⟩) fun t T2 => ?_
  · match i, hi with
    | 0, _ => exact ⟨by omega, 49, c0, by decide⟩
    | 1, _ => exact ⟨by omega, 50, c1, by decide⟩
  have ht : (L.drop p).take 2 = [49, 50] := by
    rw [List.drop_eq_getElem_cons (by omega), List.drop_eq_getElem_cons (by omega)]
    rw [List.getElem?_eq_getElem (by omega)] at c0 c1
    simp at c0 c1
    simp [c0, c1]
  rw [ht]
  walk_at "jj"
  refine J_lenS (by decide) fun _ => ?_
  walk_at "jj"
  refine ite_df (by decide) ?_
  walk_at "jj"
  refine sign_J G' h1 he hz fun _ => ?_
  rw [sgn_at (by omega) c2]
  walk_at "jj"
  refine J_neL (ys := []) (b := true) rfl rfl ?_
  walk_at "jj"
  refine sign_J G' h1 he hz fun _ => ?_
  rw [sgn_at (by omega) c2]
  walk_at "jj"
  refine J_in1 (b := false) (x := _) rfl (by decide) ?_
  walk_at "jj"
  refine J_inttext (n := 12) (by decide +kernel) (by decide) fun _ => ?_
  walk_at "jj"
  refine J_newT (fun a ha => ?_) (Nat.le_of_ble_eq_true rfl)
  exact h a _ T2 (fun q hq => ha q (.tail _ hq)) (ha _ (.head _)) (tup3 (.head _) (.int _ _) rfl)
theorem word_J (G : Good w c (k + 3)) (h1 : (x, instObj 167 dx) ∈ r) (hr : ∀ q ∈ r, q.1 ≠ dx) (he : e ≤ L.length) (hz : L.length < 5000) (nm : List Nat) (hnm : nm ∈ [[120, 49], [121], [97]]) (hp : p + nm.length ≤ e) (hc : (L.drop p).take nm.length = nm)
    (hs : e ≤ p + nm.length ∨ ∃ v, L[p + nm.length]? = some v ∧ v ∈ [40, 41, 43])
    (h : ∀ a o T', (∀ q ∈ r, q.1 < a) → dx < a → DatIn [(a, o)] (.ref a) (tk3 "name" (.str (Sx nm)) p) → Q (.ref a) m ((a, o) :: (dx, sD w (Sx L) (p + nm.length) e dp T') :: r)) : J w c (call (.ref 136) [.ref x]) Q m ((dx, sD w (Sx L) p e dp T) :: r) := by
  have hB : Binds [(Str.ofString "self", .ref x)] := trivial
  walk_at "en"
  intro c' G' C' he'
  walk_at "jj"
  have hs' : e ≤ p + nm.length ∨ ∃ v, L[p + nm.length]? = some v ∧ v ∉ List.range' 97 26 ++ List.range' 65 26 ++ List.range' 48 10 ++ [95] := by
    rcases hs with hs | ⟨v, hv, hv'⟩
    · exact .inl hs
    · refine .inr ⟨v, hv, ?_⟩
      simp at hv'
      rcases hv' with rfl | rfl | rfl <;> decide
  refine run_of_J G' h1 hr he hz (ys := List.range' 97 26 ++ List.range' 65 26 ++ List.range' 48 10 ++ [95]) (by decide +kernel) nm.length (fun i hi => ?_) (by omega) hs' fun t T2 => ?_
  · refine ⟨by omega, nm[i], ?_, ?_⟩
    · have : ((L.drop p).take nm.length)[i]? = some nm[i] := by rw [hc]; simp [hi]
      rw [List.getElem?_take, if_pos hi, List.getElem?_drop] at this
      exact this
    · have : ∀ v ∈ nm, v ∈ [120, 49, 121, 97] := by
        simp at hnm
        rcases hnm with rfl | rfl | rfl <;> decide
      have := this _ (List.getElem_mem hi)
      simp at this
      rcases this with q | q | q | q <;> rw [q] <;> decide
  rw [hc]
  walk_at "jj"
  refine J_inK (b := false) G' (by k_is) rfl rfl ?_ ?_
  · simp at hnm
    rcases hnm with rfl | rfl | rfl <;> decide
  walk_at "jj"
  refine J_newT (fun a ha => ?_) (Nat.le_of_ble_eq_true rfl)
  exact h a _ T2 (fun q hq => ha q (.tail _ hq)) (ha _ (.head _)) (tup3 (.head _) (.str _ _) rfl)
end


section
open PySem PySem.W PyProof.Rows PySem.Calls
abbrev mwO (e : Addr) : Obj := { cls := .type "method-wrapper", data := .fields #[.builtin "Exception.__init__", .ref e] }
section
variable {w : World} {c : Cfg} {m : Vars} {l : Led} {k k' : Nat} {env : Env}
theorem J_getSuperB (G : Good w c k) {so e t0 : Addr} {de : Option Addr} {cd : ClassData} {pl : Sem Bool} {Q : Value × List Value → Vars → Led → Prop} (hso : (so, ks_superObj 40 e 81) ∈ l) (he : (e, excO de t0) ∈ l)
    {oC : Obj} (hK : (Mine.KK w.params).lookup 81 = some oC) (ho : nsIn (Mine.KK w.params) cStatics "thirdparty.any" = some none) (hc : clsIn (Mine.KK w.params) 81 = some cd) (hmro : cd.mro = excMro)
    (hal : ks_superIn (Mine.KK w.params) 81 40 "__init__" = some (some (.builtin "Exception.__init__")))
    (h : ∀ mw, (∀ p ∈ l, p.1 < mw) → Q (.ref mw, []) m ((mw, mwO e) :: l)) : J w c (getMethod (.ref so) "__init__" pl) Q m l := by
  intro hp tk F N
  have X : (Mine.KK w.params).In hp := G.X.keeps F.keep
  have hne : e ≠ 81 := by
    rintro rfl
    have := (N _ he).2.2
    rw [G.X _ _ hK] at this
    cases this
  refine getMethod_super_b (l := [.type "Exception", .type "BaseException", .type "object"]) (N _ hso).1 (looks_opaque X ho) (l₀ := cd.mro) ((looks_clsIn X hc).andThen .now) (by rw [hmro]; rfl) X (by unfold ks_superIn at hal; rw [hc, Option.bind_some, hmro] at hal; exact hal) (N _ he).1 rfl hne (by unfold mroIn; rw [hc, Option.bind_some, hmro]; rfl) ?_
  exact post_intro (F.push _) (News.push F N _) (h _ fun p hp' => Heap.lt_size (N p hp').1)
theorem J_callMW {mw e : Addr} {a : Expr} {rest : List Expr} {pos : Pos} {Q : Value → Vars → Led → Prop} (h : J w c (spliced (backTo pos (starEach (a :: rest) env))) (fun vs m l => (mw, mwO e) ∈ l ∧ J w c (call (.ref mw) vs) Q m l) m l)
    (he : starEach (a :: rest) env = (false, eval a env) :: starEach rest env := by rfl) (hplain : (backTo pos (starEach rest env)).any (·.1) = false := by rfl) :
    J w c (callWith pos (.ref mw) [] (backTo pos (starEach (a :: rest) env)) []) Q m l := by
  intro hp tk F N
  have h1 := h.use (tk := tk) F N (R := fun vs s₁ => s₁.heap.get? mw = some (mwO e) ∧ wpAny (model PR w) c.A (call (.ref mw) ([] ++ vs)) (Post c Q) c.E s₁) fun vs m' l' h' tk' F' N' q => ⟨(N' _ q.1).1, q.2 _ _ F' N'⟩
  rw [he] at h1 ⊢
  refine callWith_of (P := fun h => h.get? mw = some (mwO e)) (by show ((false || (backTo pos (starEach rest env)).any (·.1)) || false) = false; rw [hplain]; rfl) (fun h hm => ⟨.machine, .inr (.inl rfl), (Looks.ld (part := none) hm).andThen .now⟩) (evalArgs_plain h1)
theorem J_runMW (G : Good w c k) {mw e t0 : Addr} {v : Value} {cd : ClassData} {oC : Obj} {r : Led} {Q : Value → Vars → Led → Prop} (hr : ∀ p ∈ r, p.1 ≠ e) (hmw : (mw, mwO e) ∈ r)
    (hK : (Mine.KK w.params).lookup 81 = some oC) (hCc : oC.cls = .type "type") (hCd : oC.data = .cls cd) (hmro : cd.mro = excMro) (hc : clsIn (Mine.KK w.params) 81 = some cd)
    (h : ∀ t1, (∀ p ∈ ((e, excO none t0) :: r), p.1 < t1) → Q .none m ((e, excO none t1) :: (t1, tupO [v] 0) :: r)) : J w c (call (.ref mw) [v]) Q m ((e, excO none t0) :: r) := by
  intro hp tk F N
  have X : (Mine.KK w.params).In hp := G.X.keeps F.keep
  have hlt : ∀ p ∈ ((e, excO none t0) :: r), p.1 < hp.objs.size := fun p hp' => Heap.lt_size (N p hp').1
  have F1 := F.push (tupO [v] 0)
  have N1 := News.push F N (tupO [v] 0)
  obtain ⟨F2, N2⟩ := news_upd (pre := [(hp.objs.size, tupO [v] 0)]) (post := r) (d := e) (o := excO none t0) (o' := excO none hp.objs.size) (f := Obj.mapFields (·.setIfInBounds 0 (.ref hp.objs.size))) F1 N1
    (fun p hp' => by rw [List.mem_singleton.mp hp']; exact Nat.ne_of_gt (hlt _ (.head _))) hr rfl rfl
  refine call_wrapper X (N _ (.tail _ hmw)).1 (by unfold mroIn; rw [hc, Option.bind_some, hmro]; rfl) (X _ _ hK) hCc hCd (N _ (.head _)).1 ?_
  refine post_intro F2 (l' := (e, excO none hp.objs.size) :: (hp.objs.size, tupO [v] 0) :: r) (fun p hp' => N2 p ?_) (h _ hlt)
  rcases List.mem_cons.mp hp' with rfl | hp'
  · exact .tail _ (.head _)
  · rcases List.mem_cons.mp hp' with rfl | hp'
    · exact .head _
    · exact .tail _ (.tail _ hp')
end


end

section
variable {w : World} {c : Cfg} {m : Vars} {l : Led} {k k' : Nat}
set_option maxHeartbeats 4000000 in
theorem init30 (G : Good w c k') {A' : Around} (hA : A'.frames = some (c.env :: c.outer)) (hh : A'.handled = none) (hd : A'.depth + 3 < 990) (hu : A'.units + 24 < 9800) {e t0 : Addr} {v : Value} {r : Led} {R : Result → Shared → Prop}
    {hp : Heap} {tk : Nat} (F : Fr c.h₀ c.L hp m) (N : News c.h₀ c.L hp ((e, excO none t0) :: r)) (hr : ∀ p ∈ r, p.1 ≠ e)
    (hR : ∀ h tk t1 d tkw, Fr c.h₀ c.L h m → News c.h₀ c.L h ((e, excO (some d) t1) :: (d, dictOf [⟨PyData.keyHash w.params "what", .str "what" tkw, v⟩] 1) :: r) → e < d → (∀ p ∈ r, p.1 < d) → R (.ok (.ret .none)) ⟨h, c.gs, c.dr, tk, c.os⟩) :
    codeAny (model PR w) A' (.call (.ref 30) ⟨[.ref e, v], []⟩) R ⟨hp, c.gs, c.dr, tk, c.os⟩ := by
  refine' enterS (k := 2) (binds := [(Str.ofString "self", .ref e), (Str.ofString "what", v)]) G hA hh (by omega) (by omega) F N ?ho ?hcd ?hb ?hl ?h ?h4 ?h1 ?h2 ?h3
  case ho => k_is
  case hcd => k_is
  case hb => exact fun s => BindsTo.of_eq rfl
  case hl => exact rfl
  case h1 => exact rfl
  case h2 => exact rfl
  case h3 => exact rfl
  case h4 => decide
  intro c' G'
  refine' JA_super (C := 81) (D := 40) (x := e) (odx := none) G' ?a1 ?a2 ?a3 ?a4 ?a5 ?a6 ?a7 ?a8 ?a9 ?b1 ?b2 ?b3 ?b4 ?b5 ?b6 ?b7 ?b8 ?b9 ?d1 ?d2 ?d3 ?d4
  case a1 => k_is
  case a2 => exact rfl
  case a3 => exact rfl
  case a4 => exact fun h N => ⟨(N _ (.head _)).1, rfl, rfl, trivial⟩
  case a5 => k_is
  case a6 => exact rfl
  case a7 => decide +kernel
  case a8 => k_is
  case a9 => k_is
  case b1 => k_is
  case b2 => k_is
  case b3 => decide
  case b4 => exact rfl
  case b5 => exact rfl
  case b6 => exact rfl
  case b7 => exact rfl
  case b8 => decide +kernel
  case b9 => boot_by_name
  case d2 => exact rfl
  case d3 => exact rfl
  case d4 => exact rfl
  intro so l1
  refine' J_getSuperB G' (.head _) (.tail _ (.head _)) ?k0 ?k1 ?k2 ?k3 ?k4 ?_
  case k0 => k_is
  case k1 => k_is
  case k2 => k_is
  case k3 => exact rfl
  case k4 => ks_is
  intro mw l2
  refine J_callMW (e := e) ?_
  walk_at "jj"
  refine ⟨.head _, ?_⟩
  refine J.sub (l' := (e, excO none t0) :: (mw, mwO e) :: r) ?_ (by simp_all)
  have hne : mw ≠ e := Nat.ne_of_gt (l2 _ (.tail _ (.head _)))
  refine' J_runMW G' (List.forall_mem_cons.mpr ⟨hne, hr⟩) (.head _) ?k0 ?k1 ?k2 ?k3 ?k4 ?_
  case k0 => k_is
  case k1 => exact rfl
  case k2 => exact rfl
  case k3 => exact rfl
  case k4 => k_is
  intro t1 l3
  walk_at "jj"
  refine J.sub (l' := (e, excO none t1) :: r) ?_ (by simp_all)
  refine' J_setE0 G' hr ?k0 ?k1 ?k2 ?k3 ?k4 ?_
  case k0 => k_is
  case k1 => k_is
  case k2 => exact rfl
  case k3 => exact rfl
  case k4 => k_is
  intro d tkw l4
  walk_at "jj"
  intro h tk F N
  exact hR h tk t1 d tkw F N (l4 _ (.head _)) fun p hp => l4 p (.tail _ hp)
theorem J_getSuper30 (G : Good w c k) {so e t0 : Addr} {de : Option Addr} {od : Option Obj} {pl : Sem Bool} {Q : Value × List Value → Vars → Led → Prop} (hso : (so, ks_superObj 69 e 81) ∈ l) (I : ∀ h, News c.h₀ c.L h l → W.InstAt h e (excO de t0) 81 od)
    (ho : nsIn (Mine.KK w.params) cStatics "thirdparty.any" = some none) (hm : ks_superIn (Mine.KK w.params) 81 69 "__init__" = some (some (.ref 30))) (ht : typeIn (Mine.KK w.params) (.ref 30) = some (.type "function"))
    (h : ∀ q, (∀ p ∈ l, p.1 < q) → Q (.ref q, []) m ((q, methodObj (.ref 30) (.ref e)) :: l)) : J w c (getMethod (.ref so) "__init__" pl) Q m l :=
  fun hp tk F N => ks_method (s := ⟨hp, c.gs, c.dr, tk, c.os⟩) F G.X N hso (I _ N) ho hm ht (by decide) fun q h' F' N' l1 => post_intro F' N' (h q l1)
theorem J_callM {env : Env} (G : Good w c k) {q g : Addr} {self : Value} {e : Expr} {rest : List Expr} {pos : Pos} {Q : Value → Vars → Led → Prop} (hq : (q, methodObj (.ref g) self) ∈ l) (hf : fnIn (Mine.KK w.params) g = true)
    (h : J w c (spliced (backTo pos (starEach (e :: rest) env))) (fun vs m l => (q, methodObj (.ref g) self) ∈ l ∧ J w c (call (.ref q) vs) Q m l) m l)
    (he : starEach (e :: rest) env = (false, eval e env) :: starEach rest env := by rfl) (hplain : (backTo pos (starEach rest env)).any (·.1) = false := by rfl) : J w c (callWith pos (.ref q) [] (backTo pos (starEach (e :: rest) env)) []) Q m l :=
  fun _ _ F N => callWith_M (h₀ := c.h₀) (L := c.L) (self := self) (g := g) G.X N hq hf (h.use F N fun _ _ _ _ _ F' N' q => ⟨⟨(N' _ q.1).1, G.X.keeps F'.keep⟩, q.2 _ _ F' N'⟩) he hplain
theorem J_call30 (G : Good w c k') (hk : 4 ≤ k') {q e t0 : Addr} {v : Value} {r : Led} {Q : Value → Vars → Led → Prop} (hq : (q, methodObj (.ref 30) (.ref e)) ∈ r) (hr : ∀ p ∈ r, p.1 ≠ e)
    (h : ∀ t1 d tkw, e < d → (∀ p ∈ r, p.1 < d) → Q .none m ((e, excO (some d) t1) :: (d, dictOf [⟨PyData.keyHash w.params "what", .str "what" tkw, v⟩] 1) :: r)) : J w c (call (.ref q) [v]) Q m ((e, excO none t0) :: r) := by
  intro hp tk F N
  have hd := G.hd
  have hu := G.hu
  refine call_meth (s := ⟨hp, c.gs, c.dr, tk, c.os⟩) N (.tail _ hq) (init30 G G.hA G.hh (by omega) (by omega) F N hr ?_)
  intro h' tk' t1 d tkw F' N' h1 h2
  exact post_intro F' N' (h t1 d tkw h1 h2)
set_option maxHeartbeats 4000000 in
theorem init59 (G : Good w c k') {A' : Around} (hA : A'.frames = some (c.env :: c.outer)) (hh : A'.handled = none) (hd : A'.depth + 6 < 990) (hu : A'.units + 48 < 9800) {e t0 : Addr} {v : Value} {n : Int} {tn : Tok} {r : Led} {R : Result → Shared → Prop}
    {hp : Heap} {tk : Nat} (F : Fr c.h₀ c.L hp m) (N : News c.h₀ c.L hp ((e, excO none t0) :: r)) (hr : ∀ p ∈ r, p.1 ≠ e)
    (hR : ∀ h tk t1 d tkw tks, Fr c.h₀ c.L h m → News c.h₀ c.L h ((e, excO (some d) t1) :: (d, dictOf [⟨PyData.keyHash w.params "what", .str "what" tkw, v⟩, ⟨PyData.keyHash w.params "spot", .str "spot" tks, .int n tn⟩] 2) :: r) → R (.ok (.ret .none)) ⟨h, c.gs, c.dr, tk, c.os⟩) :
    codeAny (model PR w) A' (.call (.ref 59) ⟨[.ref e, v, .int n tn], []⟩) R ⟨hp, c.gs, c.dr, tk, c.os⟩ := by
  refine' enterS (k := 5) (binds := [(Str.ofString "self", .ref e), (Str.ofString "what", v), (Str.ofString "spot", .int n tn)]) G hA hh (by omega) (by omega) F N ?ho ?hcd ?hb ?hl ?h ?h4 ?h1 ?h2 ?h3
  case ho => k_is
  case hcd => k_is
  case hb => exact fun s => BindsTo.of_eq rfl
  case hl => exact rfl
  case h1 => exact rfl
  case h2 => exact rfl
  case h3 => exact rfl
  case h4 => decide
  intro c' G'
  refine' JA_super (C := 81) (D := 69) (x := e) (odx := none) G' ?a1 ?a2 ?a3 ?a4 ?a5 ?a6 ?a7 ?a8 ?a9 ?b1 ?b2 ?b3 ?b4 ?b5 ?b6 ?b7 ?b8 ?b9 ?d1 ?d2 ?d3 ?d4
  case a1 => k_is
  case a2 => exact rfl
  case a3 => exact rfl
  case a4 => exact fun h N => ⟨(N _ (.head _)).1, rfl, rfl, trivial⟩
  case a5 => k_is
  case a6 => exact rfl
  case a7 => decide +kernel
  case a8 => k_is
  case a9 => k_is
  case b1 => k_is
  case b2 => k_is
  case b3 => decide
  case b4 => exact rfl
  case b5 => exact rfl
  case b6 => exact rfl
  case b7 => exact rfl
  case b8 => decide +kernel
  case b9 => boot_by_name
  case d2 => exact rfl
  case d3 => exact rfl
  case d4 => exact rfl
  intro so l1
  refine' J_getSuper30 (od := none) G' (.head _) (fun h N => ⟨(N _ (.tail _ (.head _))).1, rfl, rfl, trivial⟩) ?k1 ?k2 ?k3 ?_
  case k1 => k_is
  case k2 => ks_is
  case k3 => k_is
  intro q l2
  refine' J_callM G' (.head _) ?k1 ?_
  case k1 => k_is
  walk_at "jj"
  refine ⟨.head _, ?_⟩
  refine J.sub (l' := (e, excO none t0) :: (q, methodObj (.ref 30) (.ref e)) :: r) ?_ (by simp_all)
  have hne : q ≠ e := Nat.ne_of_gt (l2 _ (.tail _ (.head _)))
  refine J_call30 G' (by omega) (.head _) (List.forall_mem_cons.mpr ⟨hne, hr⟩) ?_
  intro t1 d tkw l3 l4
  walk_at "jj"
  have l5 : ∀ p ∈ r, p.1 ≠ d := fun p hp => Nat.ne_of_lt (l4 p (.tail _ hp))
  refine J.sub (l' := (d, dictOf [⟨PyData.keyHash w.params "what", .str "what" tkw, v⟩] 1) :: (e, excO (some d) t1) :: r) ?_ (by simp_all)
  refine' J_setE1 (es' := fun t => [⟨PyData.keyHash w.params "what", .str "what" tkw, v⟩, ⟨PyData.keyHash w.params "spot", .str "spot" t, .int n tn⟩]) (n' := 2) G' (List.forall_mem_cons.mpr ⟨Nat.ne_of_lt l3, l5⟩) (.head _) ?k0 ?k1 ?k2 ?k3 ?k4 rfl ?hput ?hz ?_
  case k0 => k_is
  case k1 => k_is
  case k2 => exact rfl
  case k3 => exact rfl
  case k4 => k_is
  case hput => intro t; exact rfl
  case hz => exact fun _ => Nat.le_of_ble_eq_true rfl
  intro t
  walk_at "jj"
  intro h tk F N
  refine hR h tk t1 d tkw t F (fun p hp => N p ?_)
  rcases List.mem_cons.mp hp with rfl | hp
  · exact .tail _ (.head _)
  rcases List.mem_cons.mp hp with rfl | hp
  · exact .head _
  · exact .tail _ (.tail _ hp)
end


section
open PySem PySem.W PyProof.Rows PySem.Calls PySem.Builtin
section
variable {w : World} {A : Around} {E : Value → Shared → Prop} {h : Heap} {g : Array GenState} {d : Drawn} {t : Nat} {os : OsState}
variable {nm q : PySem.Str} {N : Addr} {bs bm : List Value} {hdct : Bool} {sn : List PySem.Str} {sub : List Value} {ab : Bool} {col : Option Bool} {dd : Option Addr} {k0 k1 k2 k3 k5 : Option Value}
abbrev tfC (nm q : PySem.Str) (N : Addr) (bs bm : List Value) (hdct : Bool) (sn : List PySem.Str) (sub : List Value) (ab : Bool) (col : Option Bool) (dd : Option Addr) (k0 k1 k2 k3 k5 : Option Value) : Obj := excClassObj nm q 81 N bs bm hdct sn sub ab col dd k0 k1 k2 k3 k5 "Exception.__new__"
theorem tf_checkNew {M : Model} {rest : List Value} {Q : Unit → Shared → Prop} (hC : h.get? 81 = some (tfC nm q N bs bm hdct sn sub ab col dd k0 k1 k2 k3 k5)) (hb : (Value.ref 81 :: bm).contains (.type "Exception") = true) (hq : Q () ⟨h, g, d, t, os⟩) :
    wpAny M A (checkBuiltinCall "Exception.__new__" ⟨.ref 81 :: rest, []⟩) Q E ⟨h, g, d, t, os⟩ := by
  have F := PySem.F.excBase_Exception
  have hstar := F.noStar
  simp only [checkBuiltinCall, F.newKind, F.newSplit, F.newRow]
  repeat (first | refine wpAny_loadPart_at hC ?_ | (refine wpAny_isSubtype_exc hC ?_; rw [hb]) | refine wpAny_staticBase_exc hC ?_ | refine wpAny_madeBy_exc hC ?_ | simp only [bne_self_eq_false, Bool.false_eq_true, if_false] | wp_step)
  exact hq
theorem tf_new {R : Result → Shared → Prop} {rest : List Value} (hC : h.get? 81 = some (tfC nm q N bs bm hdct sn sub ab col dd k0 k1 k2 k3 k5)) (hb : (Value.ref 81 :: bm).contains (.type "Exception") = true)
    (ha : (Value.ref 81 :: bm).contains (.type "AttributeError") = false) (hn : (Value.ref 81 :: bm).contains (.type "NameError") = false) (hz : rest.length ≤ sizeLine)
    (hq : R (.ok (.ret (.ref (h.objs.size + 1)))) ⟨(h.push (tupO rest 0)).push (excO none h.objs.size), g, d, t, os⟩) :
    codeAny (model PR w) A (.builtin "Exception.__new__" ⟨.ref 81 :: rest, []⟩) R ⟨h, g, d, t, os⟩ := by
  have F := PySem.F.excBase_Exception
  have hends := F.ends
  refine codeAny_builtinAt F.entry ?_
  unfold Builtin.«BaseException.__new__»
  refine PySem.wpAt_bind ?_
  show PySem.wpAt _ _ _ (stack >>= _) _ _ _
  refine PySem.wpAt_bind (PySem.wpAt_stack fun p below => wpAt_of_wpAny ?_)
  wp_walk
  refine wpAt_of_wpAny ?_
  rw [F.owner]
  repeat (first | with_reducible refine wpAny_madeHere_exc F.canon hC ?_ | with_reducible refine wpAny_loadPart_at hC ?_ | (with_reducible refine wpAny_isSubtype_exc hC ?_; first | rw [hb] | rw [ha] | rw [hn]) | wp_step)
  show R _ _
  rw [Heap.size_push]
  exact hq
end
section
variable {w : World} {c : Cfg} {m : Vars} {l : Led} {k k' : Nat}
variable {nm q : PySem.Str} {N : Addr} {bs bm : List Value} {hdct : Bool} {sn : List PySem.Str} {sub : List Value} {ab : Bool} {col : Option Bool} {dd : Option Addr} {k0 k1 k2 k3 k5 : Option Value}
/-- a TextFault made: its own __init__ runs in a fresh exception -/
theorem J_mkTF0 (G : Good w c k) {vs : List Value} {Q : Value → Vars → Led → Prop} {oI : Obj} (hC : (Mine.KK w.params).lookup 81 = some (tfC nm q N bs bm hdct sn sub ab col dd k0 k1 k2 k3 k5)) (hb : (Value.ref 81 :: bm).contains (.type "Exception") = true)
    (ha : (Value.ref 81 :: bm).contains (.type "AttributeError") = false) (hn : (Value.ref 81 :: bm).contains (.type "NameError") = false) (hz : vs.length ≤ 1000)
    (hi : findIn (Mine.KK w.params) (.ref 81) "__init__" = some (some (.ref 59))) (hf : (Mine.KK w.params).lookup 59 = some oI) (hfc : oI.cls = .type "function")
    (h : ∀ e t0 hp tk R, (∀ p ∈ l, p.1 ≠ e) → Fr c.h₀ c.L hp m → News c.h₀ c.L hp ((e, excO none t0) :: l) →
      (∀ h' tk', Fr c.h₀ c.L h' m → (∃ l', News c.h₀ c.L h' l' ∧ Q (.ref e) m l') → R (.ok (.ret .none)) ⟨h', c.gs, c.dr, tk', c.os⟩) →
      codeAny (model PR w) (c.A.under (.builtin "type.__call__" ⟨.ref 81 :: vs, []⟩)) (.call (.ref 59) ⟨.ref e :: vs, []⟩) R ⟨hp, c.gs, c.dr, tk, c.os⟩) :
    J w c (call (.ref 81) vs) Q m l := by
  intro hp tk F0 N0
  have X : (Mine.KK w.params).In hp := G.X.keeps F0.keep
  have hC1 : hp.get? 81 = some (tfC nm q N bs bm hdct sn sub ab col dd k0 k1 k2 k3 k5) := X _ _ hC
  have f1 := tc_lookup
  have f2 := tc_bind (.ref 81)
  have hT : (⟨hp, c.gs, c.dr, tk, c.os⟩ : Shared).TypeIs (.ref 81) "type" := ⟨_, hC1, rfl⟩
  have hz' : vs.length ≤ sizeLine := by rw [PySem.sizeLine_eq]; omega
  refine wpAny_call (codeAny_of_tree ?_)
  show wpAny _ _ (callAny (.ref 81) _) _ _ _
  repeat (any_goals (first | assumption | with_reducible refine wpAny_loadPart_at hC1 ?_ | wp_step))
  refine ⟨rfl, ?_⟩
  refine codeAny_call_builtin_at (Code.quiet_builtin _ (by decide +kernel)) entry_typeCall (wpAny_check_type_call_sub hC1 ?_)
  repeat (first | with_reducible refine wpAny_loadPart_at hC1 ?_ | with_reducible refine wpAny_madeBy_exc hC1 ?_ | wp_step)
  refine codeAny_call_builtin_code (Code.quiet_builtin _ PySem.F.excBase_Exception.quiet) (tf_checkNew hC1 hb ?_)
  refine tf_new (rest := vs) hC1 hb ha hn hz' ?_
  show wpAny _ _ _ _ _ _
  have F2 := (F0.push (tupO vs 0)).push (excO none hp.objs.size)
  have N1 := News.push F0 N0 (tupO vs 0)
  have N2 := News.push (F0.push (tupO vs 0)) N1 (excO none hp.objs.size)
  have X2 : (Mine.KK w.params).In _ := G.X.keeps F2.keep
  have hC2 := X2 _ _ hC
  have hf2 := X2 _ _ hf
  have es : (hp.push (tupO vs 0)).objs.size = hp.objs.size + 1 := Heap.size_push _ _
  rw [es] at N2
  have hget : ((hp.push (tupO vs 0)).push (excO none hp.objs.size)).get? (hp.objs.size + 1) = some { cls := .ref 81, data := .fields #[.ref hp.objs.size, .none, .none, .none, .bool false, .none] } := (N2 _ (.head _)).1
  have hcC : (Value.ref 81 :: bm).contains (.ref 81) = true := by simp
  unfold isInstance
  repeat (first | with_reducible refine wpAny_loadPart_at hget ?_ | (with_reducible refine wpAny_isSubtype_exc hC2 ?_; rw [hcC]) | wp_step)
  show wpAny _ _ (typeLookup (.ref 81) _) _ _ _
  refine (looks_findIn X2 hi).here ?_
  refine wpAny_holding (wpAny_bind ?_)
  unfold bindSpecial
  refine wpAny_bind (wpAny_typeOf (T := "function") ⟨_, hf2, hfc⟩ ?_)
  rw [if_pos (by decide)]
  refine wpAny_pure (wpAny_bind (wpAny_call (h (hp.objs.size + 1) hp.objs.size _ _ _ (fun p hp' => ?_) F2 (fun p hp' => N2 p ?_) fun h' tk' F' ⟨l', N', q'⟩ => ?_)))
  · have := Heap.lt_size (N0 p hp').1
    exact Nat.ne_of_lt (Nat.lt_succ_of_lt this)
  · rcases List.mem_cons.mp hp' with rfl | hp'
    · exact .head _
    · exact .tail _ (.tail _ hp')
  · show wpAny _ _ _ _ _ _
    wp_walk
    exact post_intro F' N' q'
end


end

section
open PySem PySem.W PyProof.Rows PySem.Calls
/-! a TextFault on its way: its dict stays -/
abbrev eO (d : Addr) (vs : Array Value) : Obj := { cls := .ref 81, dict := some d, data := .fields vs }
def Tr (d : Addr) (fl : Value) (h base : Heap) (e : Addr) : Prop :=
  ∃ vs T oT ts, h.get? e = some (eO d vs) ∧ vs[1]? = some (.ref T) ∧ base.get? T = none ∧ T ≠ e ∧ h.get? T = some oT ∧ oT.data = .fields ts ∧ ts[3]? = some fl
structure Fl (base : Heap) (l : List Env) (e d : Addr) (fl : Value) (h : Heap) : Prop where
  st : base.StaysIn h
  new : base.get? e = none
  fr : h.FunFrames base l
  tr : Tr d fl h base e
/-- a heap that differs from another at records of the newer ones alone -/
theorem keeps_off {base h : Heap} {l : List Env} {a : Addr} {o : Obj} {vs : Array Value} {f : Obj → Obj} (st : base.StaysIn h) (fr : h.FunFrames base l) (ha : h.get? a = some o) (hd : o.data = .fields vs) (hn : base.get? a = none) :
    base.StaysIn (h.update a f) ∧ (h.update a f).FunFrames base l ∧ h.UpToSlots (h.update a f) ∧ ∀ b, b ≠ a → (h.update a f).get? b = h.get? b := by
  have other : ∀ b, b ≠ a → (h.update a f).get? b = h.get? b := fun b hb => Heap.get?_update_other _ _ (Ne.symm hb)
  have off : ∀ b o', h.get? b = some o' → (∀ ws, o'.data ≠ .fields ws) → b ≠ a := fun b o' hb hnf q => by
    rw [q, ha] at hb; injection hb with hb; subst hb; exact hnf vs hd
  exact ⟨fun b o' q => (other b fun z => by rw [z, hn] at q; cases q).trans (st b o' q), fr.of_keeps fun b o' hb hnf => ⟨o', (other b (off b o' hb hnf)).trans hb, rfl⟩,
    fun b o' hb hnf => ⟨o'.slots, (other b (off b o' hb hnf)).trans hb⟩, other⟩
section
variable {M : Model} {A : Around} {E : Value → Shared → Prop} {s : Shared} {base : Heap} {env : Env} {outer : List Env} {L e d : Addr}
theorem fl_entry {vs : Array Value} {head : Value} {hadNext : Bool} {Q : Unit → Shared → Prop} (hfr : A.frames = some (env :: outer)) (hf : env.frame = some L) (fr : s.heap.FunFrames base (env :: outer)) (st : base.StaysIn s.heap) (new : base.get? e = none)
    (he : s.heap.get? e = some (eO d vs)) (hz : 1 < vs.size) (hq : ∀ h', Fl base (env :: outer) e d (rawInt L) h' → s.heap.UpToSlots h' → Q () { s with heap := h' }) :
    wpAny M A (do let a ← frameOf env; let pl ← entryPlaceOf L hadNext; let b ← EntryCells.newEntry head a .none (rawInt L) .none pl; setField (.ref e) 1 b) Q E s := by
  have notFrame : e ∉ (env :: outer).filterMap (·.frame) := fun z => by
    obtain ⟨_, o, ho, hnf⟩ := fr.mem z
    rw [he] at ho; cases ho; exact hnf vs rfl
  refine wpAny_bind (wpAny_frameOf_fun hfr fr hf fun h₁ ⟨_, sl1, sl2⟩ => wpAny_bind (wpAny_entryPlaceOf fun pl hpl => ?_))
  unfold EntryCells.newEntry newFields
  refine wpAny_bind (wpAny_newObj_type ?_ (hpl.sizeOk5 _ _ _ _ _))
  have he1 : h₁.get? e = some (eO d vs) := (sl1 e notFrame).trans he
  have st1 : base.StaysIn h₁ := fun b o q => (sl1 b fun z => by rw [(fr.mem z).1] at q; cases q).trans (st b o q)
  have up1 : s.heap.UpToSlots h₁ := fun b o hb _ => sl2 b o hb
  have fr1 : h₁.FunFrames base (env :: outer) := fr.of_keeps fun b o hb _ => by
    obtain ⟨sl, q⟩ := sl2 b o hb
    exact ⟨_, q, rfl⟩
  have hk2 : ∀ ob b o, h₁.get? b = some o → (h₁.push ob).get? b = some o := fun ob b o q => Heap.get?_push_of_some ob q
  have ne : h₁.objs.size ≠ e := Nat.ne_of_gt (Heap.lt_size he1)
  refine wpAny_setField (hk2 _ _ _ he1) rfl hz ?_
  obtain ⟨st3, fr3, up3, ot3⟩ := keeps_off (f := Obj.mapFields (·.setIfInBounds 1 (Value.ref h₁.objs.size))) (fun b o q => hk2 _ b o (st1 b o q)) (fr1.of_keeps fun b o q _ => ⟨o, hk2 _ b o q, rfl⟩) (hk2 _ _ _ he1) rfl new
  refine hq _ ⟨st3, new, fr3, ⟨vs.setIfInBounds 1 (.ref h₁.objs.size), h₁.objs.size, _, _, Heap.get?_update_self _ (hk2 _ _ _ he1) rfl, by simp [hz], st1.fresh, ne, (ot3 _ ne).trans (Heap.get?_push_size _ rfl), rfl, ?_⟩⟩ ((up1.trans (.of_keeps (hk2 _))).trans up3)
  rcases hpl with rfl | ⟨_, _, _, _, _, _, _, rfl⟩ <;> simp
theorem fl_note0 {vs : Array Value} {Q : Unit → Shared → Prop} (hfr : A.frames = some (env :: outer)) (hf : env.frame = some L) (fr : s.heap.FunFrames base (env :: outer)) (st : base.StaysIn s.heap) (new : base.get? e = none)
    (he : s.heap.get? e = some (eO d vs)) (h1 : vs[1]? = some .none) (hq : ∀ h', Fl base (env :: outer) e d (rawInt L) h' → s.heap.UpToSlots h' → Q () { s with heap := h' }) : wpAny M A (noteFrame (.ref e) env) Q E s := by
  unfold noteFrame
  simp only [hf]
  refine wpAny_bind (wpAny_field he rfl h1 ?_)
  rw [if_neg (by decide)]
  exact fl_entry hfr hf fr st new he (Array.getElem?_eq_some_iff.mp h1).1 hq
theorem fl_note {Q : Unit → Shared → Prop} (hfr : A.frames = some (env :: outer)) (hf : env.frame = some L) (x : Fl base (env :: outer) e d .none s.heap)
    (hq : ∀ h', Fl base (env :: outer) e d (rawInt L) h' → s.heap.UpToSlots h' → Q () { s with heap := h' }) : wpAny M A (noteFrame (.ref e) env) Q E s := by
  obtain ⟨st, new, fr, vs, T, oT, ts, he, h1, hT0, ne, hT, hd, h3⟩ := x
  unfold noteFrame
  simp only [hf]
  refine wpAny_bind (wpAny_field he rfl h1 ?_)
  rw [if_pos (show (Value.ref T != Value.none) = true by simp)]
  refine wpAny_bind (wpAny_field hT hd h3 ?_)
  rw [if_neg (show ¬ ((Value.none == rawInt L) = true) by simp [rawInt])]
  refine wpAny_bind (wpAny_setField hT hd (Array.getElem?_eq_some_iff.mp h3).1 ?_)
  obtain ⟨st2, fr2, up2, ot2⟩ := keeps_off (f := Obj.mapFields (·.setIfInBounds 3 Value.none)) st fr hT hd hT0
  exact fl_entry hfr hf fr2 st2 new ((ot2 e (Ne.symm ne)).trans he) (Array.getElem?_eq_some_iff.mp h1).1 fun h' x u => hq h' x (up2.trans u)
theorem fl_set {l : List Env} {fl : Value} {Q : Unit → Shared → Prop} (x : Fl base l e d fl s.heap)
    (hq : ∀ h', Fl base l e d .none h' → s.heap.UpToSlots h' → Q () { s with heap := h' }) : wpAny M A (setFlight (.ref e) none) Q E s := by
  obtain ⟨st, new, fr, vs, T, oT, ts, he, h1, hT0, ne, hT, hd, h3⟩ := x
  have hz := (Array.getElem?_eq_some_iff.mp h3).1
  unfold setFlight
  refine wpAny_bind (wpAny_field he rfl h1 ?_)
  rw [if_pos (show (Value.ref T != Value.none) = true by simp)]
  refine wpAny_setField hT hd hz ?_
  obtain ⟨st2, fr2, up2, ot2⟩ := keeps_off (f := Obj.mapFields (·.setIfInBounds 3 ((none : Option Addr).elim Value.none fun f => rawInt f))) st fr hT hd hT0
  exact hq _ ⟨st2, new, fr2, vs, T, _, _, (ot2 e (Ne.symm ne)).trans he, h1, hT0, ne, Heap.get?_update_self _ hT (Obj.isFreed_of_fields (Obj.data_mapFields hd _)), Obj.data_mapFields hd _, by simp [hz]⟩ up2
theorem Fl.tail {fl : Value} {h : Heap} (x : Fl base (env :: outer) e d fl h) : Fl base outer e d fl h := ⟨x.st, x.new, x.fr.2.2, x.tr⟩
theorem Fl.low {B h : Heap} {l : List Env} {fl : Value} (k : base.StaysIn B) (x : Fl B l e d fl h) : Fl base l e d fl h := by
  obtain ⟨st, new, fr, vs, T, oT, ts, he, h1, hT0, r⟩ := x
  exact ⟨fun b o q => st b o (k b o q), fresh_of_stays k new, funFrames_base k fr, vs, T, oT, ts, he, h1, fresh_of_stays k hT0, r⟩
end
/-! what a raise hands on -/
def bagOf (w : World) (n : Int) (v : Value) (t1 t2 tn : Tok) : Obj := dictOf [⟨PyData.keyHash w.params "what", .str "what" t1, v⟩, ⟨PyData.keyHash w.params "spot", .str "spot" t2, .int n tn⟩] 2
def Fly (w : World) (base : Heap) (l : List Env) (n : Int) (e : Addr) (h : Heap) : Prop :=
  ∃ B d v t1 t2 tn, base.StaysIn B ∧ B.get? d = some (bagOf w n v t1 t2 tn) ∧ base.get? d = none ∧ Fl B l e d .none h
/-- the raise is taken: fresh from this very frame, or come from a call -/
structure Rz (w : World) (c : Cfg) (m : Vars) (n : Int) : Prop where
  fly : ∀ e h g tk, Fly w c.base (c.env :: c.outer) n e h → Fr c.h₀ c.L g m → g.UpToSlots h → c.E (.ref e) ⟨h, c.gs, c.dr, tk, c.os⟩
def Rn (w : World) (c : Cfg) (n : Int) : Prop :=
  ∀ e t0 d v t1 t2 tn m l h tk, Fr c.h₀ c.L h m → News c.h₀ c.L h ((e, excO (some d) t0) :: (d, bagOf w n v t1 t2 tn) :: l) → c.E (.ref e) ⟨h, c.gs, c.dr, tk, c.os⟩
section
variable {w : World} {c c' : Cfg} {m m' : Vars} {l : Led} {k k' : Nat} {n : Int}
theorem Rz.of (G' : Good w c' k') (C : Callee w c m c') (r : Rz w c m n) : Rz w c' m' n := ⟨by
  intro e h g tk ⟨B, d, v, t1, t2, tn, hB, hd, hd0, x⟩ F' U
  refine C.E _ _ ?_
  unfold leaving
  refine wpAny_bind (fl_note G'.hA G'.hf (s := ⟨h, c'.gs, c'.dr, tk, c'.os⟩) x fun h1 x1 u1 => fl_set x1 fun h2 x2 u2 => ?_)
  rw [C.gs, C.dr, C.os]
  have up : c'.h₀.UpToSlots h2 := (((Heap.UpToSlots.of_keeps F'.keep).trans U).trans u1).trans u2
  exact r.fly e h2 c'.h₀ tk ⟨B, d, v, t1, t2, tn, C.base ▸ hB, hd, C.base ▸ hd0, C.outer ▸ x2.tail⟩ C.fg up⟩
theorem Rz.new (G' : Good w c' k') (C : Callee w c m c') (r : Rz w c m n) : Rn w c' n := by
  intro e t0 d v t1 t2 tn m' l h tk F N
  refine C.E _ _ ?_
  have K := G'.B
  have fr : h.FunFrames c'.base (c'.env :: c'.outer) := ⟨by rw [G'.hk]; exact nofun, ⟨c'.L, by
      obtain ⟨o, _, _, ho, hd, _⟩ := F.ns
      refine ⟨o, G'.hf, ?_, ho, fun vs q => by rw [hd] at q; cases q⟩
      cases q : c'.base.get? c'.L with
      | none => rfl
      | some o' => exact absurd (Heap.lt_size (K.stays _ _ q)) (Nat.not_lt.mpr F.above)⟩, K.frames.of_keeps fun b o q _ => ⟨o, F.keep b o q, rfl⟩⟩
  have st : c'.base.StaysIn h := fun b o q => F.keep b o (K.stays b o q)
  have De := N _ (.head _)
  have Dd := N _ (.tail _ (.head _))
  let as := e :: (c'.env :: c'.outer).filterMap (·.frame)
  let B := hideAll h as
  have e0 := fresh_of_stays K.stays De.2.2
  have d0 := fresh_of_stays K.stays Dd.2.2
  have stB : c'.base.StaysIn B := fun b o q => hideAll_get _ (st b o q) fun hm => by
    rcases List.mem_cons.mp hm with rfl | hm
    · rw [e0] at q; cases q
    · rw [(fr.mem hm).1] at q; cases q
  have dB : B.get? d = some (bagOf w n v t1 t2 tn) := hideAll_get _ Dd.1 fun hm => by
    rcases List.mem_cons.mp hm with rfl | hm
    · have := De.1.symm.trans Dd.1; cases this
    · obtain ⟨env, he, hf⟩ := List.mem_filterMap.mp hm
      rcases List.mem_cons.mp he with rfl | he
      · exact Dd.2.1 (Option.some.inj (hf.symm.trans G'.hf))
      · obtain ⟨o, ho, _⟩ := (K.frames.mem (List.mem_filterMap.mpr ⟨env, he, hf⟩)).2
        rw [Dd.2.2] at ho; cases ho
  have frB : h.FunFrames B (c'.env :: c'.outer) := funFrames_hide fr fun env he a ha => .tail _ (List.mem_filterMap.mpr ⟨env, he, ha⟩)
  unfold leaving
  refine wpAny_bind (fl_note0 (d := d) G'.hA G'.hf (s := ⟨h, c'.gs, c'.dr, tk, c'.os⟩) frB (fun b o q => of_hideAll _ q) (hideAll_none _ (.head _)) De.1 rfl fun h1 x1 u1 => fl_set x1 fun h2 x2 u2 => ?_)
  rw [C.gs, C.dr, C.os]
  have up : c'.h₀.UpToSlots h2 := ((Heap.UpToSlots.of_keeps F.keep).trans u1).trans u2
  exact r.fly e h2 c'.h₀ tk ⟨B, d, v, t1, t2, tn, C.base ▸ stB, dB, C.base ▸ d0, C.outer ▸ x2.tail⟩ C.fg up
end


end

section
variable {w : World} {c c' : Cfg} {m m' : Vars} {l : Led} {k k' : Nat} {n : Int} {env : Env}
theorem J_mkTF (G : Good w c k) (hk : 7 ≤ k) {v : Value} {tn : Tok} {Q : Value → Vars → Led → Prop}
    (h : ∀ e t0 d t1 t2 l', (∀ p ∈ (e, excO (some d) t0) :: (d, bagOf w n v t1 t2 tn) :: l, p ∈ l') → Q (.ref e) m l') : J w c (call (.ref 81) [v, .int n tn]) Q m l := by
  have hd := G.hd
  have hu := G.hu
  refine' J_mkTF0 G ?k0 ?k1 ?k2 ?k3 ?kz ?k4 ?k5 ?k6 ?h
  case k0 => k_is
  case k1 => exact rfl
  case k2 => exact rfl
  case k3 => exact rfl
  case kz => exact Nat.le_of_ble_eq_true rfl
  case k4 => k_is
  case k5 => k_is
  case k6 => exact rfl
  case h =>
    intro e t0 hp tk R hr F N hR
    refine init59 G (A' := c.A.under (.builtin "type.__call__" ⟨.ref 81 :: [v, .int n tn], []⟩)) G.hA G.hh ?_ ?_ F N hr fun h' tk' t1 d tkw tks F' N' => hR h' tk' F' ⟨_, N', h e t1 d tkw tks _ fun p hp => hp⟩
    · have : Code.weight (.builtin "type.__call__" ⟨.ref 81 :: [v, .int n tn], []⟩) ≤ 1 := Nat.le_of_ble_eq_true rfl
      show c.A.depth + _ + 6 < 990
      omega
    · have : Code.cUnits (.builtin "type.__call__" ⟨.ref 81 :: [v, .int n tn], []⟩) ≤ 4 := Nat.le_of_ble_eq_true rfl
      show c.A.units + _ + 48 < 9800
      omega
theorem J_raise0 {nm q : PySem.Str} {N : Addr} {bs bm : List Value} {hdct : Bool} {sn : List PySem.Str} {sub : List Value} {ab : Bool} {col : Option Bool} {dd : Option Addr} {k0 k1 k2 k3 k5 : Option Value} (G : Good w c k) (hC : (Mine.KK w.params).lookup 81 = some (tfC nm q N bs bm hdct sn sub ab col dd k0 k1 k2 k3 k5)) {e : Expr} {pos : Pos} {Q : Flow → Vars → Led → Prop} (hm : mroIn (Mine.KK w.params) 81 (.type "BaseException") = some true) (hR : Rn w c n)
    (h : J w c (eval e env) (fun v m l => ∃ x t0 d v' t1 t2 tn, v = .ref x ∧ ∀ p ∈ [(x, excO (some d) t0), (d, bagOf w n v' t1 t2 tn)], p ∈ l) m l) : J w c (exec (.Raise (some e) none pos) env) Q m l := by
  intro hp tk F N
  rw [arm_exec_Raise]
  refine wpAny_bind (wpAny_standAt ?_)
  unfold raiseStmt
  refine wpAny_bind (wpAny_bind (h.use F N fun v m' l' h' tk' F' N' q => wpAny_bind (wpAny_standAt (wpAny_pure ?_))))
  obtain ⟨x, t0, d, v', t1, t2, tn, rfl, hs⟩ := q
  have N2 : News c.h₀ c.L h' [(x, excO (some d) t0), (d, bagOf w n v' t1 t2 tn)] := fun p hp => N' p (hs p hp)
  have he : h'.get? x = some { cls := .ref 81, dict := some d, data := .fields #[.ref t0, .none, .none, .none, .bool false, .none] } := (N2 _ (.head _)).1
  have X := G.X.keeps F'.keep
  have hC1 := X _ _ hC
  repeat (first | with_reducible refine wpAny_loadPart_at he ?_ | with_reducible refine wpAny_loadPart_at hC1 ?_ | with_reducible refine (looks_mroIn X hm).here ?_ | wp_step)
  exact wpAny_raiseNew_none G.hh (hR x t0 d v' t1 t2 tn m' l' h' tk' F' (fun p hp => by
    rcases List.mem_cons.mp hp with rfl | hp
    · exact N2 _ (.head _)
    rcases List.mem_cons.mp hp with rfl | hp
    · exact N2 _ (.tail _ (.head _))
    · exact N' p hp))
/-- what a raise awaits of its operand -/
def TFmade (w : World) (n : Int) (v : Value) (_ : Vars) (l : Led) : Prop := ∃ x t0 d v' t1 t2 tn, v = .ref x ∧ ∀ p ∈ [(x, excO (some d) t0), (d, bagOf w n v' t1 t2 tn)], p ∈ l
theorem J_mkTFr (G : Good w c k) (hk : 7 ≤ k) {v : Value} {tn : Tok} : J w c (call (.ref 81) [v, .int n tn]) (TFmade w n) m l :=
  J_mkTF G hk fun e t0 d t1 t2 l' hs => ⟨e, t0, d, v, t1, t2, tn, rfl, fun p hp => hs p (by
    rcases List.mem_cons.mp hp with rfl | hp
    · exact .head _
    · rw [List.mem_singleton.mp hp]; exact .tail _ (.head _))⟩
theorem J_raise (G : Good w c k) {e : Expr} {pos : Pos} {Q : Flow → Vars → Led → Prop} (hR : Rn w c n) (h : J w c (eval e env) (TFmade w n) m l) : J w c (exec (.Raise (some e) none pos) env) Q m l := by
  refine' J_raise0 G ?a ?b hR h
  case a => k_is
  case b => k_is
end


section
variable {prog : Program} {w : World} {A : Around} {E : Value → Shared → Prop} {h : Heap} {g : Array GenState} {d : Drawn} {t : Nat} {os : OsState} {x : Addr} {ox : Obj} {od : Option Obj} {name : PySem.Str} {v : Value}
theorem get_exc {K : Frag} {expr : Bool} {Q : Value → Shared → Prop} (X : K.In h) (I : W.InstAt h x ox 81 od) (hga : findIn K (.ref 81) "__getattribute__" = some (some (.builtin "BaseException.__getattribute__")))
    (hgg : findIn K (.ref 81) "__getattr__" = some none) (hf : findObj K 81 od name = some (.value v)) (hh : handedIn v = true) (hm : mroIn K 81 (.type "BaseException") = some true) (hq : Q v ⟨h, g, d, t + 1, os⟩) :
    wpAny (model prog w) A (getAttr (.ref x) name expr) Q E ⟨h, g, d, t, os⟩ := by
  have L0 := I.type (M := model prog w)
  have L1 := looks_findIn (M := model prog w) X hga
  have L2 := looks_findIn (M := model prog w) X hgg
  have L3 := looks_find (M := model prog w) X I hf
  have L4 := looks_mroIn (M := model prog w) X hm
  have f3 := PySem.F.attrBase_Exception.ga.bind (.ref x)
  have hx0 : (expr && onTheHeap (Value.builtin "BaseException.__getattribute__")) = false := by cases expr <;> rfl
  have hk : builtinKind "BaseException.__getattribute__" = some .slot := by decide +kernel
  have hsplit : splitId "BaseException.__getattribute__" = some ("BaseException", "__getattribute__") := by decide +kernel
  have ha := PySem.F.args_bexc_ga (.ref x) (.str name t)
  unfold getAttr getAttrBy
  refine wpAny_bind (wpAny_mkText (wpAny_holding (wpAny_bind (L0.at (wpAny_bind (L1.at ?_))))))
  show wpAny _ _ (getAttrByItsOwn _ _ _ _ _ _) _ _ _
  unfold getAttrByItsOwn
  refine wpAny_bind ?_
  show wpAny _ _ (typeLookup (.ref 81) "__getattr__") _ _ _
  refine L2.at (wpAny_bind (wpAny_attempt (wpAny_holding ?_)))
  unfold callGetattribute
  rw [hx0]
  rw [if_neg (by decide)]
  unfold boundAndCalled
  refine wpAny_bind (wpAny_of_eq f3 ?_)
  refine wpAny_call (codeAny_call_builtin PySem.F.attrBase_Exception.ga.plain PySem.F.entry_bexc_ga ?_)
  simp only [checkBuiltinCall, hk, hsplit]
  refine wpAny_bind ?_
  unfold isInstance
  refine wpAny_bind (L0.at (L4.at ?_))
  refine wpAny_onRaise ?_
  refine wpAny_pure ?_
  show wpAny _ _ (Builtin.«object.__getattribute__» ⟨[.ref x, .str name t], []⟩) _ _ _
  unfold Builtin.«object.__getattribute__»
  refine wpAny_bind (wpAny_of_eq (a := (Value.ref x, [Value.str name t])) rfl ?_)
  refine wpAny_bind (wpAny_pure (wpAny_bind (L0.at (wpAny_bind (L3.at (wpAny_pure ?_))))))
  show wpAny _ _ (handedOut v) _ _ _
  rw [handedOut_of hh]; exact wpAny_pure hq
end
section
variable {w : World} {c : Cfg} {m : Vars} {l : Led} {k : Nat} {cn : PySem.Str} {cs : Scope} {a : Addr} {ccd : Value}
theorem J_getX {K : Frag} {x d : Addr} {vs : Array Value} {n : Int} {v : Value} {t1 t2 tn : Tok} {expr : Bool} {Q : Value → Vars → Led → Prop} (X : K.In c.h₀) (he : (x, eO d vs) ∈ l) (hb : (d, bagOf w n v t1 t2 tn) ∈ l)
    (hga : findIn K (.ref 81) "__getattribute__" = some (some (.builtin "BaseException.__getattribute__"))) (hgg : findIn K (.ref 81) "__getattr__" = some none) (hh : hasDictIn K 81 = true) (ha : findIn K (.ref 81) "spot" = some none) (hm : mroIn K 81 (.type "BaseException") = some true)
    (h : Q (.int n tn) m l) : J w c (getAttr (.ref x) "spot" expr) Q m l :=
  fun hp tk F N => get_exc (X.keeps F.keep) (od := some (bagOf w n v t1 t2 tn)) ⟨(N _ he).1, rfl, rfl, (N _ hb).1⟩ hga hgg (findObj_own hh ha rfl (by show lookIn "spot" (dictOf _ _) = _; rw [lookIn_dict]; rfl)) rfl hm (post_intro F N h)
theorem J_tryTF (G : Good w c k) (he : c.env = envOf cn cs c.L a ccd) (hb0 : c.base = c.h₀) {nm q : PySem.Str} {N : Addr} {bs bm : List Value} {hdct : Bool} {sn : List PySem.Str} {sub : List Value} {ab : Bool} {col : Option Bool} {dd : Option Addr} {k0 k1 k2 k3 k5 : Option Value}
    (hC : (Mine.KK w.params).lookup 81 = some (tfC nm q N bs bm hdct sn sub ab col dd k0 k1 k2 k3 k5)) (hbm : bm.contains (.type "BaseException") = true)
    (hga : findIn (Mine.KK w.params) (.ref 81) "__getattribute__" = some (some (.builtin "BaseException.__getattribute__"))) (hgg : findIn (Mine.KK w.params) (.ref 81) "__getattr__" = some none) (hh : hasDictIn (Mine.KK w.params) 81 = true)
    (ha : findIn (Mine.KK w.params) (.ref 81) "spot" = some none) (hm : mroIn (Mine.KK w.params) 81 (.type "BaseException") = some true) (ex : nsIn (Mine.KK w.params) mainGlobals "TextFault" = some (some (.ref 81)))
    {body : List Stmt} {pos p1 p2 p3 p4 p5 p6 : Pos} {Q : Flow → Vars → Led → Prop} (P : Int → Prop)
    (hbody : ∀ E', Good w { c with E := E' } k → (∀ n, P n → Rz w { c with E := E' } m n) → J w { c with E := E' } (execs body (envOf cn cs c.L a ccd)) (fun f m l => f = .next ∧ Q .next m l) m l)
    (hcat : ∀ n m' tn, P n → m' "spot" = some (.int n tn) → (∀ y : PySem.Str, y ≠ "fault" → y ≠ "spot" → m' y = m y) → Q .next m' [])
    (hk : cs.kind = .function := by rfl) (hl1 : (envOf cn cs c.L a ccd).kindOf "fault" = some .local := by rfl) (hl2 : (envOf cn cs c.L a ccd).kindOf "spot" = some .local := by rfl) (hx : (envOf cn cs c.L a ccd).kindOf "TextFault" = some .globalImplicit := by rfl) :
    J w c (exec (.Try body [.ExceptHandler (some (.Name "TextFault" p1)) (some "fault") [.Assign [.Name "spot" p2] (.Attribute (.Name "fault" p3) "spot" p4) p5] p6] [] [] pos) (envOf cn cs c.L a ccd)) Q m l := by
  intro hp tk F N
  refine wpAny_Try_except ?_
  refine wpAny_mono (hbody (fun e s₁ => wpAny (model PR w) c.A (noteFrame e (envOf cn cs c.L a ccd)) (fun _ s₂ => wpAny (model PR w) c.A (setFlight e none) (fun _ s₃ => wpAny (model PR w) c.A (handleBy e (envOf cn cs c.L a ccd) _) (Post c Q) c.E s₃) c.E s₂) c.E s₁) ?_ ?_ hp tk F N) (fun f s' q => ?_) fun _ _ y => y
  · exact { B := G.B, X := G.X, T := G.T, hA := G.hA, hf := G.hf, hk := G.hk, hh := G.hh, hd := G.hd, hu := G.hu, hp := by rw [he]; exact PassesOwn.looking }
  · intro n hPn
    refine ⟨fun e h g tk ⟨B, d, v, t1, t2, tn, hB, hd, hd0, x⟩ F' U => ?_⟩
    have hA := G.hA
    have hf := G.hf
    rw [he] at hA hf
    have x' : Fl B (envOf cn cs c.L a ccd :: c.outer) e d .none h := he ▸ x
    refine fl_note hA hf (s := ⟨h, c.gs, c.dr, tk, c.os⟩) x' fun h1 x1 u1 => fl_set x1 fun h2 x2 u2 => ?_
    have hB' : c.h₀.StaysIn B := hb0 ▸ hB
    have F2 : Fr c.h₀ c.L h2 m := Fr.of_stays F' (x2.low hB').st ((U.trans u1).trans u2)
    have X2 := G.X.keeps F2.keep
    obtain ⟨vs2, _, _, _, he2, _⟩ := x2.tr
    refine wpAny_handleBy_cons (codeAny_handlers_test (name_K F2 G.X (topRead_of G.T) ex ?_ hk hx (by decide))) (by intro q; cases q)
    refine wpAny_excMatches_sub_self (X2 _ _ hC) he2 rfl hbm (codeAny_handlers_suite_as ?_)
    refine fl_set x2 fun h3 x3 u3 => ?_
    have F3 : Fr c.h₀ c.L h3 m := Fr.of_stays F2 (x3.low hB').st u3
    obtain ⟨vs3, _, _, _, he3, _⟩ := x3.tr
    obtain ⟨_, ⟨L', o', hf', hn', ho', hnf'⟩, _⟩ := x3.fr
    obtain rfl : c.L = L' := Option.some.inj (hf.symm.trans hf')
    have N3 : News c.h₀ c.L h3 [(e, eO d vs3), (d, bagOf w n v t1 t2 tn)] := fun p hp => by
      rcases List.mem_cons.mp hp with rfl | hp
      · exact ⟨he3, fun z => by rw [show e = c.L from z, ho'] at he3; cases he3; exact hnf' _ rfl, (x3.low hB').new⟩
      · rw [List.mem_singleton.mp hp]
        have q1 := x3.st _ _ hd
        have q2 : d ≠ c.L := fun z => by rw [z, hn'] at hd; cases hd
        have q3 : c.h₀.get? d = none := by rw [← hb0]; exact hd0
        exact ⟨q1, q2, q3⟩
    refine stN F3 N3 (fun h4 F4 N4 => ?_) hk hl1
    refine J.use (c := { c with A := c.A.mark (some (.ref e)), E := _ }) (Q := fun f m' _ => f = .next ∧ m' = up (up m "fault" (.ref e)) "spot" (.int n tn)) ?_ F4 N4 fun f m5 l5 h5 tk5 F5 N5 q => ?_
    · refine J_cons (J_asgN (J_attr (J_loc (cn := cn) (cs := cs) (a := a) (ccd := ccd) (c := { c with A := c.A.mark (some (.ref e)), E := _ }) (m := up m "fault" (.ref e)) up_same ?_ hk hl1 (by decide))) rfl)
      refine J_getX G.X (.head _) (.tail _ (.head _)) hga hgg hh ha hm ?_
      exact J_st (c := { c with A := c.A.mark (some (.ref e)), E := _ }) (J_nil ⟨rfl, rfl⟩) hk hl2
    · obtain ⟨rfl, rfl⟩ := q
      refine name_goes_here F5 (fun h6 v6 F6 => ?_) hk hl1
      exact post_intro (c := c) F6 (l' := []) (fun _ hp => nomatch hp) (hcat n _ tn hPn (by show (if _ = _ then _ else _) = _; rw [if_neg (by decide)]; exact up_same) fun y h1 h2 => by show (if _ = _ then _ else _) = _; rw [if_neg h1]; exact up_ne h2 (up_ne h1 rfl))
  · obtain ⟨m', l', h', tk', rfl, F', N', rfl, q⟩ := q
    exact wpAny_execs_nil (post_intro F' N' q)
end


section
variable {w : World} {c : Cfg} {m : Vars} {r : Led} {k : Nat} {x dx : Addr} {L : List Nat} {p e dp : Nat} {T : Nat → Tok} {Q : Value → Vars → Led → Prop}
theorem inner_end_J (G : Good w c (k + 9)) (h1 : (x, instObj 167 dx) ∈ r) (he : e ≤ L.length) (hz : L.length < 5000) {b0 : Nat} {tb : Tok} {B : List Nat} (hB : run 1 B = some 1) (hL : ∀ i, i < B.length → L[b0 + i]? = B[i]?) (hc : L[b0 + B.length]? = some 41)
    (hR : e ≤ b0 + B.length → Rz w c m (b0 : Int)) (h : b0 + B.length < e → ∀ t, Q (.int ((b0 + B.length : Nat) : Int) t) m ((dx, sD w (Sx L) p e dp T) :: r)) :
    J w c (call (.ref 143) [.ref x, .int (b0 : Int) tb]) Q m ((dx, sD w (Sx L) p e dp T) :: r) := by
  have hb0 : b0 + B.length < L.length := (List.getElem?_eq_some_iff.mp hc).1
  have hB : Binds [(Str.ofString "self", .ref x), (Str.ofString "begin", .int (b0 : Int) tb)] := trivial
  walk_at "en"
  intro c' G' C' he'
  walk_at "jj"
  refine J_forR G' he' ?_
  walk_at "jj"
  refine J_range2 fun d v hd => ?_
  refine ⟨d, _, _, _, _, _, rfl, .head _, by omega, by omega, fun i m' l' => m' "self" = some (.ref x) ∧ m' "begin" = some (.int (b0 : Int) tb) ∧ (∃ dd t, m' "depth" = some (.int ((dd : Nat) : Int) t) ∧ run dd (B.drop i) = some 1) ∧ i ≤ B.length ∧ ∀ q ∈ (dx, sD w (Sx L) p e dp T) :: r, q ∈ l', ?_, ?_, ?_⟩
  · refine ⟨by walk_at "lk", by walk_at "lk", ⟨1, _, by walk_at "lk", ?_⟩, Nat.zero_le _, fun q hq => .tail _ hq⟩
    assumption
  · rintro I i m' l' t o hi ⟨hv1, hv2, ⟨dd, td, hv3, hrun⟩, hin, hsub⟩ hI
    have hx := hsub _ (.tail _ h1)
    have hd' := hsub _ (.head _)
    have e1 : ((b0 : Int) + (i : Int)) = ((b0 + i : Nat) : Int) := by omega
    rw [e1]
    walk_at "jj"
    have hT := List.mem_cons_of_mem (I, o) hx
    have hT' := List.mem_cons_of_mem (I, o) hd'
    by_cases hlast : i = B.length
    · subst hlast
      refine J_isubL hz hc fun _ => ?_
      walk_at "jj"
      refine J_eqL (ys := [40]) (b := false) rfl rfl ?_
      walk_at "jj"
      refine J_isubL hz hc fun _ => ?_
      walk_at "jj"
      refine J_eqL (ys := [41]) (b := true) rfl rfl ?_
      walk_at "jj"
      rw [List.drop_length, run] at hrun
      obtain rfl : dd = 1 := Option.some.inj hrun
      refine J.sub (l' := (dx, sD w (Sx L) p e dp T) :: r) ?_ fun q hq => .tail _ (hsub q hq)
      walk_at "jj"
      exact h (by omega) _
    · have hil : i < B.length := by omega
      have hv := hL i hil
      rw [List.getElem?_eq_getElem hil] at hv
      rw [List.drop_eq_getElem_cons hil, run] at hrun
      refine J_isubL hz hv fun _ => ?_
      walk_at "jj"
      by_cases h40 : B[i] = 40
      · refine J_eqL (ys := [40]) (b := true) rfl (by simp [h40]) ?_
        walk_at "jj"
        rw [if_pos h40] at hrun
        exact ⟨l', fun q hq => .tail _ hq, .head _, hI, by walk_at "lk", by walk_at "lk", ⟨dd + 1, _, by walk_at "lk", hrun⟩, by omega, hsub⟩
      · refine J_eqL (ys := [40]) (b := false) rfl (by simp [h40]) ?_
        walk_at "jj"
        refine J_isubL hz hv fun _ => ?_
        walk_at "jj"
        rw [if_neg h40] at hrun
        by_cases h41 : B[i] = 41
        · refine J_eqL (ys := [41]) (b := true) rfl (by simp [h41]) ?_
          walk_at "jj"
          rw [if_pos h41] at hrun
          have hdd : ¬ dd ≤ 1 := by
            intro z
            rw [if_pos z] at hrun
            cases hrun
          rw [if_neg hdd] at hrun
          rw [show ((dd : Int) - 1) = ((dd - 1 : Nat) : Int) by omega]
          refine ite_bf (by simp; omega) ?_
          walk_at "jj"
          exact ⟨l', fun q hq => .tail _ hq, .head _, hI, by walk_at "lk", by walk_at "lk", ⟨dd - 1, _, by walk_at "lk", hrun⟩, by omega, hsub⟩
        · refine J_eqL (ys := [41]) (b := false) rfl (by simp [h41]) ?_
          walk_at "jj"
          rw [if_neg h41] at hrun
          exact ⟨l', fun q hq => .tail _ hq, .head _, hI, by walk_at "lk", by walk_at "lk", ⟨dd, _, by walk_at "lk", hrun⟩, by omega, hsub⟩
  · rintro m' l' ⟨hv1, hv2, ⟨dd, td, hv3, hrun⟩, hin, hsub⟩
    walk_at "jj"
    refine J_raise G' ((hR (by omega)).new G' C') ?_
    walk_at "jj"
    exact J_mkTFr G' (by omega)
end


section
variable {w : World} {c : Cfg} {m : Vars} {k : Nat}
theorem J_setN (G : Good w c k) {x dx : Addr} {es : List DictEntry} {es' : Tok → List DictEntry} {n n' : Nat} {name : PySem.Str} {v : Value} {r : Led} {Q : Unit → Vars → Led → Prop} (h1 : (x, instObj 167 dx) ∈ r) (hr : ∀ p ∈ r, p.1 ≠ dx)
    (ht : takerIn (Mine.KK w.params) 167 name = some none) (hl : (getL name es).isSome = true)
    (e : ∀ t, (putL name (PyData.keyHash w.params name) (.str name t) v es, putN name es n) = (es' t, n')) (hz : ∀ t, (es' t).length ≤ 1000)
    (h : ∀ t, Q () m ((dx, dictOf (es' t) n') :: r)) : J w c (setAttr (.ref x) name v) Q m ((dx, dictOf es n) :: r) := by
  intro hp tk F N
  refine' W.set_dict (C := 167) F G.X N (InstAt.of_news N (.tail _ h1) (.head _)) rfl ?a ?b ht ?c hl (e _) (upd_head hr) (hz _) fun _ F' N' => post_intro F' N' (h _)
  case a => k_is
  case b => k_is
  case c => k_is
end
section
variable {w : World} {c : Cfg} {m : Vars} {l r : Led} {k : Nat} {x dx : Addr} {L : List Nat} {p e dp : Nat} {T : Nat → Tok} {Q : Value → Vars → Led → Prop}
theorem scan_new (G : Good w c (k + 3)) {t1 t2 t3 t4 : Tok} {W : PySem.Str} (hq : ∀ x dx T, (∀ q ∈ l, q.1 < dx) → dx < x → Q (.ref x) m ((dx, sD w W p e dp T) :: (x, instObj 167 dx) :: l)) :
    J w c (call (.ref 167) [.str W t1, .int (p : Int) t2, .int (e : Int) t3, .int (dp : Int) t4]) Q m l := by
  intro hp tk F N
  have hd := G.hd
  have hu := G.hu
  refine wpAny_call (make_K (s := ⟨hp, c.gs, c.dr, tk, c.os⟩) F N (G.X.keeps F.keep) (by k_is) (fI := 101) (by k_is) (by k_is) fun x dx h' F' N' l1 l2 => ?_)
  have w1 : Code.weight (.builtin "type.__call__" ⟨.ref 167 :: [.str W t1, .int (p : Int) t2, .int (e : Int) t3, .int (dp : Int) t4], []⟩) ≤ 1 := Nat.le_of_ble_eq_true rfl
  have w2 : Code.cUnits (.builtin "type.__call__" ⟨.ref 167 :: [.str W t1, .int (p : Int) t2, .int (e : Int) t3, .int (dp : Int) t4], []⟩) ≤ 4 := Nat.le_of_ble_eq_true rfl
  refine' enterC (k := 0) (A' := c.A.under (.builtin "type.__call__" ⟨.ref 167 :: [.str W t1, .int (p : Int) t2, .int (e : Int) t3, .int (dp : Int) t4], []⟩)) (binds := [(Str.ofString "self", .ref x), (Str.ofString "text", .str W t1), (Str.ofString "spot", .int (p : Int) t2), (Str.ofString "end", .int (e : Int) t3), (Str.ofString "depth", .int (dp : Int) t4)]) G G.hA G.hh ?d ?u F' N' ?ho ?hcd ?hb ?hl ?hh ?h1 ?h2 ?h3 ?h4
  case ho => k_is
  case hcd => k_is
  case hb => exact fun s X => kp_binds X fun S => by kernel_rfl
  case hl => exact rfl
  case h1 => exact rfl
  case h2 => exact rfl
  case h3 => exact rfl
  case h4 => decide
  case d => show c.A.depth + _ + 1 < 990; omega
  case u => show c.A.units + _ + 8 < 9800; omega
  intro c' G'
  have hne : ∀ q ∈ (x, instObj 167 dx) :: l, q.1 ≠ dx := List.forall_mem_cons.mpr ⟨Nat.ne_of_gt l2, fun q hq => Nat.ne_of_lt (l1 q hq)⟩
  refine J.sub (l' := (dx, dictOf [] 0) :: (x, instObj 167 dx) :: l) ?_ sw2
  refine' J_body ?hbd ?_
  case hbd => (conv => lhs; whnf); try exact rfl
  walk_at "jj"
  refine J_setN G' (.head _) hne (by k_is) rfl (fun _ => rfl) (fun _ => Nat.le_of_ble_eq_true rfl) fun atext => ?_
  walk_at "jj"
  refine J_setN G' (.head _) hne (by k_is) rfl (fun _ => rfl) (fun _ => Nat.le_of_ble_eq_true rfl) fun aspot => ?_
  walk_at "jj"
  refine J_setN G' (.head _) hne (by k_is) rfl (fun _ => rfl) (fun _ => Nat.le_of_ble_eq_true rfl) fun aend => ?_
  walk_at "jj"
  refine J_setN G' (.head _) hne (by k_is) rfl (fun _ => rfl) (fun _ => Nat.le_of_ble_eq_true rfl) fun adepth => ?_
  walk_at "jj"
  intro h tk F N
  refine ⟨rfl, post_intro F N ?_⟩
  exact hq x dx (fun n => match n with | 0 => atext | 1 => aspot | 2 => aend | 3 => adepth | 4 => t1 | 5 => t2 | 6 => t3 | _ => t4) l1 l2
def signs : List (List Nat) := [[40], [41], [44], [59], [93], [123], [125], [60, 45, 62], [45, 62], [60, 45], [92, 47], [47, 92], [60, 61], [62, 61], [61, 61], [33, 61], [46, 46], [43, 43], [58, 58], [91, 124], [124, 93], [91], [124], [60], [62], [61], [43], [45], [42], [94], [58]]
/-- which of the signs is met first -/
theorem signs_first {ch c2 : Nat} (hch : ch ∈ [40, 41, 43]) (h2 : ch = 43 → c2 ≠ 43) : ∃ j, j < signs.length ∧ signs[j]? = some [ch] ∧ ∀ i, i < j → ∀ z, signs[i]? = some z → ∃ a r, z = a :: r ∧ (a ≠ ch ∨ ∃ b r', r = b :: r' ∧ b ≠ c2) := by
  have key : ∀ j : Nat, (∀ i : Nat, i < j → ((signs[i]?).all fun z => match z with | a :: r => (a != ch) || (match r with | b :: _ => b != c2 | [] => false) | [] => false) = true) → ∀ i, i < j → ∀ z, signs[i]? = some z → ∃ a r, z = a :: r ∧ (a ≠ ch ∨ ∃ b r', r = b :: r' ∧ b ≠ c2) := by
    intro j h i hi z hz
    have := h i hi
    rw [hz] at this
    match z, this with
    | a :: r, this =>
      simp at this
      rcases this with q | q
      · exact ⟨a, r, rfl, .inl q⟩
      · match r, q with
        | b :: r', q => exact ⟨a, b :: r', rfl, .inr ⟨b, r', rfl, by simpa using q⟩⟩
  simp at hch
  rcases hch with rfl | rfl | rfl
  · exact ⟨0, by decide, rfl, fun i hi => absurd hi (Nat.not_lt_zero _)⟩
  · refine ⟨1, by decide, rfl, key 1 fun i hi => ?_⟩
    match i, hi with
    | 0, _ => rfl
  · refine ⟨26, by decide, rfl, key 26 fun i hi => ?_⟩
    have h2' : (43 != c2) = true := by simpa using Ne.symm (h2 rfl)
    have : ∀ i, i < 26 → i ≠ 17 → ((signs[i]?).all fun z => match z with | a :: r => (a != 43) | [] => false) = true := by decide
    by_cases h17 : i = 17
    · subst h17
      simpa [signs] using Ne.symm (h2 rfl)
    · have := this i hi h17
      revert this
      cases signs[i]? with
      | none => simp
      | some z =>
        cases z with
        | nil => simp
        | cons a r => simp; intro q; exact .inl q
theorem mark_J (G : Good w c (k + 2)) (h1 : (x, instObj 167 dx) ∈ r) (hr : ∀ q ∈ r, q.1 ≠ dx) (he : e + 1 ≤ L.length) (hz : L.length < 5000) {ch c2 : Nat} (hch : ch ∈ [40, 41, 43]) (hp : p < e) (c0 : L[p]? = some ch) (c1 : L[p + 1]? = some c2) (h2 : ch = 43 → c2 ≠ 43)
    (h : ∀ a o T', (∀ q ∈ r, q.1 < a) → dx < a → DatIn [(a, o)] (.ref a) (tk3 "sign" (.str (Sx [ch])) p) → Q (.ref a) m ((a, o) :: (dx, sD w (Sx L) (p + 1) e dp T') :: r)) : J w c (call (.ref 157) [.ref x]) Q m ((dx, sD w (Sx L) p e dp T) :: r) := by
  have hB : Binds [(Str.ofString "self", .ref x)] := trivial
  obtain ⟨j, hj, hjv, hlt⟩ := signs_first hch h2
  walk_at "en"
  intro c' G' C' he'
  refine J_cons (J_forT G' he' ?_)
  walk_at "jj"
  refine ⟨_, _, _, _, _, rfl, by k_is, fun i m' l' => m' "self" = some (.ref x) ∧ i ≤ j ∧ l' = (dx, sD w (Sx L) p e dp T) :: r, ⟨by walk_at "lk", Nat.zero_le _, rfl⟩, ?_, ?_⟩
  · rintro I i m' l' v o hi hv ⟨hv1, hij, rfl⟩ hI
    obtain ⟨y, ty, rfl, hy⟩ := strs_at' (zs := signs) rfl rfl (by simpa using hv)
    have hx : (x, instObj 167 dx) ∈ (I, o) :: (dx, sD w (Sx L) p e dp T) :: r := .tail _ (.tail _ h1)
    have hL : L.drop p = ch :: c2 :: L.drop (p + 2) := by
      rw [List.drop_eq_getElem_cons (by omega), List.drop_eq_getElem_cons (by omega)]
      rw [List.getElem?_eq_getElem (by omega)] at c0 c1
      rw [Option.some.inj c0, Option.some.inj c1]
    walk_at "jj"
    by_cases hlast : i = j
    · subst hlast
      have hyc : y.cps.toList = [ch] := Option.some.inj (hy.symm.trans hjv)
      refine J_starts (b := true) (by omega) hyc (by rw [hL]; simp; omega) ?_
      walk_at "jj"
      refine J.sub (l' := (dx, sD w (Sx L) p e dp T) :: r) ?_ fun q hq => .tail _ hq
      obtain rfl := eq_Sx hyc
      walk_at "jj"
      refine J_lenS (by rw [Sx_len]; show 1 < 2 ^ 40; decide) fun _ => ?_
      walk_at "jj"
      refine J_sSpot (p' := p + 1) G' h1 hr (by rw [Sx_len]; rfl) fun T2 => ?_
      walk_at "jj"
      refine J_eqL (ys := [61, 61]) (b := false) rfl (by simp) ?_
      walk_at "jj"
      refine J_lenS (by rw [Sx_len]; show 1 < 2 ^ 40; decide) fun _ => ?_
      walk_at "jj"
      refine J_newT (fun a ha => ?_) (Nat.le_of_ble_eq_true rfl)
      refine h a _ T2 (fun q hq => ha q (.tail _ hq)) (ha _ (.head _)) (tup3 (.head _) (.str _ _) ?_)
      rw [Sx_len]; simp
    · obtain ⟨a, rr, hz, hne⟩ := hlt i (by omega) _ hy
      refine J_starts (b := false) (by omega) hz ?_ ?_
      · rw [hL, Bool.and_eq_false_iff]
        refine .inr ?_
        rw [beq_eq_false_iff_ne]
        intro q
        rw [List.length_cons, List.take_succ_cons] at q
        obtain ⟨q1, q2⟩ := List.cons.inj q
        rcases hne with hne | ⟨b, r', rfl, hne⟩
        · exact hne q1.symm
        · rw [List.length_cons, List.take_succ_cons] at q2
          exact hne (List.cons.inj q2).1.symm
      walk_at "jj"
      exact ⟨_, fun q hq => .tail _ hq, .head _, hI, by walk_at "lk", by omega, rfl⟩
  · rintro m' l' ⟨hv1, hij, rfl⟩
    exfalso
    have : signs.length = 31 := rfl
    simp at hij
    omega
end


/-- what string must do of the strings nested no deeper -/
def StrC (w : World) (n kk : Nat) : Prop := ∀ {c : Cfg} {m : Vars} {r : Led} {k : Nat} {x dx : Addr} {L : List Nat} {p e dp : Nat} {T : Nat → Tok} {Q : Value → Vars → Led → Prop} {top : Bool} {ps : Ps} (_ : Good w c (k + kk)) (_ : (x, instObj 167 dx) ∈ r) (_ : ∀ q ∈ r, q.1 ≠ dx)
    (_ : e ≤ L.length) (_ : L.length < 5000) (_ : nest ps ≤ n) (_ : wf top ps) (_ : At L p (34 :: rend ps ++ [34])) (_ : p < e) (_ : ∀ f, scan ps (p + 1) p dp e = some f → Rz w c m (f : Int))
    (_ : scan ps (p + 1) p dp e = none → ∀ a nf T', (∀ q ∈ nf, dx < q.1 ∧ ∀ q' ∈ r, q'.1 < q.1) → DatIn nf (.ref a) (strTok ps p) → Q (.ref a) m (nf ++ (dx, sD w (Sx L) (p + plen ps + 2) e dp T') :: r)),
    J w c (call (.ref 150) [.ref x]) Q m ((dx, sD w (Sx L) p e dp T) :: r)
section
variable {w : World} {c : Cfg} {m : Vars} {r : Led} {k n kk : Nat} {x dx : Addr} {L : List Nat} {p e dp : Nat} {T : Nat → Tok} {Q : Value → Vars → Led → Prop} {i : Nat} {q : Ps}
theorem fig_no {v : Nat} (h : v ∈ [120, 121, 97, 40, 41, 43, 34]) : decide (v ∈ [48, 49, 50, 51, 52, 53, 54, 55, 56, 57]) = false := by
  simp at h
  rcases h with rfl | rfl | rfl | rfl | rfl | rfl | rfl <;> decide
abbrev letters : List Nat := List.range' 97 26 ++ List.range' 65 26
theorem datAll_snoc {l : Led} : ∀ {vs : List Value} {ds : List Dat} {v : Value} {d : Dat}, DatAll l vs ds → DatIn l v d → DatAll l (vs ++ [v]) (ds ++ [d])
  | [], _, _, _, .nil, h => .cons h .nil
  | _ :: _, _, _, _, .cons a r, h => .cons a (datAll_snoc r h)
theorem its_mem {it : It} {i : Nat} {q : Ps} (h : it ∈ itsOf i q) : (i < 3 ∧ ∀ q', it ≠ .st q') ∨ (3 ≤ i ∧ it = .st q) := by
  match i, h with
  | 0, h | 1, h | 2, h => exact .inl ⟨by decide, fun q' e => by subst e; simp [itsOf] at h⟩
  | n + 3, h => exact .inr ⟨by omega, by simpa [itsOf] using h⟩
/-- what was told is put behind the found -/
theorem app_J {c : Cfg} {fa : Addr} {vs : List Value} {nn : Nat} {d : Addr × Obj} {A R : Led} {v : Value} (hA : ∀ q ∈ A, fa < q.1) (hd : d.1 ≠ fa) (hR : ∀ q ∈ R, q.1 ≠ fa) (hz : vs.length ≤ 1000) (h : Q .none m ((fa, W.listOf (List.toArray (vs ++ [v])) (nn + 1)) :: d :: (A ++ R))) :
    J w c (call (.builtin "list.append") [.ref fa, v]) Q m (A ++ d :: (fa, W.listOf (List.toArray vs) nn) :: R) := by
  refine J.sub (l' := (fa, W.listOf (List.toArray vs) nn) :: (d :: (A ++ R))) ?_ fun q hq => ?_
  · refine J_append (List.forall_mem_cons.mpr ⟨hd, fun q hq => (List.mem_append.mp hq).elim (fun z => Nat.ne_of_gt (hA q z)) (hR q)⟩) (by simp; omega) ?_
    rw [List.push_toArray]
    exact h
  · rcases List.mem_cons.mp hq with rfl | hq
    · exact List.mem_append_right _ (.tail _ (.head _))
    · refine mid' q ?_
      exact sub_cons (fun q hq => mid' q (.tail _ hq)) q hq
set_option maxHeartbeats 4000000 in
theorem tokens_J (SC : 3 ≤ i → StrC w n kk ∧ nest q ≤ n) (hkk : 10 ≤ kk) (G : Good w c (k + kk + 1)) (h1 : (x, instObj 167 dx) ∈ r) (hr : ∀ q ∈ r, q.1 ≠ dx) (he2 : e + 2 ≤ L.length) (hz : L.length < 5000) (hat : At L p (bodyOf i (rend q))) (he : e = p + bl i q) (hc : L[e]? = some 41) (hw : 3 ≤ i → wf false q)
    (hR : ∀ f, (if i < 3 then none else scan q (p + 2) (p + 1) dp e) = some f → Rz w c m (f : Int))
    (h : (if i < 3 then none else scan q (p + 2) (p + 1) dp e) = none → ∀ a nf T', (∀ q ∈ nf, dx < q.1 ∧ ∀ q' ∈ r, q'.1 < q.1) → DatIn nf (.ref a) (.list (inToks i (pcs q [] (p + 2)) p ++ [tk3 "end" (.str (Sx [])) e])) → Q (.ref a) m (nf ++ (dx, sD w (Sx L) e e dp T') :: r)) :
    J w c (call (.ref 164) [.ref x]) Q m ((dx, sD w (Sx L) p e dp T) :: r) := by
  have hB : Binds [(Str.ofString "self", .ref x)] := trivial
  obtain ⟨kk', rfl⟩ : ∃ kk', kk = kk' + 3 := ⟨kk - 3, by omega⟩
  obtain ⟨b1, b2, b3, b4⟩ := its_body hat he hc hw
  walk_at "en"
  intro c' G' C' he'
  walk_at "jj"
  refine J_newL (fun fa hfa => ?_) (Nat.le_of_ble_eq_true rfl)
  walk_at "jj"
  have hdf : dx < fa := hfa _ (.head _)
  have hrf : ∀ q ∈ r, q.1 < fa := fun q hq => hfa q (.tail _ hq)
  refine J.sub (l' := (dx, sD w (Sx L) p e dp T) :: (fa, W.listOf (List.toArray []) 0) :: r) ?_ sw2
  refine skip_J G' (.tail _ h1) (List.forall_mem_cons.mpr ⟨Nat.ne_of_gt hdf, hr⟩) he2 hz (lead i) b1 b2 fun T1 => ?_
  walk_at "jj"
  refine J_while G' he' (fun j m' l' => ∃ its p' vs nn nf T' done, its.length = j ∧ Its L e its p' ∧ m' = up (fun y => List.lookup y [(Str.ofString "self", Value.ref x)].reverse) (Str.ofString "found") (.ref fa) ∧ l' = (dx, sD w (Sx L) p' e dp T') :: (fa, W.listOf (List.toArray vs) nn) :: (nf ++ r) ∧
    (∀ q ∈ nf, fa < q.1) ∧ DatAll nf vs done ∧ done ++ Its.dats its p' = Its.dats (itsOf i q) (p + lead i) ∧ vs.length + its.length ≤ 10 ∧ (∀ it ∈ its, it ∈ itsOf i q) ∧ ((its = itsOf i q ∧ p' = p + lead i) ∨ (its.length < (itsOf i q).length ∧ (if i < 3 then none else scan q (p + 2) (p + 1) dp e) = none))) _ ⟨itsOf i q, p + lead i, [], 0, [], T1, [], rfl, b3, rfl, rfl, (fun _ hq => nomatch hq), .nil, rfl, ?_, fun _ h => h, .inl ⟨rfl, rfl⟩⟩ ?_
  · match i with
    | 0 | 1 | 2 | n + 3 => exact Nat.le_of_ble_eq_true rfl
  rintro j m' l' ⟨its, p', vs, nn, nf, T', done, rfl, hI, rfl, rfl, hf, hd, hdd, hl, hin, hsc⟩
  have hx : (x, instObj 167 dx) ∈ (fa, W.listOf (List.toArray vs) nn) :: (nf ++ r) := .tail _ (List.mem_append_right _ h1)
  have hne : ∀ q ∈ (fa, W.listOf (List.toArray vs) nn) :: (nf ++ r), q.1 ≠ dx := List.forall_mem_cons.mpr ⟨Nat.ne_of_gt hdf, fun q hq => (List.mem_append.mp hq).elim (fun z => Nat.ne_of_gt (Nat.lt_trans hdf (hf q z))) (hr q)⟩
  have hne' : ∀ q ∈ nf ++ r, q.1 ≠ dx := fun q hq => hne q (.tail _ hq)
  have hnR : ∀ q ∈ nf ++ r, q.1 ≠ fa := fun q hq => (List.mem_append.mp hq).elim (fun z => Nat.ne_of_gt (hf q z)) fun z => Nat.ne_of_lt (hrf q z)
  walk_at "jj"
  refine sign_J G' hx (by omega) hz fun _ => ?_
  walk_at "jj"
  cases its with
  | nil =>
    obtain rfl : p' = e := hI
    rw [sgn_end (Nat.le_refl _)]
    refine J_neL (ys := []) (b := false) rfl rfl ?_
    walk_at "jj"
    refine J_newT (fun a ha => ?_) (Nat.le_of_ble_eq_true rfl)
    walk_at "jj"
    have hfa1 : fa < a := ha _ (.tail _ (.head _))
    refine app_J (A := [(a, _)]) (fun q hq => by rw [List.mem_singleton.mp hq]; exact hfa1) (Nat.ne_of_lt hdf) hnR (by omega) ?_
    refine J.sub (l' := ((fa, _) :: (a, _) :: nf) ++ (dx, sD w (Sx L) p' p' dp T') :: r) ?_ (sub_cons fun q hq => sw2 q (sub_cons (mid (A := nf)) q hq))
    walk_at "jj"
    refine h ?_ fa _ T' (List.forall_mem_cons.mpr ⟨⟨hdf, hrf⟩, List.forall_mem_cons.mpr ⟨⟨Nat.lt_trans hdf hfa1, fun q hq => Nat.lt_trans (hrf q hq) hfa1⟩, fun q hq => ⟨Nat.lt_trans hdf (hf q hq), fun q' hq' => Nat.lt_trans (hrf q' hq') (hf q hq)⟩⟩⟩) ?_
    · rcases hsc with ⟨z, _⟩ | ⟨_, z⟩
      · match i, z with
        | 0, z | 1, z | 2, z | n + 3, z => exact absurd z (by simp [itsOf])
      · exact z
    · refine .list (.head _) ?_
      rw [← b4, ← hdd, Its.dats, List.append_nil]
      exact datAll_snoc (hd.mono fun q hq => .tail _ (.tail _ hq)) (tup3 (.tail _ (.head _)) (.str _ _) rfl)
  | cons it its =>
    obtain ⟨hle, hpe, hok, hgap, hstop, hrest⟩ := hI
    obtain ⟨v, hv⟩ : ∃ v, L[p']? = some v := ⟨_, List.getElem?_eq_getElem (by omega)⟩
    rw [sgn_at hpe hv]
    refine J_neL (ys := []) (b := true) rfl rfl (J_tb (ite_t (J_cons ?_)))
    refine J.mono (Q := fun f m' l' => f = Flow.next ∧ m' = up (fun y => List.lookup y [(Str.ofString "self", Value.ref x)].reverse) (Str.ofString "found") (.ref fa) ∧ (if i < 3 then none else scan q (p + 2) (p + 1) dp e) = none ∧
      ∃ v nf2 T2, l' = (fa, W.listOf (List.toArray (vs ++ [v])) (nn + 1)) :: (dx, sD w (Sx L) (p' + it.len) e dp T2) :: (nf2 ++ (nf ++ r)) ∧ (∀ q ∈ nf2, fa < q.1) ∧ DatIn nf2 v (it.dat p')) ?_ ?_
    · walk_at "jj"
      refine sign_J G' hx (by omega) hz fun _ => ?_
      rw [sgn_at hpe hv]
      walk_at "jj"
      have h1f : ∀ {a : Addr} {o : Obj}, fa < a → ∀ q ∈ [(a, o)], fa < q.1 := fun hlt q hq => by rw [List.mem_singleton.mp hq]; exact hlt
      have hns : (∀ q', it ≠ .st q') → (if i < 3 then none else scan q (p + 2) (p + 1) dp e) = none := fun hne => by
        rcases its_mem (hin it (.head _)) with ⟨z, _⟩ | ⟨_, z⟩
        · exact if_pos z
        · exact absurd z (hne q)
      cases it with
      | nu =>
        obtain ⟨ha, hlt⟩ := hok
        obtain rfl : v = 49 := Option.some.inj (hv.symm.trans ha.head)
        refine J_in1 (b := true) rfl (by decide) ?_
        walk_at "jj"
        refine number_J G' hx hne (by omega) hz hlt ha.head ha.tail.head ha.tail.tail.head fun a o T2 z1 z2 z3 => ?_
        walk_at "jj"
        refine app_J (A := [(a, o)]) (h1f (z1 _ (.head _))) (Nat.ne_of_lt hdf) hnR (by omega) ?_
        walk_at "jj"
        exact ⟨rfl, rfl, hns (fun _ => nofun), .ref a, [(a, o)], T2, rfl, h1f (z1 _ (.head _)), z3⟩
      | wd nm =>
        obtain ⟨hnm, ha, hs⟩ := hok
        have hv3 : v ∈ [120, 121, 97] := by
          simp at hnm
          rcases hnm with rfl | rfl | rfl <;> (rw [ha.head] at hv; cases hv; decide)
        refine J_in1 (b := false) rfl (fig_no (by simp at hv3 ⊢; omega)) ?_
        walk_at "jj"
        refine sign_J G' hx (by omega) hz fun _ => ?_
        rw [sgn_at hpe hv]
        walk_at "jj"
        refine J_in1 (ys := letters) (b := true) (by decide +kernel) (by simp at hv3; rcases hv3 with rfl | rfl | rfl <;> decide) ?_
        walk_at "jj"
        refine word_J G' hx hne (by omega) hz nm hnm hle ha.take hs fun a o T2 z1 z2 z3 => ?_
        walk_at "jj"
        refine app_J (A := [(a, o)]) (h1f (z1 _ (.head _))) (Nat.ne_of_lt hdf) hnR (by omega) ?_
        walk_at "jj"
        exact ⟨rfl, rfl, hns (fun _ => nofun), .ref a, [(a, o)], T2, rfl, h1f (z1 _ (.head _)), z3⟩
      | mk ch c2 =>
        obtain ⟨hch, c0, c1, h2⟩ := hok
        obtain rfl : v = ch := Option.some.inj (hv.symm.trans c0)
        refine J_in1 (b := false) rfl (fig_no (by simp at hch ⊢; omega)) ?_
        walk_at "jj"
        refine sign_J G' hx (by omega) hz fun _ => ?_
        rw [sgn_at hpe hv]
        walk_at "jj"
        refine J_in1 (ys := letters) (b := false) (by decide +kernel) (by simp at hch; rcases hch with rfl | rfl | rfl <;> decide) ?_
        walk_at "jj"
        refine sign_J G' hx (by omega) hz fun _ => ?_
        rw [sgn_at hpe hv]
        walk_at "jj"
        refine J_eqL (ys := [34]) (b := false) rfl (by simp at hch ⊢; omega) ?_
        walk_at "jj"
        refine mark_J G' hx hne (by omega) hz hch hpe c0 c1 h2 fun a o T2 z1 z2 z3 => ?_
        walk_at "jj"
        refine app_J (A := [(a, o)]) (h1f (z1 _ (.head _))) (Nat.ne_of_lt hdf) hnR (by omega) ?_
        walk_at "jj"
        exact ⟨rfl, rfl, hns (fun _ => nofun), .ref a, [(a, o)], T2, rfl, h1f (z1 _ (.head _)), z3⟩
      | st q' =>
        obtain ⟨ha, hwf⟩ := hok
        rcases its_mem (hin _ (.head _)) with ⟨_, z⟩ | ⟨hi3, z⟩
        · exact absurd rfl (z q')
        cases z
        have hp' : p' = p + 1 := by
          rcases hsc with ⟨_, z⟩ | ⟨z, _⟩
          · rw [z, lead, if_neg (by omega)]
          · exfalso
            match i, hi3, z with
            | n + 3, _, z => simp [itsOf] at z
        subst hp'
        rw [if_neg (by omega)] at hR
        have ha' : At L (p + 1) (34 :: (rend q ++ [34])) := ha
        obtain rfl : v = 34 := Option.some.inj (hv.symm.trans ha'.head)
        refine J_in1 (b := false) rfl (fig_no (by decide)) ?_
        walk_at "jj"
        refine sign_J G' hx (by omega) hz fun _ => ?_
        rw [sgn_at hpe hv]
        walk_at "jj"
        refine J_in1 (ys := letters) (b := false) (by decide +kernel) (by decide) ?_
        walk_at "jj"
        refine sign_J G' hx (by omega) hz fun _ => ?_
        rw [sgn_at hpe hv]
        walk_at "jj"
        refine J_eqL (ys := [34]) (b := true) rfl rfl ?_
        walk_at "jj"
        refine (SC hi3).1 G' hx hne (Nat.le_trans (Nat.le_add_right _ 2) he2) hz (SC hi3).2 hwf ha hpe (fun f hf => (hR f hf).of G' C') fun hsn a nf2 T2 z1 z2 => ?_
        walk_at "jj"
        refine app_J (A := nf2) (fun q hq => (z1 q hq).2 _ (.head _)) (Nat.ne_of_lt hdf) hnR (by omega) ?_
        walk_at "jj"
        exact ⟨rfl, rfl, by rw [if_neg (by omega)]; exact hsn, .ref a, nf2, T2, rfl, fun q hq => (z1 q hq).2 _ (.head _), z2⟩
    · rintro f m' l' ⟨rfl, rfl, hsn, v2, nf2, T2, rfl, hf2, hd2⟩
      have hx2 : (x, instObj 167 dx) ∈ (fa, W.listOf (List.toArray (vs ++ [v2])) (nn + 1)) :: (nf2 ++ (nf ++ r)) := .tail _ (List.mem_append_right _ (List.mem_append_right _ h1))
      refine J.sub (l' := (dx, sD w (Sx L) (p' + it.len) e dp T2) :: (fa, W.listOf (List.toArray (vs ++ [v2])) (nn + 1)) :: (nf2 ++ (nf ++ r))) ?_ sw2
      walk_at "jj"
      refine skip_J G' hx2 (List.forall_mem_cons.mpr ⟨Nat.ne_of_gt hdf, fun q hq => (List.mem_append.mp hq).elim (fun z => Nat.ne_of_gt (Nat.lt_trans hdf (hf2 q z))) (hne' q)⟩) he2 hz it.gap hgap hstop fun T3 => ?_
      walk_at "jj"
      refine ⟨its.length, _, Nat.lt_succ_self _, fun _ h => h, its, p' + it.len + it.gap, vs ++ [v2], nn + 1, nf2 ++ nf, T3, done ++ [it.dat p'], rfl, hrest, rfl, ?_, fun q hq => (List.mem_append.mp hq).elim (hf2 q) (hf q), datAll_snoc (hd.mono fun q hq => List.mem_append_right _ hq) (hd2.mono fun q hq => List.mem_append_left _ hq), ?_, ?_, fun z hz => hin z (.tail _ hz), .inr ⟨?_, hsn⟩⟩
      · rw [List.append_assoc]
      · rw [← hdd, Its.dats, List.append_assoc]; rfl
      · simp only [List.length_append, List.length_cons, List.length_nil] at hl ⊢; omega
      · rcases hsc with ⟨z, _⟩ | ⟨z, _⟩
        · rw [← z]; exact Nat.lt_succ_self _
        · exact Nat.lt_of_succ_lt z
end


section
variable {w : World} {c : Cfg} {m : Vars} {l : Led} {k : Nat} {Q : Value → Vars → Led → Prop}
theorem J_aA {o : Expr} {attr : PySem.Str} {pos : Pos} {env : Env} {v : Value} {Q : Unit → Vars → Led → Prop} (h : J w c (eval o env) (fun ov m l => J w c (setAttr ov attr v) Q m l) m l) : J w c (assign (.Attribute o attr pos) env v) Q m l := by
  intro hp tk F N
  rw [arm_assign_Attribute]
  exact wpAny_bind (wpAny_holding (h.use F N fun _ _ _ _ _ F' N' q => wpAny_bind (wpAny_standAt (wpAny_bind (wpAny_holding (q.use F' N' fun _ _ _ _ _ F' N' q => wpAny_release (post_intro F' N' q)))))))
theorem esc_some (w : World) : ∀ k, k < 4 → ∃ t, nsIn (Mine.KK w.params) 86 (Sx [esc k]) = some (some (.str (Sx (wor k)) t))
  | 0, _ => ⟨_, by show nsIn (Mine.KK w.params) 86 (Str.ofString "n") = some (some (.str (Str.ofString "\n") _)); k_is⟩
  | 1, _ => ⟨_, by show nsIn (Mine.KK w.params) 86 (Str.ofString "t") = some (some (.str (Str.ofString "\t") _)); k_is⟩
  | 2, _ => ⟨_, by show nsIn (Mine.KK w.params) 86 (Str.ofString "\"") = some (some (.str (Str.ofString "\"") _)); k_is⟩
  | 3, _ => ⟨_, by show nsIn (Mine.KK w.params) 86 (Str.ofString "\\") = some (some (.str (Str.ofString "\\") _)); k_is⟩
theorem esc_q (w : World) : nsIn (Mine.KK w.params) 86 (Sx [113]) = some none := by
  show nsIn (Mine.KK w.params) 86 (Str.ofString "q") = _
  k_is
theorem esc_e (w : World) : nsIn (Mine.KK w.params) 86 (Sx []) = some none := by
  show nsIn (Mine.KK w.params) 86 (Str.ofString "") = _
  k_is
theorem J_escIn (G : Good w c k) {v : List Nat} {t : Tok} {r : Option Value} {b : Bool} (e : nsIn (Mine.KK w.params) 86 (Sx v) = some r) (eb : r.isSome = b) (h : Q (.bool b) m l) : J w c (compareOp .In (.str (Sx v) t) (.ref 86)) Q m l := by
  subst eb
  intro hp tk F N
  refine' topIn_K F G.X ?a ?b e rfl (post_intro F N h)
  case a => k_is
  case b => k_keys
theorem J_escGet (G : Good w c k) {value slice : Expr} {v : List Nat} {t : Tok} {vv : Value} (e : nsIn (Mine.KK w.params) 86 (Sx v) = some (some vv)) (h : Q vv m l)
    (hs : subscripted slice false (.ref 86) (.str (Sx v) t) = operate [.ref 86, .str (Sx v) t] (getItem (.ref 86) (.str (Sx v) t)) := by with_unfolding_all rfl) : J w c (subscriptTail value slice (.ref 86) (.str (Sx v) t)) Q m l := by
  intro hp tk F N
  refine' topItem_K F G.X ?a ?b e (post_intro F N h) hs
  case a => k_is
  case b => k_keys
/-- a list of texts that join to one -/
def FS (vs : List Value) (acc : List Nat) : Prop := ∃ zs : List (List Nat), strsOf vs = some (zs.map Sx) ∧ zs.flatten = acc
theorem join_Sx0 : ∀ zs : List (List Nat), Str.join (Sx []) (zs.map Sx) = Sx zs.flatten
  | [] => rfl
  | [z] => by
    show Sx z = _
    simp
  | z :: y :: r => by
    have ih := join_Sx0 (y :: r)
    show Sx z ++ Sx [] ++ Str.join (Sx []) ((y :: r).map Sx) = _
    rw [ih, Sx_app, Sx_app]
    simp
theorem join_Sx (zs : List (List Nat)) : Txt.join (Str.ofString "") (zs.map Sx) = Sx zs.flatten := (PySem.StrLaws.glued_eq_join _ _).trans (join_Sx0 zs)
theorem FS.nil : FS [] [] := ⟨[], rfl, rfl⟩
theorem strsOf_snoc : ∀ {vs : List Value} {ys : List PySem.Str} {y : PySem.Str} {t : Tok}, strsOf vs = some ys → strsOf (vs ++ [.str y t]) = some (ys ++ [y])
  | [], _, _, _, h => by cases h; rfl
  | .str y' t' :: r, ys, y, t, h => by
    obtain ⟨zs, h1, rfl⟩ := Option.map_eq_some_iff.mp h
    show (strsOf (r ++ [.str y t])).map _ = _
    rw [strsOf_snoc h1]; rfl
theorem FS.snoc {vs : List Value} {acc a : List Nat} {t : Tok} (h : FS vs acc) : FS (vs ++ [.str (Sx a) t]) (acc ++ a) := by
  obtain ⟨zs, h1, rfl⟩ := h
  exact ⟨zs ++ [a], by rw [strsOf_snoc h1, List.map_append]; rfl, by simp⟩
end

section
variable {w : World} {c : Cfg} {m : Vars} {r : Led} {k n kk : Nat} {x dx : Addr} {L : List Nat} {p e dp : Nat} {T : Nat → Tok} {Q : Value → Vars → Led → Prop}
def psz : Ps → Nat
  | .nil => 0
  | .sg _ r => psz r + 1
  | .es _ r => psz r + 1
  | .inn _ _ r => psz r + 1
/-- the loop of string stands before what is left of the parts -/
structure SInv (w : World) (L : List Nat) (p e dp : Nat) (x dx pa : Addr) (r : Led) (top : Bool) (n : Nat) (ps : Ps) (j : Nat) (m' : Vars) (qs : Ps) (p' : Nat) (fa : Addr) (acc : List Nat) (fvs pvs : List Value) (nf : Led) : Prop where
  sz : psz qs = j
  at_ : At L p' (rend qs ++ [34])
  wf_ : wf top qs
  ns : nest qs ≤ n
  pos : p' + plen qs = p + 1 + plen ps
  sc : scan ps (p + 1) p dp e = scan qs p' p dp e
  v1 : m' "self" = some (.ref x)
  v2 : ∃ t, m' "begin" = some (.int (p : Int) t)
  v3 : m' "pieces" = some (.ref pa)
  v4 : m' "found" = some (.ref fa)
  fs : FS fvs acc
  fl : fvs.length + psz qs ≤ psz ps
  ab : acc.length + plen qs ≤ plen ps
  pb : pvs.length + 2 * psz qs ≤ 2 * psz ps
  pd : ∃ ds, DatAll nf pvs ds ∧ ds ++ pcs qs acc p' = pcs ps [] (p + 1)
  fr : ∀ q ∈ nf, pa < q.1 ∧ q.1 ≠ fa
  fp : pa < fa
theorem psz_le : ∀ ps : Ps, psz ps ≤ plen ps
  | .nil => Nat.le_refl _
  | .sg _ r => by have := psz_le r; simp [psz, plen, rend] at this ⊢; omega
  | .es _ r => by have := psz_le r; simp [psz, plen, rend] at this ⊢; omega
  | .inn i q r => by have := psz_le r; rw [plen_inn]; simp only [psz]; omega
theorem sum_Sx : ∀ zs : List (List Nat), ((zs.map Sx).map (·.length)).sum = zs.flatten.length
  | [] => rfl
  | z :: r => by simp [sum_Sx r, Sx_len]; simpa using sum_Sx r
theorem scan_end {qs : Ps} {b : Nat} (h : e ≤ p) : scan qs p b dp e = some b := by
  cases qs with
  | nil => rw [scan, if_neg (by omega)]
  | sg ch r => rw [scan, if_pos (.inl h)]
  | es k r => rw [scan, if_pos h]
  | inn i q r => rw [scan, if_pos h]
end


section
variable {w : World}
set_option maxHeartbeats 4000000 in
theorem string_step (n : Nat) (IH : ∀ n', n' < n → StrC w n' (20 + 2 * n')) : StrC w n (20 + 2 * n) := by
  intro c m r k x dx L p e dp T Q top ps G h1 hr he hz hn hw hat hp hR h
  have hB : Binds [(Str.ofString "self", .ref x)] := trivial
  have G : Good w c (k + 2 * n + 19 + 1) := by rwa [show k + 2 * n + 19 + 1 = k + (20 + 2 * n) by omega]
  have hpL : plen ps ≤ 5000 := by
    have := (At.app (a := [34]) hat).2.app.1.length_le
    rw [List.length_drop] at this
    show (rend ps).length ≤ 5000
    omega
  have hpsz := psz_le ps
  walk_at "en"
  intro c' G' C' he'
  walk_at "jj"
  refine J_newL (fun pa hpa => ?_) (Nat.le_of_ble_eq_true rfl)
  walk_at "jj"
  refine J_newL (fun fa hfa => ?_) (Nat.le_of_ble_eq_true rfl)
  walk_at "jj"
  show J w c' (newTuple _) _ _ _
  refine J_newT (fun ta hta => ?_) (Nat.le_of_ble_eq_true rfl)
  refine J_unpI G' (.head _) rfl ?_
  refine J_aio ?_
  walk_at "jj"
  refine J_aio ?_
  walk_at "jj"
  refine J_aio ?_
  walk_at "jj"
  refine J_aio0 ?_
  have hdp : dx < pa := hpa _ (.head _)
  have hpf : pa < fa := hfa _ (.head _)
  have hrp : ∀ q ∈ r, q.1 < pa := fun q hq => hpa q (.tail _ hq)
  refine J.sub (l' := (dx, sD w (Sx L) p e dp T) :: (fa, W.listOf (List.toArray []) 0) :: (pa, W.listOf (List.toArray []) 0) :: ([] ++ r)) ?_ ?_
  rotate_left
  · intro q hq
    exact .tail _ (sw3 q hq)
  have hx1 : (x, instObj 167 dx) ∈ (fa, W.listOf (List.toArray []) 0) :: (pa, W.listOf (List.toArray []) 0) :: ([] ++ r) := .tail _ (.tail _ h1)
  walk_at "jj"
  refine J_sSpot (p' := p + 1) G' ?_ ?_ ?_ fun T1 => ?_
  · exact .tail _ (.tail _ h1)
  · exact List.forall_mem_cons.mpr ⟨Nat.ne_of_gt (Nat.lt_trans hdp hpf), List.forall_mem_cons.mpr ⟨Nat.ne_of_gt hdp, hr⟩⟩
  · omega
  walk_at "jj"
  refine J_while G' he' (fun j m' l' => ∃ qs p' fa acc fvs pvs nn nn2 nf T', SInv w L p e dp x dx pa r top n ps j m' qs p' fa acc fvs pvs nf ∧ l' = (dx, sD w (Sx L) p' e dp T') :: (fa, W.listOf (List.toArray fvs) nn) :: (pa, W.listOf (List.toArray pvs) nn2) :: (nf ++ r)) (psz ps)
    ⟨ps, p + 1, fa, [], [], [], 0, 0, [], T1, ⟨rfl, At.tail hat, hw, hn, rfl, rfl, by walk_at "lk", ⟨_, by walk_at "lk"⟩, by walk_at "lk", by walk_at "lk", .nil, by simp, by simp, by simp, ⟨[], .nil, rfl⟩, (fun _ hq => nomatch hq), hpf⟩, rfl⟩ ?_
  rintro j m' l' ⟨qs, p', fa, acc, fvs, pvs, nn, nn2, nf, T', ⟨sz, at_, wf_, ns, hpos, sc, v1, ⟨tb, v2⟩, v3, v4, fs, fl, ab, pb, pd, fr, fp⟩, rfl⟩
  have hx2 : (x, instObj 167 dx) ∈ (fa, W.listOf (List.toArray fvs) nn) :: (pa, W.listOf (List.toArray pvs) nn2) :: (nf ++ r) := .tail _ (.tail _ (List.mem_append_right _ h1))
  walk_at "jj"
  refine sign_J G' hx2 (by omega) hz fun _ => ?_
  walk_at "jj"
  have hdfa : dx < fa := Nat.lt_trans hdp fp
  have hne2 : ∀ q ∈ (fa, W.listOf (List.toArray fvs) nn) :: (pa, W.listOf (List.toArray pvs) nn2) :: (nf ++ r), q.1 ≠ dx := List.forall_mem_cons.mpr ⟨Nat.ne_of_gt hdfa, List.forall_mem_cons.mpr ⟨Nat.ne_of_gt hdp, fun q hq => (List.mem_append.mp hq).elim (fun z => Nat.ne_of_gt (Nat.lt_trans hdp (fr q z).1)) (hr q)⟩⟩
  have hnfa : ∀ q ∈ nf ++ r, q.1 ≠ fa := fun q hq => (List.mem_append.mp hq).elim (fun z => (fr q z).2) fun z => Nat.ne_of_lt (Nat.lt_trans (hrp q z) fp)
  show J w c' (newTuple _) _ _ _
  refine J_newT (fun ta2 _ => ?_) (Nat.le_of_ble_eq_true rfl)
  by_cases hpe : p' < e
  · cases qs with
    | nil =>
      have h34 : L[p']? = some 34 := At.head (t := []) at_
      rw [sgn_at hpe h34]
      refine J_ninT (b := false) (zs := [[], [34], [10]]) (.head _) rfl rfl rfl ?_
      refine J.sub (l' := (dx, sD w (Sx L) p' e dp T') :: (fa, W.listOf (List.toArray fvs) nn) :: (pa, W.listOf (List.toArray pvs) nn2) :: (nf ++ r)) ?_ (fun q h => .tail _ h)
      walk_at "jj"
      refine sign_J G' hx2 (by omega) hz fun _ => ?_
      rw [sgn_at hpe h34]
      walk_at "jj"
      refine J_neL (ys := [34]) (b := false) rfl rfl ?_
      walk_at "jj"
      refine J_sSpot (p' := p' + 1) G' hx2 hne2 (by omega) fun T2 => ?_
      walk_at "jj"
      obtain ⟨zs, hzs, hza⟩ := fs
      refine J_join (b := Sx acc) (ys := zs.map Sx) (.tail _ (.head _)) (strsAre_of hzs) ?_ (by rw [join_Sx, hza]) fun _ => ?_
      · rw [sum_Sx, hza]
        have : (Str.ofString "").length = 0 := rfl
        rw [this, Nat.mul_zero]
        omega
      walk_at "jj"
      show J w c' (newList _) _ _ _
      refine J_newL (fun ja hja => ?_) (Nat.le_of_ble_eq_true rfl)
      refine J_addL (.tail _ (.tail _ (.tail _ (.head _)))) (.head _) ?_ fun la hla => ?_
      · simp; omega
      walk_at "jj"
      show J w c' (newTuple _) _ _ _
      refine J.sub (l' := (la, _) :: (nf ++ (dx, sD w (Sx L) (p' + 1) e dp T2) :: r)) ?_ (sub_cons fun q hq => .tail _ (sub_cons (fun q hq => .tail _ (.tail _ hq)) q (mid q hq)))
      refine J_newT (fun ra hra => ?_) (Nat.le_of_ble_eq_true rfl)
      have hpl : pa < la := hla _ (.tail _ (.tail _ (.tail _ (.head _))))
      have hlr : la < ra := hra _ (.head _)
      have hps : p' + 1 = p + plen ps + 2 := by
        have : plen Ps.nil = 0 := rfl
        omega
      obtain ⟨ds, pd1, pd2⟩ := pd
      rw [hps] at *
      refine h (by rw [sc, scan, if_pos hpe]) ra ((ra, _) :: (la, _) :: nf) T2 ?_ ?_
      · have up : ∀ z, pa < z → dx < z ∧ ∀ q' ∈ r, q'.1 < z := fun z hz => ⟨Nat.lt_trans hdp hz, fun q' hq' => Nat.lt_trans (hrp q' hq') hz⟩
        exact List.forall_mem_cons.mpr ⟨up _ (Nat.lt_trans hpl hlr), List.forall_mem_cons.mpr ⟨up _ hpl, fun q hq => up _ (fr q hq).1⟩⟩
      · refine tup3 (.head _) (.list (.tail _ (.head _)) ?_) rfl
        rw [← pd2, pcs]
        exact datAll_snoc (pd1.mono fun q hq => .tail _ (.tail _ hq)) (.str _ _)
    | sg ch qr =>
      have at2 : At L p' (ch :: (rend qr ++ [34])) := at_
      have hch : L[p']? = some ch := at2.head
      have hat2 : At L (p' + 1) (rend qr ++ [34]) := at2.tail
      rw [sgn_at hpe hch]
      have hcc : ch ≠ 34 ∧ ch ≠ 92 := by
        have := wf_.1
        cases top <;> simp at this <;> omega
      by_cases h10 : ch = 10
      · subst h10
        refine J_ninT (b := false) (zs := [[], [34], [10]]) (.head _) rfl rfl rfl ?_
        refine J.sub (l' := (dx, sD w (Sx L) p' e dp T') :: (fa, W.listOf (List.toArray fvs) nn) :: (pa, W.listOf (List.toArray pvs) nn2) :: (nf ++ r)) ?_ (fun q h => .tail _ h)
        walk_at "jj"
        refine sign_J G' hx2 (by omega) hz fun _ => ?_
        rw [sgn_at hpe hch]
        walk_at "jj"
        refine J_neL (ys := [34]) (b := true) rfl rfl ?_
        walk_at "jj"
        refine J_raise G' ((hR p (by rw [sc, scan, if_pos (.inr rfl)])).new G' C') ?_
        walk_at "jj"
        exact J_mkTFr G' (by omega)
      · refine J_ninT (b := true) (zs := [[], [34], [10]]) (.head _) rfl rfl (by simp [h10, hcc.1]) ?_
        refine J.sub (l' := (dx, sD w (Sx L) p' e dp T') :: (fa, W.listOf (List.toArray fvs) nn) :: (pa, W.listOf (List.toArray pvs) nn2) :: (nf ++ r)) ?_ (fun q h => .tail _ h)
        walk_at "jj"
        refine sign_J G' hx2 (by omega) hz fun _ => ?_
        rw [sgn_at hpe hch]
        walk_at "jj"
        refine J_neL (ys := [92]) (b := true) rfl (by simp [hcc.2]) ?_
        walk_at "jj"
        refine sign_J G' hx2 (by omega) hz fun t3 => ?_
        rw [sgn_at hpe hch]
        walk_at "jj"
        refine J.sub (l' := (fa, W.listOf (List.toArray fvs) nn) :: (dx, sD w (Sx L) p' e dp T') :: (pa, W.listOf (List.toArray pvs) nn2) :: (nf ++ r)) ?_ sw2
        refine J_append (List.forall_mem_cons.mpr ⟨Nat.ne_of_lt hdfa, List.forall_mem_cons.mpr ⟨Nat.ne_of_lt fp, hnfa⟩⟩) (by simp; omega) ?_
        rw [List.push_toArray]
        refine J.sub (l' := (dx, sD w (Sx L) p' e dp T') :: (fa, W.listOf (List.toArray (fvs ++ [.str (Sx [ch]) t3])) (nn + 1)) :: (pa, W.listOf (List.toArray pvs) nn2) :: (nf ++ r)) ?_ sw2
        have hx3 : (x, instObj 167 dx) ∈ (fa, W.listOf (List.toArray (fvs ++ [.str (Sx [ch]) t3])) (nn + 1)) :: (pa, W.listOf (List.toArray pvs) nn2) :: (nf ++ r) := .tail _ (.tail _ (List.mem_append_right _ h1))
        have hne3 : ∀ q ∈ (fa, W.listOf (List.toArray (fvs ++ [.str (Sx [ch]) t3])) (nn + 1)) :: (pa, W.listOf (List.toArray pvs) nn2) :: (nf ++ r), q.1 ≠ dx := List.forall_mem_cons.mpr ⟨Nat.ne_of_gt hdfa, fun q hq => hne2 q (.tail _ hq)⟩
        walk_at "jj"
        refine J_sSpot (p' := p' + 1) G' hx3 hne3 (by omega) fun T2 => ?_
        walk_at "jj"
        have e1 : plen (.sg ch qr) = plen qr + 1 := by simp [plen, rend]
        refine ⟨psz qr, _, by rw [← sz]; exact Nat.lt_succ_self _, fun _ h => h, qr, p' + 1, fa, acc ++ [ch], _, pvs, nn + 1, nn2, nf, T2, ⟨rfl, hat2, wf_.2, ns, by omega, by rw [sc, scan, if_neg (by omega)], v1, ⟨tb, v2⟩, v3, v4, fs.snoc, ?_, ?_, ?_, pd, fr, fp⟩, rfl⟩
        · simp only [psz, List.length_append, List.length_cons, List.length_nil] at fl ⊢; omega
        · simp only [List.length_append, List.length_cons, List.length_nil]; omega
        · simp only [psz] at pb; omega
    | es kk qr =>
      have at2 : At L p' (92 :: esc kk :: (rend qr ++ [34])) := at_
      have hch : L[p']? = some 92 := at2.head
      have hc2 : L[p' + 1]? = some (esc kk) := at2.tail.head
      rw [sgn_at hpe hch]
      refine J_ninT (b := true) (zs := [[], [34], [10]]) (.head _) rfl rfl rfl ?_
      refine J.sub (l' := (dx, sD w (Sx L) p' e dp T') :: (fa, W.listOf (List.toArray fvs) nn) :: (pa, W.listOf (List.toArray pvs) nn2) :: (nf ++ r)) ?_ (fun q h => .tail _ h)
      walk_at "jj"
      refine sign_J G' hx2 (by omega) hz fun _ => ?_
      rw [sgn_at hpe hch]
      walk_at "jj"
      refine J_neL (ys := [92]) (b := false) rfl rfl ?_
      walk_at "jj"
      refine J_sSpot (p' := p' + 1) G' hx2 hne2 (by omega) fun T2 => ?_
      walk_at "jj"
      refine sign_J G' hx2 (by omega) hz fun _ => ?_
      by_cases hq1 : e ≤ p' + 1
      · rw [sgn_end hq1]
        walk_at "jj"
        refine J_eqL (ys := [40]) (b := false) rfl rfl ?_
        walk_at "jj"
        refine sign_J G' hx2 (by omega) hz fun _ => ?_
        rw [sgn_end hq1]
        walk_at "jj"
        refine J_escIn (b := false) G' (esc_e w) rfl ?_
        walk_at "jj"
        refine J_raise G' ((hR (p' + 1) (by rw [sc, scan, if_neg (by omega), if_pos (.inl hq1)])).new G' C') ?_
        walk_at "jj"
        exact J_mkTFr G' (by omega)
      rw [sgn_at (by omega) hc2]
      walk_at "jj"
      have hkk : kk < 5 := wf_.1
      have h40 : esc kk ≠ 40 := by
        match kk with
        | 0 | 1 | 2 | 3 => decide
        | n + 4 => simp [esc]
      refine J_eqL (ys := [40]) (b := false) rfl (by simp [h40]) ?_
      walk_at "jj"
      refine sign_J G' hx2 (by omega) hz fun _ => ?_
      rw [sgn_at (by omega) hc2]
      walk_at "jj"
      by_cases hk4 : kk < 4
      · obtain ⟨te, hte⟩ := esc_some w kk hk4
        refine J_escIn (b := true) G' hte rfl ?_
        walk_at "jj"
        refine sign_J G' hx2 (by omega) hz fun _ => ?_
        rw [sgn_at (by omega) hc2]
        walk_at "jj"
        refine J_escGet G' hte ?_
        walk_at "jj"
        refine J.sub (l' := (fa, W.listOf (List.toArray fvs) nn) :: (dx, sD w (Sx L) (p' + 1) e dp T2) :: (pa, W.listOf (List.toArray pvs) nn2) :: (nf ++ r)) ?_ sw2
        refine J_append (List.forall_mem_cons.mpr ⟨Nat.ne_of_lt hdfa, List.forall_mem_cons.mpr ⟨Nat.ne_of_lt fp, hnfa⟩⟩) (by simp; omega) ?_
        rw [List.push_toArray]
        refine J.sub (l' := (dx, sD w (Sx L) (p' + 1) e dp T2) :: (fa, W.listOf (List.toArray (fvs ++ [.str (Sx (wor kk)) _])) (nn + 1)) :: (pa, W.listOf (List.toArray pvs) nn2) :: (nf ++ r)) ?_ sw2
        have hx3 : (x, instObj 167 dx) ∈ (fa, W.listOf (List.toArray (fvs ++ [.str (Sx (wor kk)) te])) (nn + 1)) :: (pa, W.listOf (List.toArray pvs) nn2) :: (nf ++ r) := .tail _ (.tail _ (List.mem_append_right _ h1))
        have hne3 : ∀ q ∈ (fa, W.listOf (List.toArray (fvs ++ [.str (Sx (wor kk)) te])) (nn + 1)) :: (pa, W.listOf (List.toArray pvs) nn2) :: (nf ++ r), q.1 ≠ dx := List.forall_mem_cons.mpr ⟨Nat.ne_of_gt hdfa, fun q hq => hne2 q (.tail _ hq)⟩
        walk_at "jj"
        refine J_sSpot (p' := p' + 2) G' hx3 hne3 (by omega) fun T3 => ?_
        walk_at "jj"
        have e1 : plen (.es kk qr) = plen qr + 2 := by simp [plen, rend]
        have e2 : (wor kk).length ≤ 1 := by
          match kk with
          | 0 | 1 | 2 | 3 => decide
          | n + 4 => simp [wor]
        refine ⟨psz qr, _, by rw [← sz]; exact Nat.lt_succ_self _, fun _ h => h, qr, p' + 2, fa, acc ++ wor kk, _, pvs, nn + 1, nn2, nf, T3, ⟨rfl, at2.tail.tail, wf_.2, ns, by omega, by rw [sc, scan, if_neg (by omega), if_neg (by omega)], v1, ⟨tb, v2⟩, v3, v4, fs.snoc, ?_, ?_, ?_, pd, fr, fp⟩, rfl⟩
        · simp only [psz, List.length_append, List.length_cons, List.length_nil] at fl ⊢; omega
        · simp only [List.length_append]; omega
        · simp only [psz] at pb; omega
      · obtain rfl : kk = 4 := by omega
        refine J_escIn (b := false) G' (esc_q w) rfl ?_
        walk_at "jj"
        refine J_raise G' ((hR (p' + 1) (by rw [sc, scan, if_neg (by omega), if_pos (.inr (by omega))])).new G' C') ?_
        walk_at "jj"
        exact J_mkTFr G' (by omega)
    | inn i q qr =>
      have at2 : At L p' (92 :: 40 :: (bodyOf i (rend q) ++ (41 :: (rend qr ++ [34])))) := by simpa [rend] using at_
      have hch : L[p']? = some 92 := at2.head
      have hc2 : L[p' + 1]? = some (40) := at2.tail.head
      rw [sgn_at hpe hch]
      refine J_ninT (b := true) (zs := [[], [34], [10]]) (.head _) rfl rfl rfl ?_
      refine J.sub (l' := (dx, sD w (Sx L) p' e dp T') :: (fa, W.listOf (List.toArray fvs) nn) :: (pa, W.listOf (List.toArray pvs) nn2) :: (nf ++ r)) ?_ (fun q h => .tail _ h)
      walk_at "jj"
      refine sign_J G' hx2 (by omega) hz fun _ => ?_
      rw [sgn_at hpe hch]
      walk_at "jj"
      refine J_neL (ys := [92]) (b := false) rfl rfl ?_
      walk_at "jj"
      refine J_sSpot (p' := p' + 1) G' hx2 hne2 (by omega) fun T2 => ?_
      walk_at "jj"
      refine sign_J G' hx2 (by omega) hz fun _ => ?_
      by_cases hq1 : e ≤ p' + 1
      · rw [sgn_end hq1]
        walk_at "jj"
        refine J_eqL (ys := [40]) (b := false) rfl rfl ?_
        walk_at "jj"
        refine sign_J G' hx2 (by omega) hz fun _ => ?_
        rw [sgn_end hq1]
        walk_at "jj"
        refine J_escIn (b := false) G' (esc_e w) rfl ?_
        walk_at "jj"
        refine J_raise G' ((hR (p' + 1) (by rw [sc, scan, if_neg (by omega), if_pos (.inl hq1)])).new G' C') ?_
        walk_at "jj"
        exact J_mkTFr G' (by omega)
      rw [sgn_at (by omega) hc2]
      walk_at "jj"
      refine J_eqL (ys := [40]) (b := true) rfl rfl ?_
      walk_at "jj"
      have ⟨ha1, ha2⟩ := At.app (a := bodyOf i (rend q)) (b := 41 :: (rend qr ++ [34])) at2.tail.tail
      have hc41 : L[p' + 2 + bl i q]? = some 41 := ha2.head
      have hL2 : p' + 2 + bl i q + 2 ≤ L.length := by
        rcases ha2.tail.len with h | h
        · rw [List.length_append, List.length_singleton] at h; show p' + 2 + (bodyOf i (rend q)).length + 2 ≤ _; omega
        · simp at h
      have hpl : plen (.inn i q qr) = 3 + bl i q + plen qr := plen_inn i q qr
      by_cases hd4 : dp = 4
      · subst hd4
        refine ite_bt rfl ?_
        walk_at "jj"
        refine J_raise G' ((hR (p' + 1) (by rw [sc, scan, if_neg (by omega), if_pos (.inr rfl)])).new G' C') ?_
        walk_at "jj"
        exact J_mkTFr G' (by omega)
      refine ite_bf (by simp; omega) ?_
      walk_at "jj"
      refine inner_end_J (b0 := p' + 2) G' hx2 (by omega) hz (run_in i q wf_.1) (fun z hz => ha1.get hz) hc41 (fun hle => (hR (p' + 2) (by rw [sc, scan, if_neg (by omega), if_neg (by omega), if_pos hle])).of G' C') fun hlt tc => ?_
      walk_at "jj"
      obtain ⟨zs, hzs, hza⟩ := fs
      refine J_join (b := Sx acc) (ys := zs.map Sx) (.tail _ (.head _)) (strsAre_of hzs) ?_ (by rw [join_Sx, hza]) fun tj => ?_
      · rw [sum_Sx, hza]
        have : (Str.ofString "").length = 0 := rfl
        rw [this, Nat.mul_zero]
        omega
      walk_at "jj"
      refine scan_new (p := p' + 2) (e := p' + 2 + bl i q) (dp := dp + 1) G' fun x2 dx2 Ts hl1 hl2 => ?_
      walk_at "jj"
      have hlt' : p' + 2 + bl i q < e := hlt
      refine tokens_J (n := n - 1) (kk := 18 + 2 * n) (k := k) (i := i) (q := q) (p := p' + 2) (e := p' + 2 + bl i q) (dp := dp + 1) (fun hi => ⟨?_, ?_⟩) (by omega) (by rwa [show k + (18 + 2 * n) + 1 = k + 2 * n + 19 by omega]) (.head _) (List.forall_mem_cons.mpr ⟨Nat.ne_of_gt hl2, fun q hq => Nat.ne_of_lt (hl1 q hq)⟩) hL2 hz ha1 rfl hc41 wf_.1 (fun f hf => (hR f ?_).of G' C') fun hsn a nf3 T3 z1 z2 => ?_
      · have n1 : 1 ≤ n := by
          rw [nest, if_neg (by omega)] at ns; omega
        rw [show 18 + 2 * n = 20 + 2 * (n - 1) by omega]
        exact @IH (n - 1) (by omega)
      · rw [nest, if_neg (by omega)] at ns; omega
      · have hf' : (if i < 3 then none else scan q (p' + 4) (p' + 3) (dp + 1) (p' + 2 + bl i q)) = some f := hf
        rw [sc, scan, if_neg (by omega), if_neg (by omega), if_neg (by omega), hf']
      have hsn' : (if i < 3 then none else scan q (p' + 4) (p' + 3) (dp + 1) (p' + 2 + bl i q)) = none := hsn
      walk_at "jj"
      show J w c' (newList _) _ _ _
      refine J_newL (fun b hb => ?_) (Nat.le_of_ble_eq_true rfl)
      walk_at "jj"
      have hpb : pa < b := hb _ (List.mem_append_right _ (.tail _ (.tail _ (.tail _ (.tail _ (.head _))))))
      have hnp : ∀ q0 ∈ nf ++ r, q0.1 ≠ pa := fun q0 hq => (List.mem_append.mp hq).elim (fun z => Nat.ne_of_gt (fr q0 z).1) fun z => Nat.ne_of_lt (hrp q0 z)
      have hp3 : ∀ q0 ∈ nf3, pa < q0.1 := fun q0 hq => (z1 q0 hq).2 _ (.tail _ (.tail _ (.tail _ (.head _))))
      refine J.sub (l' := (pa, W.listOf (List.toArray pvs) nn2) :: (b, W.listOf (List.toArray [.str (Sx acc) tj, .ref a]) 0) :: (dx, sD w (Sx L) (p' + 1) e dp T2) :: (nf3 ++ (nf ++ r))) ?_ ?_
      rotate_left
      · intro q0 hq
        rcases List.mem_cons.mp hq with rfl | hq
        · exact .tail _ (List.mem_append_right _ (.tail _ (.tail _ (.tail _ (.tail _ (.head _))))))
        · refine sub_cons (fun q0 hq => ?_) q0 hq
          rcases List.mem_cons.mp hq with rfl | hq
          · exact List.mem_append_right _ (.tail _ (.tail _ (.head _)))
          · exact (List.mem_append.mp hq).elim (List.mem_append_left _) fun z => List.mem_append_right _ (.tail _ (.tail _ (.tail _ (.tail _ (.tail _ z)))))
      refine J_extend (its := List.toArray pvs) (List.forall_mem_cons.mpr ⟨Nat.ne_of_gt hpb, List.forall_mem_cons.mpr ⟨Nat.ne_of_lt hdp, fun q0 hq => (List.mem_append.mp hq).elim (fun z => Nat.ne_of_gt (hp3 q0 z)) (hnp q0)⟩⟩) (.head _) (by simp) (by simp; omega) ?_
      walk_at "jj"
      show J w c' (newList _) _ _ _
      refine J_newL (fun fb hfb => ?_) (Nat.le_of_ble_eq_true rfl)
      walk_at "jj"
      show J w c' (newTuple _) _ _ _
      refine J_newT (fun ta3 _ => ?_) (Nat.le_of_ble_eq_true rfl)
      refine J_unp G' (.head _) ?_
      show J w c' (assignInOrder [assign (Expr.Name (Str.ofString "found") _) _, assign (.Attribute _ _ _) _] _) _ _ _
      refine J_aio ?_
      walk_at "jj"
      refine J_aA ?_
      walk_at "jj"
      have hdb : dx < fb := hfb _ (.tail _ (.tail _ (.head _)))
      refine J.sub (l' := (dx, sD w (Sx L) (p' + 1) e dp T2) :: (fb, W.listOf (List.toArray []) 0) :: (pa, W.listOf (List.toArray (pvs ++ [.str (Sx acc) tj, .ref a])) (nn2 + 1)) :: ((nf3 ++ nf) ++ r)) ?_ ?_
      rotate_left
      · intro q0 hq
        rw [List.append_assoc] at hq
        rcases List.mem_cons.mp hq with rfl | hq
        · exact .tail _ (.tail _ (.tail _ (.tail _ (.head _))))
        · exact .tail _ (sub_cons (sub_cons fun q0 hq => .tail _ (.tail _ hq)) q0 hq)
      have hbl : (bodyOf i (rend q)).length = bl i q := rfl
      refine J_sSpot (p' := p' + 3 + bl i q) G' (.tail _ (.tail _ (List.mem_append_right _ h1))) (List.forall_mem_cons.mpr ⟨Nat.ne_of_gt hdb, List.forall_mem_cons.mpr ⟨Nat.ne_of_gt hdp, fun q0 hq => (List.mem_append.mp hq).elim (fun z => (List.mem_append.mp z).elim (fun z => Nat.ne_of_gt (Nat.lt_trans hdp (hp3 q0 z))) fun z => Nat.ne_of_gt (Nat.lt_trans hdp (fr q0 z).1)) (hr q0)⟩⟩) (by omega) fun T4 => ?_
      walk_at "jj"
      obtain ⟨ds, pd1, pd2⟩ := pd
      have hz3 := ha2.tail
      rw [show p' + 2 + (bodyOf i (rend q)).length + 1 = p' + 3 + bl i q by omega] at hz3
      refine ⟨psz qr, _, by rw [← sz]; exact Nat.lt_succ_self _, fun _ h => h, qr, p' + 3 + bl i q, fb, [], [], pvs ++ [.str (Sx acc) tj, .ref a], 0, nn2 + 1, nf3 ++ nf, T4, ⟨rfl, hz3, wf_.2, ?_, by omega, ?_, by walk_at "lk", ⟨tb, by walk_at "lk"⟩, by walk_at "lk", by walk_at "lk", .nil, ?_, ?_, ?_, ⟨ds ++ [.str (Sx acc)] ++ [.list (inToks i (pcs q [] (p' + 4)) (p' + 2) ++ [tk3 "end" (.str (Sx [])) (p' + 2 + bl i q)])], ?_, ?_⟩, ?_, ?_⟩, rfl⟩
      · rw [nest] at ns; omega
      · rw [sc, scan, if_neg (by omega), if_neg (by omega), if_neg (by omega), hsn']
      · simp only [psz, List.length_nil] at fl ⊢; omega
      · simp only [List.length_nil]; omega
      · simp only [psz, List.length_append, List.length_cons, List.length_nil] at pb ⊢; omega
      · have := datAll_snoc (datAll_snoc (pd1.mono (news' := nf3 ++ nf) fun q0 hq => List.mem_append_right _ hq) (.str (Sx acc) tj)) (z2.mono (news' := nf3 ++ nf) fun q0 hq => List.mem_append_left _ hq)
        rwa [List.append_assoc pvs] at this
      · rw [← pd2, pcs, List.append_assoc, List.append_assoc]; rfl
      · exact fun q0 hq => (List.mem_append.mp hq).elim (fun z => ⟨hp3 q0 z, Nat.ne_of_lt (hfb _ (.tail _ (.tail _ (.tail _ (List.mem_append_left _ z)))))⟩) fun z => ⟨(fr q0 z).1, Nat.ne_of_lt (hfb _ (.tail _ (.tail _ (.tail _ (List.mem_append_right _ (List.mem_append_left _ z))))))⟩
      · exact Nat.lt_trans hpb (hfb _ (.tail _ (.head _)))
  · rw [sgn_end (by omega)]
    refine J_ninT (b := false) (zs := [[], [34], [10]]) (.head _) rfl rfl rfl ?_
    refine J.sub (l' := (dx, sD w (Sx L) p' e dp T') :: (fa, W.listOf (List.toArray fvs) nn) :: (pa, W.listOf (List.toArray pvs) nn2) :: (nf ++ r)) ?_ (fun q h => .tail _ h)
    walk_at "jj"
    refine sign_J G' hx2 (by omega) hz fun _ => ?_
    rw [sgn_end (by omega)]
    walk_at "jj"
    refine J_neL (ys := [34]) (b := true) rfl rfl ?_
    walk_at "jj"
    refine J_raise G' ((hR p (by rw [sc]; exact scan_end (by omega))).new G' C') ?_
    walk_at "jj"
    exact J_mkTFr G' (by omega)
theorem string_J (n : Nat) : StrC w n (20 + 2 * n) := Nat.strongRecOn (motive := fun n => StrC w n (20 + 2 * n)) n fun n IH => string_step n fun n' h => @IH n' h
end


section
variable {w : World} {c : Cfg} {m : Vars} {l r : Led} {k : Nat} {Q : Value → Vars → Led → Prop}
def Wh (w : World) (o : Obj) (cla : Addr) (n : Nat) : Prop := ∃ t, DK w o [(Str.ofString "cells", .ref cla), (Str.ofString "at", .int (n : Int) t)]
def WB (cla : Addr) (l : Led) : Prop := ∃ (vs : List Value) (ns : List Int) (nn : Nat), (cla, W.listOf vs.toArray nn) ∈ l ∧ IntsAre vs ns ∧ ns.length ≤ 63
theorem WB.mono {cla : Addr} {l' : Led} (h : WB cla l) (hs : ∀ p ∈ l, p ∈ l') : WB cla l' :=
  let ⟨vs, ns, nn, a, b⟩ := h; ⟨vs, ns, nn, hs _ a, b⟩
theorem turnN (G : Good w c (k + 1)) {wd cla : Addr} {wo : Obj} {a many : Nat} {i : Int} {tm : Tok} (hi : i = (many : Int)) (hw : Wh w wo cla a) (hc : WB cla r) (hfr : ∀ p ∈ r, p.1 ≠ wd) (hk : a ≤ 10000) (hm : 0 < many)
    (ret : ∀ d, d < many → ∀ t wo', Wh w wo' cla (a + 1) → Q (.int ((d : Nat) : Int) t) m ((wd, wo') :: r)) : J w c (call (.ref 184) [.ref wd, .int i tm]) Q m ((wd, wo) :: r) := by
  subst hi
  obtain ⟨t, hw⟩ := hw
  obtain ⟨vs, ns, nn, a1, a2, a3⟩ := hc
  refine turn_J G hw a1 a2 a3 hfr hk (Int.ofNat_lt.mpr hm) fun d t t' wo' h0 h1 hw' => ?_
  obtain ⟨d, rfl⟩ := Int.eq_ofNat_of_zero_le h0
  exact ret d (Int.ofNat_lt.mp h1) t wo' ⟨t', hw'⟩
/-- a pair of the law's own table -/
def EscAt (w : World) (d : Nat) (a : Addr) : Prop := ∃ te v, (Mine.KK w.params).lookup a = some (tupO [.str (Sx [esc d]) te, v] 0) ∧ (d < 4 → ∃ t, v = .str (Sx (wor d)) t) ∧ (d = 4 → v = .none)
theorem J_escI (G : Good w c k) {value slice : Expr} {d : Nat} {t : Tok} (hd : d < 5) (h : ∀ a, EscAt w d a → Q (.ref a) m l)
    (hs : ∀ t, subscripted slice false (.ref 177) (.int (d : Int) t) = operate [.ref 177, .int (d : Int) t] (getItem (.ref 177) (.int (d : Int) t)) := by intro _; with_unfolding_all rfl) : J w c (subscriptTail value slice (.ref 177) (.int (d : Int) t)) Q m l := by
  have key : ∃ a, [Value.ref 172, Value.ref 173, Value.ref 174, Value.ref 175, Value.ref 176][d]? = some (.ref a) ∧ EscAt w d a := by
    match d, hd with
    | 0, _ => exact ⟨172, rfl, _, _, by show _ = some (tupO [.str (Str.ofString "n") _, _] 0); k_is, fun _ => ⟨_, rfl⟩, by decide⟩
    | 1, _ => exact ⟨173, rfl, _, _, by show _ = some (tupO [.str (Str.ofString "t") _, _] 0); k_is, fun _ => ⟨_, rfl⟩, by decide⟩
    | 2, _ => exact ⟨174, rfl, _, _, by show _ = some (tupO [.str (Str.ofString "\"") _, _] 0); k_is, fun _ => ⟨_, rfl⟩, by decide⟩
    | 3, _ => exact ⟨175, rfl, _, _, by show _ = some (tupO [.str (Str.ofString "\\") _, _] 0); k_is, fun _ => ⟨_, rfl⟩, by decide⟩
    | 4, _ => exact ⟨176, rfl, _, _, by show _ = some (tupO [.str (Str.ofString "q") _, _] 0); k_is, fun h => absurd h (Nat.lt_irrefl _), fun _ => rfl⟩
  obtain ⟨a, ha, hE⟩ := key
  have hK : (Mine.KK w.params).lookup 177 = some (tupO [Value.ref 172, Value.ref 173, Value.ref 174, Value.ref 175, Value.ref 176] 0) := by k_is
  intro hp tk F N
  exact item_tupleT ⟨_, G.X.keeps F.keep _ _ hK, rfl, _, rfl⟩ (by omega) (by omega) (j := d) (by simp [seqIndex?]; omega) ha (post_intro F N (h a hE)) (hs _)
theorem J_unpK (G : Good w c k) {elts : List Expr} {kk : Nat} {pos : Pos} {d : Addr} {vs : List Value} {n : Nat} {env : Env} {Q : Unit → Vars → Led → Prop} (hK : (Mine.KK w.params).lookup d = some (tupO vs n))
    (h : J w c (assignInOrder ((assignEach elts env).map (·.2)) vs) Q m l)
    (hn : (assignEach elts env).length = vs.length := by rfl) (hstar : (assignEach elts env).findIdx? (·.1) = none := by rfl) : J w c (assign (.Tuple elts kk pos) env (.ref d)) Q m l :=
  fun _ _ F N => unpackN_ F N ⟨_, G.X.keeps F.keep _ _ hK, rfl, _, rfl⟩ G.hh (by simpa using hn) hstar (fun _ F' N' => by simpa using h _ _ F' N')
theorem J_isN {x : PySem.Str} {t : Tok} (h : Q (.bool false) m l) : J w c (compareOp .Is (.str x t) .none) Q m l := fun _ _ F N => PyProof.Rows.is_str_none (post_intro F N h)
theorem J_isNN (h : Q (.bool true) m l) : J w c (compareOp .Is .none .none) Q m l := fun _ _ F N => wpAny_is_self rfl (post_intro F N h)
end
abbrev fD (f : Nat × Nat) : Dat := .tuple [.int f.1, .int f.2]
abbrev rowD (r : Row) : Dat := .tuple [.int r.way, .int r.here, .int r.rest, .list (r.fs.map fD)]
/-- what is built of a string so far, and how it goes on -/
structure PF (top : Bool) (n b dp : Nat) (F : Ps → Ps) (T : List Nat) (P : List Dat) (fnd : List Nat) (R : List Row) : Prop where
  rend : ∀ q, rend (F q) = T ++ rend q
  pcs : ∀ q, pcs (F q) [] (b + 1) = P ++ pcs q fnd (b + 1 + T.length)
  rows : ∀ q, rows (F q) (b + 1) b dp = R ++ rows q (b + 1 + T.length) b dp
  wf : ∀ q, wf top q → wf top (F q)
  nest : ∀ q, nest q ≤ n → nest (F q) ≤ n
  fl : fnd.length ≤ T.length
section
variable {top : Bool} {n b dp : Nat} {F : Ps → Ps} {T : List Nat} {P : List Dat} {fnd : List Nat} {R : List Row}
theorem PF.nil : PF top n b dp id [] [] [] [] := ⟨fun _ => rfl, fun _ => rfl, fun _ => rfl, fun _ h => h, fun _ h => h, Nat.le_refl _⟩
theorem PF.sg (h : PF top n b dp F T P fnd R) {c : Nat} (hc : c ∈ (if top then [97, 37, 47, 42, 39, 32, 10, 40, 41] else [97, 37, 47, 42, 39, 32, 10])) :
    PF top n b dp (fun q => F (.sg c q)) (T ++ [c]) P (fnd ++ [c]) (R ++ [⟨0, b + 1 + T.length, b + 1 + (T ++ [c]).length, if c = 10 then [(b + 1 + T.length, b)] else []⟩]) where
  rend q := by rw [h.rend, Mine.rend, List.append_assoc]; rfl
  pcs q := by rw [h.pcs, Mine.pcs, List.length_append]; rfl
  rows q := by rw [h.rows, Mine.rows, List.length_append, List.append_assoc]; rfl
  wf q hq := h.wf _ ⟨hc, hq⟩
  nest q hq := h.nest _ hq
  fl := by have := h.fl; simp only [List.length_append, List.length_cons, List.length_nil]; omega
theorem PF.es (h : PF top n b dp F T P fnd R) {k : Nat} (hk : k < 5) :
    PF top n b dp (fun q => F (.es k q)) (T ++ [92, esc k]) P (fnd ++ wor k) (R ++ [⟨1, b + 1 + T.length, b + 1 + (T ++ [92, esc k]).length, if 4 ≤ k then [(b + 1 + T.length + 1, b + 1 + T.length + 1)] else []⟩]) where
  rend q := by rw [h.rend, Mine.rend, List.append_assoc]; rfl
  pcs q := by rw [h.pcs, Mine.pcs, List.length_append]; rfl
  rows q := by rw [h.rows, Mine.rows, List.length_append, List.append_assoc]; rfl
  wf q hq := h.wf _ ⟨hk, hq⟩
  nest q hq := h.nest _ hq
  fl := by
    have := h.fl
    have e2 : (wor k).length ≤ 1 := by
      match k with
      | 0 | 1 | 2 | 3 => decide
      | n + 4 => simp [wor]
    simp only [List.length_append, List.length_cons, List.length_nil]; omega
theorem PF.inn (h : PF top n b dp F T P fnd R) {i : Nat} {q : Ps} (hw : 3 ≤ i → Mine.wf false q) (hn : 3 ≤ i → Mine.nest q + 1 ≤ n) :
    PF top n b dp (fun z => F (.inn i q z)) (T ++ 92 :: 40 :: (bodyOf i (Mine.rend q) ++ [41]))
      (P ++ [.str (Sx fnd), .list (inToks i (Mine.pcs q [] (b + 1 + T.length + 4)) (b + 1 + T.length + 2) ++ [tk3 "end" (.str (Sx [])) (b + 1 + T.length + 2 + bl i q)])]) []
      (R ++ [⟨2, b + 1 + T.length, b + 1 + (T ++ 92 :: 40 :: (bodyOf i (Mine.rend q) ++ [41])).length, flt1 i (flt q (b + 1 + T.length + 4) (b + 1 + T.length + 3) (dp + 1)) (b + 1 + T.length) dp⟩]) := by
  have hl : b + 1 + (T ++ 92 :: 40 :: (bodyOf i (Mine.rend q) ++ [41])).length = b + 1 + T.length + 3 + bl i q := by
    simp only [List.length_append, List.length_cons, List.length_nil, bl]; omega
  exact {
    rend := fun z => by rw [h.rend, Mine.rend]; simp
    pcs := fun z => by rw [h.pcs, Mine.pcs, hl, List.append_assoc]; rfl
    rows := fun z => by rw [h.rows, Mine.rows, hl, List.append_assoc]; rfl
    wf := fun z hz => h.wf _ ⟨hw, hz⟩
    nest := fun z hz => h.nest _ (by
      rw [Mine.nest]
      split
      · omega
      · have := hn (by omega); omega)
    fl := Nat.zero_le _ }
end


/-- draws, and signs -/
def dr : Nat → Nat
  | 0 => 9
  | n + 1 => 4 * dr n + 9
def pl : Nat → Nat
  | 0 => 32
  | n + 1 => 4 * pl n + 24
def st_ : Nat → Nat
  | 0 => 2
  | n + 1 => dr n + 2
def sl_ : Nat → Nat
  | 0 => 8
  | n + 1 => pl n + 6
theorem sl_le {n : Nat} (h : n ≤ 2) : sl_ n ≤ 158 := by
  match n, h with
  | 0, _ | 1, _ | 2, _ => decide
theorem wor_le (k : Nat) : (wor k).length ≤ 1 := by
  match k with
  | 0 | 1 | 2 | 3 => decide
  | n + 4 => simp [wor]
theorem sl_ge (n : Nat) : 2 ≤ sl_ n := by cases n <;> simp [sl_]
theorem st_ge (n : Nat) : 2 ≤ st_ n := by cases n <;> simp [st_]
theorem dr_eq (n : Nat) : dr n = 1 + 4 * st_ n := by cases n <;> simp [dr, st_]; omega
theorem pl_eq (n : Nat) : pl n = 4 * sl_ n := by cases n <;> simp [pl, sl_]; omega
def resD (ps : Ps) (b dp : Nat) : Dat := .tuple [.str (Sx (34 :: rend ps ++ [34])), strTok ps b, .list ((flt ps (b + 1) b dp).map fD), .list ((rows ps (b + 1) b dp).map rowD)]
/-- what _law_string must do -/
def LStr (w : World) (n : Nat) : Prop := ∀ {c : Cfg} {m : Vars} {r : Led} {k : Nat} {wd cla : Addr} {wo : Obj} {a b dp : Nat} {t1 t2 t3 : Tok} {Q : Value → Vars → Led → Prop} (_ : Good w c (k + (2 * n + 4))) (_ : n ≤ 2) (_ : Wh w wo cla a) (_ : WB cla r) (_ : ∀ p ∈ r, p.1 ≠ wd) (_ : a + dr n ≤ 10000)
    (_ : ∀ ps x nf wo' a', a' ≤ a + dr n → wf (decide (n = 2)) ps → nest ps ≤ n → plen ps ≤ pl n → (∀ q ∈ nf, wd < q.1 ∧ ∀ q' ∈ r, q'.1 < q.1) → Wh w wo' cla a' → DatIn nf (.ref x) (resD ps b dp) → Q (.ref x) m (nf ++ (wd, wo') :: r)),
    J w c (call (.ref 196) [.ref wd, .int (b : Int) t1, .int (dp : Int) t2, .int (n : Int) t3]) Q m ((wd, wo) :: r)
/-- the loop of _law_string stands ahead of lap i -/
inductive LI (w : World) (wd cla sa : Addr) (r : Led) (b dp n a0 : Nat) : Nat → Vars → Led → Prop
  | mk {i : Nat} {m : Vars} {F : Ps → Ps} {T fnd : List Nat} {P : List Dat} {R : List Row} {pa : Addr} {pvs svs : List Value} {nn n2 : Nat} {nf : Led} {wo : Obj} {a : Nat} {t1 t2 t3 t4 t5 : Tok}
    (hp : PF (decide (n = 2)) n b dp F T P fnd R)
    (v1 : m "wheel" = some (.ref wd)) (v2 : m "begin" = some (.int (b : Int) t1)) (v3 : m "depth" = some (.int (dp : Int) t2)) (v4 : m "deep" = some (.int (n : Int) t3)) (v5 : m "text" = some (.str (Sx (34 :: T)) t4))
    (v6 : m "pieces" = some (.ref pa)) (v7 : m "found" = some (.str (Sx fnd) t5)) (v8 : m "spans" = some (.ref sa))
    (hw : Wh w wo cla a) (ha : a ≤ a0 + 1 + i * st_ n) (hT : T.length ≤ i * sl_ n) (hi : i ≤ 4) (hpv : pvs.length ≤ 2 * i) (hsv : svs.length = i)
    (hpa : (pa, W.listOf pvs.toArray n2) ∈ nf) (dP : DatAll nf pvs P) (dS : DatAll nf svs (R.map rowD))
    (fr : ∀ q ∈ nf, wd < q.1 ∧ (∀ q' ∈ r, q'.1 < q.1) ∧ q.1 ≠ sa) {l : Led} (hl : ∀ q ∈ (wd, wo) :: (sa, W.listOf svs.toArray nn) :: (nf ++ r), q ∈ l) : LI w wd cla sa r b dp n a0 i m l
/-- an address made in this lap -/
def NA (wd sa I : Addr) (r : Led) (a : Addr) : Prop := wd < a ∧ (∀ q' ∈ r, q'.1 < a) ∧ a ≠ sa ∧ a ≠ I
theorem NA.of {wd sa I a : Addr} {wo so o : Obj} {nf r l : Led} (h : ∀ p ∈ l, p.1 < a) (hl : ∀ q ∈ (wd, wo) :: (sa, so) :: (nf ++ (I, o) :: r), q ∈ l) : NA wd sa I r a :=
  ⟨h _ (hl _ (.head _)), fun q hq => h q (hl _ (.tail _ (.tail _ (List.mem_append_right _ (.tail _ hq))))), Nat.ne_of_gt (h _ (hl _ (.tail _ (.head _)))), Nat.ne_of_gt (h _ (hl _ (.tail _ (.tail _ (List.mem_append_right _ (.head _))))))⟩
theorem ne_wd {wd sa I : Addr} {so o : Obj} {nf r : Led} (hws : wd < sa) (fr : ∀ q ∈ nf, NA wd sa I r q.1) (hI : I ≠ wd) (hr : ∀ q ∈ r, q.1 ≠ wd) : ∀ q ∈ (sa, so) :: (nf ++ (I, o) :: r), q.1 ≠ wd :=
  List.forall_mem_cons.mpr ⟨Nat.ne_of_gt hws, fun q hq => (List.mem_append.mp hq).elim (fun h => Nat.ne_of_gt (fr q h).1) fun h => (List.mem_cons.mp h).elim (fun e => e ▸ hI) (hr q)⟩
theorem reo {α : Type} {a b x : α} {old rest all : List α} (h : ∀ q ∈ a :: b :: (old ++ rest), q ∈ all) : ∀ q ∈ a :: b :: ((x :: old) ++ rest), q ∈ x :: all :=
  List.forall_mem_cons.mpr ⟨.tail _ (h _ (.head _)), List.forall_mem_cons.mpr ⟨.tail _ (h _ (.tail _ (.head _))), fun q hq => (List.mem_cons.mp hq).elim (fun e => e ▸ .head _) fun z => .tail _ (h _ (.tail _ (.tail _ z)))⟩⟩
/-- and so behind its if -/
inductive LM (w : World) (wd cla sa I : Addr) (o : Obj) (r : Led) (b dp n a0 : Nat) (svs : List Value) (nn : Nat) (R : List Row) : Nat → Flow → Vars → Led → Prop
  | mk {i : Nat} {m : Vars} {F : Ps → Ps} {T fnd : List Nat} {P : List Dat} {pa fa : Addr} {pvs fvs : List Value} {n2 n3 : Nat} {nf : Led} {wo : Obj} {a way here : Nat} {fs : List (Nat × Nat)} {t1 t2 t3 t4 t5 t6 t7 : Tok}
    (hp : PF (decide (n = 2)) n b dp F T P fnd (R ++ [⟨way, here, b + 1 + T.length, fs⟩]))
    (v1 : m "wheel" = some (.ref wd)) (v2 : m "begin" = some (.int (b : Int) t1)) (v3 : m "depth" = some (.int (dp : Int) t2)) (v4 : m "deep" = some (.int (n : Int) t3)) (v5 : m "text" = some (.str (Sx (34 :: T)) t4))
    (v6 : m "pieces" = some (.ref pa)) (v7 : m "found" = some (.str (Sx fnd) t5)) (v8 : m "spans" = some (.ref sa)) (v9 : m "way" = some (.int (way : Int) t6)) (vA : m "here" = some (.int (here : Int) t7)) (vB : m "faults" = some (.ref fa))
    (hw : Wh w wo cla a) (ha : a ≤ a0 + 1 + (i + 1) * st_ n) (hT : T.length ≤ (i + 1) * sl_ n) (hpv : pvs.length ≤ 2 * (i + 1))
    (hpa : (pa, W.listOf pvs.toArray n2) ∈ nf) (dP : DatAll nf pvs P) (dS : DatAll nf svs (R.map rowD)) (hfa : (fa, W.listOf fvs.toArray n3) ∈ nf) (dF : DatAll nf fvs (fs.map fD))
    (fr : ∀ q ∈ nf, NA wd sa I r q.1) {l : Led} (hl : ∀ q ∈ (wd, wo) :: (sa, W.listOf svs.toArray nn) :: (nf ++ (I, o) :: r), q ∈ l) : LM w wd cla sa I o r b dp n a0 svs nn R i .next m l
section
variable {w : World} {c : Cfg} {m : Vars} {l : Led} {env : Env}
theorem ite_mono {b : Bool} {t u : Sem Flow} {Q Q' : KF} (h : if b = true then J w c t Q' m l else J w c u Q' m l) (hq : ∀ f m l, Q' f m l → Q f m l) : if b = true then J w c t Q m l else J w c u Q m l := by
  cases b
  · rw [if_neg (by decide)] at h ⊢; exact h.mono hq
  · rw [if_pos rfl] at h ⊢; exact h.mono hq
theorem pick_str {b : Bool} {A B : PySem.Str} {C : PySem.Str} {k1 k2 : Nat} {p1 p2 : Pos} {Q : KV} (e : (if b = true then A else B) = C) (h : ∀ t, Q (.str C t) m l) : if b = true then J w c (eval (.Constant (.str A) k1 p1) env) Q m l else J w c (eval (.Constant (.str B) k2 p2) env) Q m l := by
  subst e
  cases b
  · exact ite_f (J_str fun t => h t)
  · exact ite_t (J_str fun t => h t)
theorem pick_int {b : Bool} {A B C : Int} {k1 k2 : Nat} {p1 p2 : Pos} {Q : KV} (e : (if b = true then A else B) = C) (h : ∀ t, Q (.int C t) m l) : if b = true then J w c (eval (.Constant (.int A) k1 p1) env) Q m l else J w c (eval (.Constant (.int B) k2 p2) env) Q m l := by
  subst e
  cases b
  · exact ite_f (J_int fun t => h t)
  · exact ite_t (J_int fun t => h t)
end
/-- the signs that may stand -/
abbrev sgs (top : Bool) : List Nat := if top then [97, 37, 47, 42, 39, 32, 10, 40, 41] else [97, 37, 47, 42, 39, 32, 10]
theorem sgs_eq (n : Nat) : (if ((n : Int) == 2) = true then Str.ofString "a%/*' \n()" else Str.ofString "a%/*' \n") = Sx (sgs (decide (n = 2))) := by
  by_cases h : n = 2
  · subst h; rfl
  · rw [if_neg (by simp; omega), decide_eq_false h]; rfl
theorem sgn_eq (n : Nat) : (if ((n : Int) == 2) = true then (9 : Int) else 7) = ((sgs (decide (n = 2))).length : Int) := by
  by_cases h : n = 2
  · subst h; rfl
  · rw [if_neg (by simp; omega), decide_eq_false h]; rfl
section
variable {w : World} {c : Cfg} {m : Vars} {l : Led} {Q : Value → Vars → Led → Prop}
theorem J_addC {x : Nat} {a b : List Nat} {t u : Tok} (hz : a.length + b.length < 10000) (h : ∀ t, Q (.str (Sx (x :: (a ++ b))) t) m l) : J w c (binaryOp .Add (.str (Sx (x :: a)) t) (.str (Sx b) u)) Q m l :=
  J_adds (by rw [Sx_len, Sx_len, List.length_cons]; omega) fun t => by rw [Sx_app]; exact h t
theorem J_addX {a b : List Nat} {t u : Tok} (hz : a.length + b.length < 10000) (h : ∀ t, Q (.str (Sx (a ++ b)) t) m l) : J w c (binaryOp .Add (.str (Sx a) t) (.str (Sx b) u)) Q m l :=
  J_adds (by rw [Sx_len, Sx_len]; omega) fun t => by rw [Sx_app]; exact h t
end
section
variable {w : World} {c : Cfg} {m : Vars} {l : Led} {Q : Value → Vars → Led → Prop}
theorem J_addCl {x : Nat} {a b : List Nat} {y : PySem.Str} {t u : Tok} (hy : y.cps.toList = b) (hz : a.length + b.length < 10000) (h : ∀ t, Q (.str (Sx (x :: (a ++ b))) t) m l) : J w c (binaryOp .Add (.str (Sx (x :: a)) t) (.str y u)) Q m l := by
  rw [eq_Sx hy]; exact J_addC hz h
theorem J_isE {d : Nat} {wv : Value} (h1 : d < 4 → ∃ t, wv = .str (Sx (wor d)) t) (h2 : d = 4 → wv = .none) (hd : d < 5) (h : Q (.bool (decide (4 ≤ d))) m l) : J w c (compareOp .Is wv .none) Q m l := by
  by_cases e : d < 4
  · obtain ⟨t, rfl⟩ := h1 e
    exact J_isN ((decide_eq_false (Nat.not_le_of_lt e)).symm ▸ h)
  · obtain rfl : d = 4 := by omega
    rw [h2 rfl]
    exact J_isNN h
theorem pick_w {P : Prop} [Decidable P] {t u : Sem Value} {C : PySem.Str} (h1 : P → J w c t (fun v m' l' => (∃ t, v = .str C t) ∧ m' = m ∧ l' = l) m l) (h2 : ¬ P → J w c u (fun v m' l' => (∃ t, v = .str C t) ∧ m' = m ∧ l' = l) m l)
    (h : ∀ t, Q (.str C t) m l) : if decide P = true then J w c t Q m l else J w c u Q m l := by
  by_cases e : P
  · exact ite_dt e ((h1 e).mono fun v m' l' ⟨⟨t, e1⟩, e2, e3⟩ => e1 ▸ e2 ▸ e3 ▸ h t)
  · exact ite_df e ((h2 e).mono fun v m' l' ⟨⟨t, e1⟩, e2, e3⟩ => e1 ▸ e2 ▸ e3 ▸ h t)
theorem dat4 {nf : Led} {a fa : Addr} {o : Obj} {i j k i' j' k' : Int} {t u v : Tok} {D : Dat} (h : (a, o) ∈ nf) (e : o = tupO [.int i t, .int j u, .int k v, .ref fa] 0) (hi : i = i') (hj : j = j') (hk : k = k') (hf : DatIn nf (.ref fa) D) : DatIn nf (.ref a) (.tuple [.int i', .int j', .int k', D]) := by
  subst e; subst hi; subst hj; subst hk; exact .tuple h (.cons (.int _ _) (.cons (.int _ _) (.cons (.int _ _) (.cons hf .nil))))
theorem J_newTv {vs : List Value} (h : ∀ a o, o = tupO vs 0 → (∀ p ∈ l, p.1 < a) → Q (.ref a) m ((a, o) :: l)) (hz : Nat.ble vs.length 1000 = true := by rfl) : J w c (newTuple vs) Q m l := J_newT (fun a ha => h a _ rfl ha) (Nat.le_of_ble_eq_true hz)
theorem dat2 {nf : Led} {a : Addr} {o : Obj} {i j i' j' : Int} {t u : Tok} (h : (a, o) ∈ nf) (e : o = tupO [.int i t, .int j u] 0) (hi : i = i') (hj : j = j') : DatIn nf (.ref a) (.tuple [.int i', .int j']) := by
  subst e; subst hi; subst hj; exact .tuple h (.cons (.int _ _) (.cons (.int _ _) .nil))
end


theorem pl_ge (n : Nat) : 24 ≤ pl n := by cases n <;> simp [pl]
theorem pl_le {n : Nat} (h : n ≤ 2) : pl n ≤ 700 := by
  match n, h with
  | 0, _ | 1, _ | 2, _ => decide
section
variable {w : World} {c : Cfg} {m : Vars} {l : Led} {Q : Value → Vars → Led → Prop}
theorem J_addl {a b : List Nat} {y : PySem.Str} {t u : Tok} (hy : y.cps.toList = a) (hz : a.length + b.length < 10000) (h : ∀ t, Q (.str (Sx (a ++ b)) t) m l) : J w c (binaryOp .Add (.str y t) (.str (Sx b) u)) Q m l := by
  rw [eq_Sx hy]; exact J_addX hz h
end
theorem inn_sl (n : Nat) {i : Nat} (h : i < 3) : bl i .nil + 3 ≤ sl_ n := by
  have : bl i .nil ≤ 5 := by
    match i, h with
    | 0, _ | 1, _ | 2, _ => decide
  cases n with
  | zero => simp only [sl_]; omega
  | succ n => have := pl_ge n; simp only [sl_]; omega
section
def NB (wd : Addr) (r : Led) (a : Addr) : Prop := wd < a ∧ ∀ q' ∈ r, q'.1 < a
theorem NB.of {wd a : Addr} {wo : Obj} {r l : Led} (h : ∀ p ∈ l, p.1 < a) (hl : ∀ q ∈ (wd, wo) :: r, q ∈ l) : NB wd r a := ⟨h _ (hl _ (.head _)), fun q hq => h q (hl _ (.tail _ hq))⟩
theorem dS {nf : Led} {x : PySem.Str} {y : List Nat} {t : Tok} (h : x.cps.toList = y) : DatIn nf (.str x t) (.str (Sx y)) := eq_Sx h ▸ .str _ _
theorem datTup {nf : Led} {x : Addr} {ds : List Dat} (h : DatIn nf (.ref x) (.tuple ds)) : ∃ vs n, (x, tupO vs n) ∈ nf ∧ DatAll nf vs ds := by cases h with | tuple a b => exact ⟨_, _, a, b⟩
theorem datCons {nf : Led} {vs : List Value} {d : Dat} {ds : List Dat} (h : DatAll nf vs (d :: ds)) : ∃ v vs', vs = v :: vs' ∧ DatIn nf v d ∧ DatAll nf vs' ds := by cases h with | cons a b => exact ⟨_, _, rfl, a, b⟩
theorem datNil {nf : Led} {vs : List Value} (h : DatAll nf vs []) : vs = [] := by cases h; rfl
theorem datStr {nf : Led} {v : Value} {x : PySem.Str} (h : DatIn nf v (.str x)) : ∃ t, v = .str x t := by cases h; exact ⟨_, rfl⟩
theorem datRefL {nf : Led} {v : Value} {ds : List Dat} (h : DatIn nf v (.list ds)) : ∃ a vs n, v = .ref a ∧ (a, W.listOf vs.toArray n) ∈ nf ∧ DatAll nf vs ds := by cases h with | list a b => exact ⟨_, _, _, rfl, a, b⟩
theorem datRefT {nf : Led} {v : Value} {ds : List Dat} (h : DatIn nf v (.tuple ds)) : ∃ a, v = .ref a := by cases h with | tuple a b => exact ⟨_, rfl⟩
theorem dat3 {nf : Led} {a : Addr} {o : Obj} {v1 v2 v3 : Value} {d1 d2 d3 : Dat} (h : (a, o) ∈ nf) (e : o = tupO [v1, v2, v3] 0) (h1 : DatIn nf v1 d1) (h2 : DatIn nf v2 d2) (h3 : DatIn nf v3 d3) : DatIn nf (.ref a) (.tuple [d1, d2, d3]) := by
  subst e; exact .tuple h (.cons h1 (.cons h2 (.cons h3 .nil)))
theorem dI {nf : Led} {i j : Int} {t : Tok} (h : i = j) : DatIn nf (.int i t) (.int j) := h ▸ .int _ _
/-- what _law_inner gives back -/
def innD (i : Nat) (q : Ps) (h dp : Nat) : Dat := .tuple [.str (Sx (bodyOf i (rend q))), .list (inToks i (pcs q [] (h + 2)) h), .list ((if i < 3 then [] else flt q (h + 2) (h + 1) (dp + 1)).map fD)]
variable {w : World}
set_option maxHeartbeats 4000000 in
theorem linner (n : Nat) (IH : ∀ n', n = n' + 1 → LStr w n') {c : Cfg} {m : Vars} {r : Led} {k : Nat} {wd cla : Addr} {wo : Obj} {a h dp : Nat} {t1 t2 t3 : Tok} {Q : Value → Vars → Led → Prop} (G : Good w c (k + (2 * n + 3))) (hn2 : n ≤ 2) (hW : Wh w wo cla a) (hB0 : WB cla r) (hr : ∀ p ∈ r, p.1 ≠ wd) (ha : a + st_ n ≤ 10001)
    (ret : ∀ i q x nf wo' a', a' + 1 ≤ a + st_ n → i < 4 → (3 ≤ i → wf false q ∧ nest q + 1 ≤ n) → bl i q + 3 ≤ sl_ n → (∀ q ∈ nf, NB wd r q.1) → Wh w wo' cla a' → DatIn nf (.ref x) (innD i q h dp) → Q (.ref x) m (nf ++ (wd, wo') :: r)) :
    J w c (call (.ref 191) [.ref wd, .int (h : Int) t1, .int (dp : Int) t2, .int (n : Int) t3]) Q m ((wd, wo) :: r) := by
  have hB : Binds [(Str.ofString "wheel", .ref wd), (Str.ofString "here", .int (h : Int) t1), (Str.ofString "depth", .int (dp : Int) t2), (Str.ofString "deep", .int (n : Int) t3)] := trivial
  have G : Good w c (k + 2 * n + 2 + 1) := by rwa [show k + 2 * n + 2 + 1 = k + (2 * n + 3) by omega]
  walk_at "en"
  intro c' G' C' he'
  walk_at "jj"
  refine pick_int (C := ((if 0 < n then 4 else 3 : Nat) : Int)) (by cases n with | zero => rfl | succ n => rw [if_pos (by simp), if_pos (Nat.succ_pos n)]; rfl) fun tm => ?_
  walk_at "jj"
  have hst3 := st_ge n
  refine turnN (k := k + 2 * n + 1) G' rfl hW hB0 hr (by omega) (by split <;> decide) fun way hway tw wo1 hW1 => ?_
  walk_at "jj"
  by_cases h0 : way = 0
  · subst h0
    refine ite_bt rfl ?_
    walk_at "jj"
    show J w c' (newTuple _) _ _ _
    refine J_newTv fun b0 p0 e0 f0 => ?_
    walk_at "jj"
    show J w c' (newList _) _ _ _
    refine J_newL (fun a2 hf2 => ?_) (Nat.le_of_ble_eq_true rfl)
    walk_at "jj"
    show J w c' (newList _) _ _ _
    refine J_newL (fun a3 hf3 => ?_) (Nat.le_of_ble_eq_true rfl)
    walk_at "jj"
    show J w c' (newTuple _) _ _ _
    refine J_newTv fun a4 o4 ho4 hf4 => ?_
    exact ret 0 .nil a4 [(a4, o4), (a3, W.listOf [].toArray 0), (a2, W.listOf [.ref b0].toArray 0), (b0, p0)] wo1 (a + 1) (by omega) (by decide) (fun h => absurd h (by decide)) (inn_sl n (by decide)) (List.forall_mem_cons.mpr ⟨NB.of hf4 fun q hq => .tail _ (.tail _ (.tail _ (hq))), List.forall_mem_cons.mpr ⟨NB.of hf3 fun q hq => .tail _ (.tail _ (hq)), List.forall_mem_cons.mpr ⟨NB.of hf2 fun q hq => .tail _ (hq), List.forall_mem_cons.mpr ⟨NB.of f0 fun q hq => hq, fun _ h => by cases h⟩⟩⟩⟩) hW1
      (dat3 (.head _) ho4 (dS rfl) (.list (.tail _ (.tail _ (.head _))) (.cons (dat3 (.tail _ (.tail _ (.tail _ (.head _)))) e0 (.str _ _) (dS rfl) (dI rfl)) .nil)) (.list (.tail _ (.head _)) .nil))
  refine ite_bf (by simp; omega) ?_
  walk_at "jj"
  by_cases h1 : way = 1
  · subst h1
    refine ite_bt rfl ?_
    walk_at "jj"
    show J w c' (newTuple _) _ _ _
    refine J_newTv fun b0 p0 e0 f0 => ?_
    walk_at "jj"
    show J w c' (newTuple _) _ _ _
    refine J_newTv fun b1 p1 e1 f1 => ?_
    walk_at "jj"
    show J w c' (newTuple _) _ _ _
    refine J_newTv fun b2 p2 e2 f2 => ?_
    walk_at "jj"
    show J w c' (newList _) _ _ _
    refine J_newL (fun a2 hf2 => ?_) (Nat.le_of_ble_eq_true rfl)
    walk_at "jj"
    show J w c' (newList _) _ _ _
    refine J_newL (fun a3 hf3 => ?_) (Nat.le_of_ble_eq_true rfl)
    walk_at "jj"
    show J w c' (newTuple _) _ _ _
    refine J_newTv fun a4 o4 ho4 hf4 => ?_
    exact ret 1 .nil a4 [(a4, o4), (a3, W.listOf [].toArray 0), (a2, W.listOf [.ref b0, .ref b1, .ref b2].toArray 0), (b2, p2), (b1, p1), (b0, p0)] wo1 (a + 1) (by omega) (by decide) (fun h => absurd h (by decide)) (inn_sl n (by decide)) (List.forall_mem_cons.mpr ⟨NB.of hf4 fun q hq => .tail _ (.tail _ (.tail _ (.tail _ (.tail _ (hq))))), List.forall_mem_cons.mpr ⟨NB.of hf3 fun q hq => .tail _ (.tail _ (.tail _ (.tail _ (hq)))), List.forall_mem_cons.mpr ⟨NB.of hf2 fun q hq => .tail _ (.tail _ (.tail _ (hq))), List.forall_mem_cons.mpr ⟨NB.of f2 fun q hq => .tail _ (.tail _ (hq)), List.forall_mem_cons.mpr ⟨NB.of f1 fun q hq => .tail _ (hq), List.forall_mem_cons.mpr ⟨NB.of f0 fun q hq => hq, fun _ h => by cases h⟩⟩⟩⟩⟩⟩) hW1
      (dat3 (.head _) ho4 (dS rfl) (.list (.tail _ (.tail _ (.head _))) (.cons (dat3 (.tail _ (.tail _ (.tail _ (.tail _ (.tail _ (.head _)))))) e0 (.str _ _) (dI rfl) (dI rfl)) (.cons (dat3 (.tail _ (.tail _ (.tail _ (.tail _ (.head _))))) e1 (.str _ _) (dS rfl) (dI rfl)) (.cons (dat3 (.tail _ (.tail _ (.tail _ (.head _)))) e2 (.str _ _) (dS rfl) (dI rfl)) .nil)))) (.list (.tail _ (.head _)) .nil))
  refine ite_bf (by simp; omega) ?_
  walk_at "jj"
  by_cases h2 : way = 2
  · subst h2
    refine ite_bt rfl ?_
    walk_at "jj"
    show J w c' (newTuple _) _ _ _
    refine J_newTv fun b0 p0 e0 f0 => ?_
    walk_at "jj"
    show J w c' (newTuple _) _ _ _
    refine J_newTv fun b1 p1 e1 f1 => ?_
    walk_at "jj"
    show J w c' (newTuple _) _ _ _
    refine J_newTv fun b2 p2 e2 f2 => ?_
    walk_at "jj"
    show J w c' (newList _) _ _ _
    refine J_newL (fun a2 hf2 => ?_) (Nat.le_of_ble_eq_true rfl)
    walk_at "jj"
    show J w c' (newList _) _ _ _
    refine J_newL (fun a3 hf3 => ?_) (Nat.le_of_ble_eq_true rfl)
    walk_at "jj"
    show J w c' (newTuple _) _ _ _
    refine J_newTv fun a4 o4 ho4 hf4 => ?_
    exact ret 2 .nil a4 [(a4, o4), (a3, W.listOf [].toArray 0), (a2, W.listOf [.ref b0, .ref b1, .ref b2].toArray 0), (b2, p2), (b1, p1), (b0, p0)] wo1 (a + 1) (by omega) (by decide) (fun h => absurd h (by decide)) (inn_sl n (by decide)) (List.forall_mem_cons.mpr ⟨NB.of hf4 fun q hq => .tail _ (.tail _ (.tail _ (.tail _ (.tail _ (hq))))), List.forall_mem_cons.mpr ⟨NB.of hf3 fun q hq => .tail _ (.tail _ (.tail _ (.tail _ (hq)))), List.forall_mem_cons.mpr ⟨NB.of hf2 fun q hq => .tail _ (.tail _ (.tail _ (hq))), List.forall_mem_cons.mpr ⟨NB.of f2 fun q hq => .tail _ (.tail _ (hq)), List.forall_mem_cons.mpr ⟨NB.of f1 fun q hq => .tail _ (hq), List.forall_mem_cons.mpr ⟨NB.of f0 fun q hq => hq, fun _ h => by cases h⟩⟩⟩⟩⟩⟩) hW1
      (dat3 (.head _) ho4 (dS rfl) (.list (.tail _ (.tail _ (.head _))) (.cons (dat3 (.tail _ (.tail _ (.tail _ (.tail _ (.tail _ (.head _)))))) e0 (.str _ _) (dS rfl) (dI rfl)) (.cons (dat3 (.tail _ (.tail _ (.tail _ (.tail _ (.head _))))) e1 (.str _ _) (dS rfl) (dI rfl)) (.cons (dat3 (.tail _ (.tail _ (.tail _ (.head _)))) e2 (.str _ _) (dS rfl) (dI rfl)) .nil)))) (.list (.tail _ (.head _)) .nil))
  refine ite_bf (by simp; omega) ?_
  walk_at "jj"
  have hn0 : 0 < n := by
    by_cases e : 0 < n
    · exact e
    · rw [if_neg e] at hway; omega
  obtain ⟨n', rfl⟩ : ∃ n', n = n' + 1 := ⟨n - 1, by omega⟩
  show J w c' (call (.ref 196) [.ref wd, .int ((h : Int) + 1) _, .int ((dp : Int) + 1) _, .int (((n' + 1 : Nat) : Int) - 1) _]) _ _ _
  rw [show (h : Int) + 1 = ((h + 1 : Nat) : Int) from rfl, show (dp : Int) + 1 = ((dp + 1 : Nat) : Int) from rfl, show ((n' + 1 : Nat) : Int) - 1 = (n' : Int) by omega]
  have hst : st_ (n' + 1) = dr n' + 2 := rfl
  have hsl : sl_ (n' + 1) = pl n' + 6 := rfl
  refine IH n' rfl (k := k) ((show k + 2 * (n' + 1) + 2 = k + (2 * n' + 4) by omega) ▸ G') (by omega) hW1 hB0 hr (by omega) fun ps x nf wo' a' ha' hwf hne hpl hfr hW' hD => ?_
  obtain ⟨vs, nn, hx, hv⟩ := datTup hD
  obtain ⟨v1, _, rfl, d1, hv⟩ := datCons hv
  obtain ⟨v2, _, rfl, d2, hv⟩ := datCons hv
  obtain ⟨v3, _, rfl, d3, hv⟩ := datCons hv
  obtain ⟨v4, _, rfl, d4, hv⟩ := datCons hv
  obtain rfl := datNil hv
  obtain ⟨tt, rfl⟩ := datStr d1
  refine J_unp G' (List.mem_append_left _ hx) ?_
  show J w c' (assignInOrder [assign (.Name (Str.ofString "text") _) _, assign (.Name (Str.ofString "token") _) _, assign (.Name (Str.ofString "faults") _) _, assign (.Name (Str.ofString "spans") _) _] _) _ _ _
  walk_at "jj"
  refine J_addl (a := [32]) rfl (by simp only [List.length_cons, List.length_append, List.length_nil]; have := pl_le (n := n') (by omega); have hpl2 : (rend ps).length ≤ pl n' := hpl; omega) fun t6 => ?_
  walk_at "jj"
  show J w c' (newList _) _ _ _
  refine J_newL (fun a2 hf2 => ?_) (Nat.le_of_ble_eq_true rfl)
  walk_at "jj"
  show J w c' (newTuple _) _ _ _
  refine J_newTv fun a4 o4 ho4 hf4 => ?_
  refine ret 3 ps a4 ((a4, o4) :: (a2, W.listOf [v2].toArray 0) :: nf) wo' a' (by omega) (by decide) (fun _ => ⟨decide_eq_false (show ¬ n' = 2 by omega) ▸ hwf, Nat.succ_le_succ hne⟩) (by rw [bl_str ps (Nat.le_refl 3)]; omega)
    (List.forall_mem_cons.mpr ⟨NB.of hf4 fun q hq => .tail _ (List.mem_append_right _ hq), List.forall_mem_cons.mpr ⟨NB.of hf2 fun q hq => List.mem_append_right _ hq, hfr⟩⟩) hW'
    (dat3 (.head _) ho4 (.str _ _) (.list (.tail _ (.head _)) (.cons (d2.mono fun q hq => .tail _ (.tail _ hq)) .nil)) (d3.mono fun q hq => .tail _ (.tail _ hq)))
end


theorem NA.ofNB {wd sa I a : Addr} {so o : Obj} {nf r : Led} (h : NB wd ((sa, so) :: (nf ++ (I, o) :: r)) a) : NA wd sa I r a :=
  ⟨h.1, fun q hq => h.2 q (.tail _ (List.mem_append_right _ (.tail _ hq))), Nat.ne_of_gt (h.2 _ (.head _)), Nat.ne_of_gt (h.2 _ (.tail _ (List.mem_append_right _ (.head _))))⟩
section
variable {w : World} {c : Cfg} {m : Vars} {l : Led}
theorem pickF {b : Bool} {t u : Sem Value} {Q : KV} (fs1 fs2 : List (Nat × Nat)) (NF : Led)
    (h1 : b = true → J w c t (fun v m' l' => m' = m ∧ ∃ fa nf3 fvs n3, v = .ref fa ∧ l' = nf3 ++ l ∧ (∀ q ∈ nf3, ∀ q' ∈ l, q'.1 < q.1) ∧ (fa, W.listOf fvs.toArray n3) ∈ nf3 ++ NF ∧ DatAll (nf3 ++ NF) fvs (fs1.map fD)) m l)
    (h2 : b = false → J w c u (fun v m' l' => m' = m ∧ ∃ fa nf3 fvs n3, v = .ref fa ∧ l' = nf3 ++ l ∧ (∀ q ∈ nf3, ∀ q' ∈ l, q'.1 < q.1) ∧ (fa, W.listOf fvs.toArray n3) ∈ nf3 ++ NF ∧ DatAll (nf3 ++ NF) fvs (fs2.map fD)) m l)
    (h : ∀ fa nf3 fvs n3, (∀ q ∈ nf3, ∀ q' ∈ l, q'.1 < q.1) → (fa, W.listOf fvs.toArray n3) ∈ nf3 ++ NF → DatAll (nf3 ++ NF) fvs ((if b = true then fs1 else fs2).map fD) → Q (.ref fa) m (nf3 ++ l)) : if b = true then J w c t Q m l else J w c u Q m l := by
  cases b
  · refine ite_f ((h2 rfl).mono ?_)
    rintro v m' l' ⟨rfl, fa, nf3, fvs, n3, rfl, rfl, h3, h4, h5⟩
    exact h fa nf3 fvs n3 h3 h4 h5
  · refine ite_t ((h1 rfl).mono ?_)
    rintro v m' l' ⟨rfl, fa, nf3, fvs, n3, rfl, rfl, h3, h4, h5⟩
    exact h fa nf3 fvs n3 h3 h4 h5
end
theorem FlatL.mono {l l' : Led} {vs out : List Value} (h : FlatL l vs out) (hs : ∀ q ∈ l, q ∈ l') : FlatL l' vs out := by
  induction h with
  | nil => exact .nil
  | cons a b _ ih => exact .cons (hs _ a) (hs _ b) ih
theorem flat_of {l : Led} : ∀ {R : List Row} {svs : List Value}, DatAll l svs (R.map rowD) → ∃ out, FlatL l svs out ∧ DatAll l out ((R.flatMap Row.fs).map fD)
  | [], svs, h => by
    obtain rfl := datNil h
    exact ⟨[], .nil, .nil⟩
  | row :: R, svs, h => by
    obtain ⟨v, vs, rfl, h1, h2⟩ := datCons h
    obtain ⟨out, h3, h4⟩ := flat_of h2
    obtain ⟨ta, rfl⟩ := datRefT h1
    obtain ⟨xs, nt, hx, hv⟩ := datTup h1
    obtain ⟨v1, _, rfl, d1, hv⟩ := datCons hv
    obtain ⟨v2, _, rfl, d2, hv⟩ := datCons hv
    obtain ⟨v3, _, rfl, d3, hv⟩ := datCons hv
    obtain ⟨v4, _, rfl, d4, hv⟩ := datCons hv
    obtain rfl := datNil hv
    obtain ⟨fl, fvs, nf, rfl, hf, d5⟩ := datRefL d4
    exact ⟨fvs ++ out, .cons hx hf h3, by rw [List.flatMap_cons, List.map_append]; exact DatAll.append d5 h4⟩
theorem flt_len : ∀ (ps : Ps) (p b dp : Nat), (flt ps p b dp).length ≤ plen ps
  | .nil, _, _, _ => Nat.zero_le _
  | .sg c r, p, b, dp => by
    have := flt_len r (p + 1) b dp
    rw [flt, List.length_append]
    have hl : plen (.sg c r) = plen r + 1 := by simp [rend, plen]
    split <;> simp only [List.length_cons, List.length_nil] <;> omega
  | .es k r, p, b, dp => by
    have := flt_len r (p + 2) b dp
    rw [flt, List.length_append]
    have hl : plen (.es k r) = plen r + 2 := by simp [rend, plen]
    split <;> simp only [List.length_cons, List.length_nil] <;> omega
  | .inn i q r, p, b, dp => by
    have := flt_len r (p + 3 + bl i q) b dp
    have h2 := flt_len q (p + 4) (p + 3) (dp + 1)
    rw [flt, List.length_append, plen_inn, flt1]
    split
    · simp only [List.length_cons, List.length_nil]; omega
    · split
      · simp only [List.length_nil]; omega
      · have := bl_str q (show 3 ≤ i by omega); omega
theorem dat4g {nf : Led} {a : Addr} {o : Obj} {v1 v2 v3 v4 : Value} {d1 d2 d3 d4 : Dat} (h : (a, o) ∈ nf) (e : o = tupO [v1, v2, v3, v4] 0) (h1 : DatIn nf v1 d1) (h2 : DatIn nf v2 d2) (h3 : DatIn nf v3 d3) (h4 : DatIn nf v4 d4) : DatIn nf (.ref a) (.tuple [d1, d2, d3, d4]) := by
  subst e; exact .tuple h (.cons h1 (.cons h2 (.cons h3 (.cons h4 .nil))))
section
variable {w : World}
set_option maxHeartbeats 4000000 in
theorem lstr_step (n : Nat) (IH : ∀ n', n = n' + 1 → LStr w n') : LStr w n := by
  intro c m r k wd cla wo a b dp t1 t2 t3 Q G hn2 hW hB0 hr ha ret
  have hB : Binds [(Str.ofString "wheel", .ref wd), (Str.ofString "begin", .int (b : Int) t1), (Str.ofString "depth", .int (dp : Int) t2), (Str.ofString "deep", .int (n : Int) t3)] := trivial
  have G : Good w c (k + 2 * n + 3 + 1) := by rwa [show k + 2 * n + 3 + 1 = k + (2 * n + 4) by omega]
  walk_at "en"
  intro c' G' C' he'
  walk_at "jj"
  show J w c' (newList _) _ _ _
  refine J_newL (fun pa hpa => ?_) (Nat.le_of_ble_eq_true rfl)
  walk_at "jj"
  show J w c' (newList _) _ _ _
  refine J_newL (fun sa hsa => ?_) (Nat.le_of_ble_eq_true rfl)
  walk_at "jj"
  show J w c' (newTuple _) _ _ _
  refine J_newT (fun ta hta => ?_) (Nat.le_of_ble_eq_true rfl)
  refine J_unp G' (.head _) ?_
  show J w c' (assignInOrder [assign (.Name (Str.ofString "text") _) _, assign (.Name (Str.ofString "pieces") _) _, assign (.Name (Str.ofString "found") _) _, assign (.Name (Str.ofString "spans") _) _] _) _ _ _
  walk_at "jj"
  have hwp : wd < pa := hpa (wd, wo) (.head _)
  have hws : wd < sa := hsa (wd, wo) (.tail _ (.head _))
  have hps : pa < sa := hsa (pa, _) (.head _)
  have hrs : ∀ q ∈ r, q.1 < sa := fun q hq => hsa q (.tail _ (.tail _ hq))
  have hrp : ∀ q ∈ r, q.1 < pa := fun q hq => hpa q (.tail _ hq)
  refine J.sub (l' := (wd, wo) :: (sa, W.listOf #[] 0) :: ([(pa, W.listOf #[] 0)] ++ r)) ?_ (by
    intro q hq
    rcases List.mem_cons.mp hq with rfl | hq
    · exact .tail _ (.tail _ (.tail _ (.head _)))
    rcases List.mem_cons.mp hq with rfl | hq
    · exact .tail _ (.head _)
    rcases List.mem_cons.mp hq with rfl | hq
    · exact .tail _ (.tail _ (.head _))
    · exact .tail _ (.tail _ (.tail _ (.tail _ hq))))
  refine J_forR G' he' ?_
  walk_at "jj"
  have hr2 : ∀ q ∈ (sa, W.listOf #[] 0) :: ([(pa, W.listOf #[] 0)] ++ r), q.1 ≠ wd := by
    intro q hq
    rcases List.mem_cons.mp hq with rfl | hq
    · exact Nat.ne_of_gt hws
    rcases List.mem_cons.mp hq with rfl | hq
    · exact Nat.ne_of_gt hwp
    · exact hr q hq
  refine turnN (k := k + 2 * n + 2) (many := 5) G' rfl hW (hB0.mono fun q hq => .tail _ (.tail _ hq)) hr2 (by omega) (by omega) fun d hd td wo1 hW1 => ?_
  walk_at "jj"
  refine J_range1 fun rg tg ug hrg => ?_
  refine ⟨rg, 0, (d : Int), _, _, _, rfl, .head _, by omega, by omega, LI w wd cla sa r b dp n a, ?_, ?_, ?_⟩
  · exact .mk (nf := [(rg, _), (pa, _)]) (pvs := []) (svs := []) .nil (by walk_at "lk") (by walk_at "lk") (by walk_at "lk") (by walk_at "lk") (by walk_at "lk") (by walk_at "lk") (by walk_at "lk") (by walk_at "lk")
      hW1 (Nat.le_add_right _ _) (Nat.zero_le _) (by decide) (Nat.zero_le _) rfl (.tail _ (.head _)) .nil .nil
      (by
        have h1 : ∀ q ∈ r, q.1 < rg := fun q hq => hrg q (.tail _ (.tail _ (.tail _ hq)))
        exact List.forall_mem_cons.mpr ⟨⟨hrg (wd, _) (.head _), h1, Nat.ne_of_gt (hrg (sa, _) (.tail _ (.head _)))⟩, List.forall_mem_cons.mpr ⟨⟨hwp, hrp, Nat.ne_of_lt hps⟩, fun _ h => by cases h⟩⟩) fun q hq => sw3 q (sw3 q hq)
  · intro I i m l t o hi hI off
    cases hI
    rename_i F T fnd P R pa pvs svs nn n2 nf wo2 a2 t1 t2 t3 t4 t5 hp v1 v2 v3 v4 v5 v6 v7 v8 hw hA hT hi4 hpv hsv hpa dP dS fr hl
    refine J.sub (l' := (wd, wo2) :: (sa, W.listOf svs.toArray nn) :: (nf ++ (I, o) :: r)) ?_ (by
      intro q hq
      rcases List.mem_cons.mp hq with rfl | hq
      · exact .tail _ (hl _ (.head _))
      rcases List.mem_cons.mp hq with rfl | hq
      · exact .tail _ (hl _ (.tail _ (.head _)))
      rcases List.mem_append.mp hq with hq | hq
      · exact .tail _ (hl _ (.tail _ (.tail _ (List.mem_append_left _ hq))))
      rcases List.mem_cons.mp hq with rfl | hq
      · exact .head _
      · exact .tail _ (hl _ (.tail _ (.tail _ (List.mem_append_right _ hq)))))
    have hi5 : i < 4 := by omega
    have hst : (i + 1) * st_ n = i * st_ n + st_ n := Nat.succ_mul _ _
    have hsl : (i + 1) * sl_ n = i * sl_ n + sl_ n := Nat.succ_mul _ _
    have hsl2 := sl_le hn2
    have hst2 : (i + 1) * st_ n ≤ 4 * st_ n := Nat.mul_le_mul_right _ (by omega)
    have hst3 := st_ge n
    have hsl3 : (i + 1) * sl_ n ≤ 4 * sl_ n := Nat.mul_le_mul_right _ (by omega)
    have hdr := dr_eq n
    have hIw : I ≠ wd := fun e => off _ (hl _ (.head _)) e.symm
    have frN : ∀ q ∈ nf, NA wd sa I r q.1 := fun q hq => ⟨(fr q hq).1, (fr q hq).2.1, (fr q hq).2.2, off _ (hl _ (.tail _ (.tail _ (List.mem_append_left _ hq))))⟩
    have hr3 := ne_wd (so := W.listOf svs.toArray nn) (o := o) hws frN hIw hr
    have hB3 : WB cla ((sa, W.listOf svs.toArray nn) :: (nf ++ (I, o) :: r)) := hB0.mono fun q hq => .tail _ (List.mem_append_right _ (.tail _ hq))
    walk_at "jj"
    refine turnN (k := k + 2 * n + 2) (many := 3) G' rfl hw hB3 hr3 (by omega) (by omega) fun way hway tw wo3 hW3 => ?_
    walk_at "jj"
    refine J_lenS (by rw [Sx_len, List.length_cons]; omega) fun tl => ?_
    walk_at "jj"
    show J w c' (newList _) _ _ _
    refine J_newL (fun f0 hf0 => ?_) (Nat.le_of_ble_eq_true rfl)
    walk_at "jj"
    show J w c' (newTuple _) _ _ _
    refine J_newT (fun ta2 hta2 => ?_) (Nat.le_of_ble_eq_true rfl)
    rw [show (b : Int) + ((Sx (34 :: T)).length : Int) = ((b + 1 + T.length : Nat) : Int) by rw [Sx_len, List.length_cons]; omega]
    refine J_unpI G' (.head _) rfl ?_
    refine J_aio ?_
    walk_at "jj"
    refine J_aio ?_
    walk_at "jj"
    refine J_aio ?_
    walk_at "jj"
    have hN0 : NA wd sa I r f0 := NA.of hf0 fun q hq => hq
    refine J.sub (l' := (wd, wo3) :: (sa, W.listOf svs.toArray nn) :: ((f0, W.listOf #[] 0) :: nf ++ (I, o) :: r)) ?_ (fun q hq => .tail _ (sw3 q (sw3 q hq)))
    refine J_aio0 ?_
    walk_at "jj"
    have frN1 : ∀ q ∈ (f0, W.listOf #[] 0) :: nf, NA wd sa I r q.1 := List.forall_mem_cons.mpr ⟨hN0, frN⟩
    have hr4 := ne_wd (so := W.listOf svs.toArray nn) (o := o) hws frN1 hIw hr
    refine ite_mono (Q' := LM w wd cla sa I o r b dp n a svs nn R i) ?_ ?_
    · have hTb : T.length ≤ 700 := by omega
      have hfb : fnd.length ≤ 700 := by have := hp.fl; omega
      have hB4 : WB cla ((sa, W.listOf svs.toArray nn) :: ((f0, W.listOf #[] 0) :: nf ++ (I, o) :: r)) := hB0.mono fun q hq => .tail _ (List.mem_append_right _ (.tail _ hq))
      by_cases h0 : way = 0
      · subst h0
        refine ite_bt rfl ?_
        walk_at "jj"
        refine pick_str (sgs_eq n) fun ts => ?_
        walk_at "jj"
        refine pick_int (sgn_eq n) fun tm => ?_
        walk_at "jj"
        refine turnN (k := k + 2 * n + 2) G' rfl hW3 hB4 hr4 (by omega) (by cases decide (n = 2) <;> decide) fun d hd td wo4 hW4 => ?_
        obtain ⟨ch, hch⟩ : ∃ ch, (sgs (decide (n = 2)))[d]? = some ch := ⟨_, List.getElem?_eq_getElem hd⟩
        have hmem : ch ∈ sgs (decide (n = 2)) := List.mem_of_getElem? hch
        walk_at "jj"
        refine J_isubL (by cases decide (n = 2) <;> decide) hch fun tc => ?_
        walk_at "jj"
        refine J_addC (by simp only [List.length_cons, List.length_nil]; omega) fun t6 => ?_
        walk_at "jj"
        refine J_addX (by simp only [List.length_cons, List.length_nil]; omega) fun t7 => ?_
        walk_at "jj"
        show J w c' (newTuple _) _ _ _
        refine J_newT (fun ta3 hta3 => ?_) (Nat.le_of_ble_eq_true rfl)
        refine J_unpI G' (.head _) rfl ?_
        refine J_aio ?_
        walk_at "jj"
        refine J_aio ?_
        walk_at "jj"
        refine J_aio0 ?_
        walk_at "jj"
        refine J_eqL (ys := [10]) rfl rfl ?_
        walk_at "jj"
        have hlen : (T ++ [ch]).length ≤ (i + 1) * sl_ n := by simp only [List.length_append, List.length_cons, List.length_nil]; have := sl_ge n; omega
        by_cases hc : ch = 10
        · refine ite_dt (by rw [hc]) ?_
          walk_at "jj"
          show J w c' (newTuple _) _ _ _
          refine J_newTv fun tf tto htto htf => ?_
          walk_at "jj"
          show J w c' (newList _) _ _ _
          refine J_newL (fun fl hfl => ?_) (Nat.le_of_ble_eq_true rfl)
          walk_at "jj"
          have hp2 := hp.sg hmem
          rw [if_pos hc] at hp2
          refine' LM.mk (T := T ++ [ch]) (fnd := fnd ++ [ch]) (way := 0) (here := b + 1 + T.length) (fvs := [.ref tf]) (n3 := 0) (nf := (fl, W.listOf [.ref tf].toArray 0) :: (tf, tto) :: (f0, W.listOf #[] 0) :: nf) hp2 ?av0 ?av1 ?av2 ?av3 ?av4 ?av5 ?av6 ?av7 ?av8 ?av9 ?av10 hW4 ?aw1 hlen ?aw2 (.tail _ (.tail _ (.tail _ (hpa)))) (dP.mono fun q hq => .tail _ (.tail _ (.tail _ (hq)))) (dS.mono fun q hq => .tail _ (.tail _ (.tail _ (hq)))) (.head _) ?aw3 ?aw4 ?aw5
          case aw1 => omega
          case aw2 => omega
          case aw3 => exact .cons (dat2 (.tail _ (.head _)) htto rfl rfl) .nil
          case aw4 => exact List.forall_mem_cons.mpr ⟨NA.of (fun p hp => hfl p (.tail _ (.tail _ hp))) fun q hq => hq, List.forall_mem_cons.mpr ⟨NA.of (fun p hp => htf p (.tail _ hp)) fun q hq => hq, frN1⟩⟩
          case aw5 => exact reo (reo fun q hq => .tail _ hq)
          case av0 => walk_at "lk"
          case av1 => walk_at "lk"
          case av2 => walk_at "lk"
          case av3 => walk_at "lk"
          case av4 => walk_at "lk"
          case av5 => walk_at "lk"
          case av6 => walk_at "lk"
          case av7 => walk_at "lk"
          case av8 => walk_at "lk"
          case av9 => walk_at "lk"
          case av10 => walk_at "lk"
        · refine ite_df (by simp [hc]) ?_
          walk_at "jj"
          show J w c' (newList _) _ _ _
          refine J_newL (fun fl hfl => ?_) (Nat.le_of_ble_eq_true rfl)
          walk_at "jj"
          have hp2 := hp.sg hmem
          rw [if_neg hc] at hp2
          refine' LM.mk (T := T ++ [ch]) (fnd := fnd ++ [ch]) (way := 0) (here := b + 1 + T.length) (fvs := []) (n3 := 0) (nf := (fl, W.listOf [].toArray 0) :: (f0, W.listOf #[] 0) :: nf) hp2 ?bv0 ?bv1 ?bv2 ?bv3 ?bv4 ?bv5 ?bv6 ?bv7 ?bv8 ?bv9 ?bv10 hW4 ?bw1 hlen ?bw2 (.tail _ (.tail _ (hpa))) (dP.mono fun q hq => .tail _ (.tail _ (hq))) (dS.mono fun q hq => .tail _ (.tail _ (hq))) (.head _) ?bw3 ?bw4 ?bw5
          case bw1 => omega
          case bw2 => omega
          case bw3 => exact .nil
          case bw4 => exact List.forall_mem_cons.mpr ⟨NA.of (fun p hp => hfl p (.tail _ hp)) fun q hq => hq, frN1⟩
          case bw5 => exact reo fun q hq => .tail _ hq
          case bv0 => walk_at "lk"
          case bv1 => walk_at "lk"
          case bv2 => walk_at "lk"
          case bv3 => walk_at "lk"
          case bv4 => walk_at "lk"
          case bv5 => walk_at "lk"
          case bv6 => walk_at "lk"
          case bv7 => walk_at "lk"
          case bv8 => walk_at "lk"
          case bv9 => walk_at "lk"
          case bv10 => walk_at "lk"
      · refine ite_bf (by simp; omega) ?_
        walk_at "jj"
        by_cases h1 : way = 1
        · subst h1
          refine ite_bt rfl ?_
          walk_at "jj"
          refine turnN (k := k + 2 * n + 2) (many := 5) G' rfl hW3 hB4 hr4 (by omega) (by decide) fun d hd td wo4 hW4 => ?_
          walk_at "jj"
          show J w c' (subscriptTail _ _ _ _) _ _ _
          refine J_escI G' hd fun ea hE => ?_
          obtain ⟨te, wv, hKe, hE1, hE2⟩ := hE
          refine J_unpK G' hKe ?_
          show J w c' (assignInOrder [assign (.Name (Str.ofString "letter") _) _, assign (.Name (Str.ofString "worth") _) _] _) _ _ _
          walk_at "jj"
          refine J_addCl (b := [92]) rfl (by simp only [List.length_cons, List.length_nil]; omega) fun t6 => ?_
          walk_at "jj"
          refine J_addC (by simp only [List.length_append, List.length_cons, List.length_nil]; omega) fun t7 => ?_
          rw [List.append_assoc]
          walk_at "jj"
          refine J_isE hE1 hE2 hd ?_
          walk_at "jj"
          refine pick_w (C := Sx (wor d)) (fun h4 => J_str fun t => ⟨⟨t, ?_⟩, rfl, rfl⟩) (fun h4 => ?_) fun t8 => ?_
          · obtain rfl : d = 4 := by omega
            rfl
          · obtain ⟨t9, rfl⟩ := hE1 (by omega)
            walk_at "jj"
            exact ⟨⟨_, rfl⟩, rfl, rfl⟩
          walk_at "jj"
          have hwl : (wor d).length ≤ 1 := wor_le d
          refine J_addX (by omega) fun t9 => ?_
          walk_at "jj"
          show J w c' (newTuple _) _ _ _
          refine J_newT (fun ta3 hta3 => ?_) (Nat.le_of_ble_eq_true rfl)
          refine J_unpI G' (.head _) rfl ?_
          refine J_aio ?_
          walk_at "jj"
          refine J_aio ?_
          walk_at "jj"
          refine J_aio0 ?_
          walk_at "jj"
          refine J_isE hE1 hE2 hd ?_
          walk_at "jj"
          have hlen : (T ++ [92, esc d]).length ≤ (i + 1) * sl_ n := by simp only [List.length_append, List.length_cons, List.length_nil]; have := sl_ge n; omega
          have hp2 := hp.es hd
          by_cases hc : 4 ≤ d
          · refine ite_dt hc ?_
            walk_at "jj"
            show J w c' (newTuple _) _ _ _
            refine J_newTv fun tf tto htto htf => ?_
            walk_at "jj"
            show J w c' (newList _) _ _ _
            refine J_newL (fun fl hfl => ?_) (Nat.le_of_ble_eq_true rfl)
            walk_at "jj"
            rw [if_pos hc] at hp2
            refine' LM.mk (T := T ++ [92, esc d]) (fnd := fnd ++ wor d) (way := 1) (here := b + 1 + T.length) (fvs := [.ref tf]) (n3 := 0) (nf := (fl, W.listOf [.ref tf].toArray 0) :: (tf, tto) :: (f0, W.listOf #[] 0) :: nf) hp2 ?cv0 ?cv1 ?cv2 ?cv3 ?cv4 ?cv5 ?cv6 ?cv7 ?cv8 ?cv9 ?cv10 hW4 ?cw1 hlen ?cw2 (.tail _ (.tail _ (.tail _ (hpa)))) (dP.mono fun q hq => .tail _ (.tail _ (.tail _ (hq)))) (dS.mono fun q hq => .tail _ (.tail _ (.tail _ (hq)))) (.head _) ?cw3 ?cw4 ?cw5
            case cw1 => omega
            case cw2 => omega
            case cw3 => exact .cons (dat2 (.tail _ (.head _)) htto rfl rfl) .nil
            case cw4 => exact List.forall_mem_cons.mpr ⟨NA.of (fun p hp => hfl p (.tail _ (.tail _ hp))) fun q hq => hq, List.forall_mem_cons.mpr ⟨NA.of (fun p hp => htf p (.tail _ hp)) fun q hq => hq, frN1⟩⟩
            case cw5 => exact reo (reo fun q hq => .tail _ hq)
            case cv0 => walk_at "lk"
            case cv1 => walk_at "lk"
            case cv2 => walk_at "lk"
            case cv3 => walk_at "lk"
            case cv4 => walk_at "lk"
            case cv5 => walk_at "lk"
            case cv6 => walk_at "lk"
            case cv7 => walk_at "lk"
            case cv8 => walk_at "lk"
            case cv9 => walk_at "lk"
            case cv10 => walk_at "lk"
          · refine ite_df hc ?_
            walk_at "jj"
            show J w c' (newList _) _ _ _
            refine J_newL (fun fl hfl => ?_) (Nat.le_of_ble_eq_true rfl)
            walk_at "jj"
            rw [if_neg hc] at hp2
            refine' LM.mk (T := T ++ [92, esc d]) (fnd := fnd ++ wor d) (way := 1) (here := b + 1 + T.length) (fvs := []) (n3 := 0) (nf := (fl, W.listOf [].toArray 0) :: (f0, W.listOf #[] 0) :: nf) hp2 ?dv0 ?dv1 ?dv2 ?dv3 ?dv4 ?dv5 ?dv6 ?dv7 ?dv8 ?dv9 ?dv10 hW4 ?dw1 hlen ?dw2 (.tail _ (.tail _ (hpa))) (dP.mono fun q hq => .tail _ (.tail _ (hq))) (dS.mono fun q hq => .tail _ (.tail _ (hq))) (.head _) ?dw3 ?dw4 ?dw5
            case dw1 => omega
            case dw2 => omega
            case dw3 => exact .nil
            case dw4 => exact List.forall_mem_cons.mpr ⟨NA.of (fun p hp => hfl p (.tail _ hp)) fun q hq => hq, frN1⟩
            case dw5 => exact reo fun q hq => .tail _ hq
            case dv0 => walk_at "lk"
            case dv1 => walk_at "lk"
            case dv2 => walk_at "lk"
            case dv3 => walk_at "lk"
            case dv4 => walk_at "lk"
            case dv5 => walk_at "lk"
            case dv6 => walk_at "lk"
            case dv7 => walk_at "lk"
            case dv8 => walk_at "lk"
            case dv9 => walk_at "lk"
            case dv10 => walk_at "lk"
        · obtain rfl : way = 2 := by omega
          refine ite_bf rfl ?_
          walk_at "jj"
          show J w c' (call (.ref 191) [.ref wd, .int (((b + 1 + T.length : Nat) : Int) + 2) _, .int (dp : Int) _, .int (n : Int) _]) _ _ _
          rw [show ((b + 1 + T.length : Nat) : Int) + 2 = ((b + 1 + T.length + 2 : Nat) : Int) from rfl]
          refine linner n IH (k := k) ((show k + 2 * n + 3 = k + (2 * n + 3) by omega) ▸ G') hn2 hW3 hB4 hr4 (by omega) fun ii q x nf2 wo4 a4 ha4 hii hwn hbl hfr4 hW4 hD => ?_
          obtain ⟨vs, nv, hx, hv⟩ := datTup hD
          obtain ⟨v1, _, rfl, d1, hv⟩ := datCons hv
          obtain ⟨v2, _, rfl, d2, hv⟩ := datCons hv
          obtain ⟨v3, _, rfl, d3, hv⟩ := datCons hv
          obtain rfl := datNil hv
          obtain ⟨tt, rfl⟩ := datStr d1
          obtain ⟨tk, tvs, n4, rfl, mtk, dT⟩ := datRefL d2
          obtain ⟨fx, fxs, n5, rfl, mfx, dX⟩ := datRefL d3
          refine J_unp G' (List.mem_append_left _ hx) ?_
          show J w c' (assignInOrder [assign (.Name (Str.ofString "inner") _) _, assign (.Name (Str.ofString "tokens") _) _, assign (.Name (Str.ofString "faults") _) _] _) _ _ _
          generalize hNF : nf2 ++ (f0, W.listOf #[] 0) :: nf = NF
          have frNF : ∀ q ∈ NF, NA wd sa I r q.1 := by
            subst hNF
            exact fun q hq => (List.mem_append.mp hq).elim (fun z => NA.ofNB (hfr4 q z)) (frN1 q)
          have sNF : ∀ q ∈ nf2, q ∈ NF := by subst hNF; exact fun q hq => List.mem_append_left _ hq
          have sNF2 : ∀ q ∈ nf, q ∈ NF := by subst hNF; exact fun q hq => List.mem_append_right _ (.tail _ hq)
          refine J.sub (l' := (wd, wo4) :: (sa, W.listOf svs.toArray nn) :: (NF ++ (I, o) :: r)) ?_ (by
            subst hNF
            intro q hq
            rcases List.mem_cons.mp hq with rfl | hq
            · exact List.mem_append_right _ (.head _)
            rcases List.mem_cons.mp hq with rfl | hq
            · exact List.mem_append_right _ (.tail _ (.head _))
            rw [List.append_assoc] at hq
            exact (List.mem_append.mp hq).elim (List.mem_append_left _) fun z => List.mem_append_right _ (.tail _ (.tail _ z)))
          walk_at "jj"
          refine pickF [(b + 1 + T.length + 1, b + 1 + T.length + 1)] (if ii < 3 then [] else flt q (b + 1 + T.length + 2 + 2) (b + 1 + T.length + 2 + 1) (dp + 1)) NF (fun h4 => ?_) (fun h4 => ?_) fun fa nf3 fvs n3 hf3 mfa dF => ?_
          · walk_at "jj"
            show J w c' (newTuple _) _ _ _
            refine J_newTv fun tf tto htto htf => ?_
            walk_at "jj"
            show J w c' (newList _) _ _ _
            refine J_newL (fun fl hfl => ?_) (Nat.le_of_ble_eq_true rfl)
            exact ⟨rfl, fl, [(fl, _), (tf, tto)], _, _, rfl, rfl, List.forall_mem_cons.mpr ⟨fun q' hq => hfl q' (.tail _ hq), List.forall_mem_cons.mpr ⟨htf, (fun _ h => by cases h)⟩⟩, .head _, .cons (dat2 (.tail _ (.head _)) htto rfl rfl) .nil⟩
          · walk_at "jj"
            exact ⟨rfl, fx, [], fxs, n5, rfl, rfl, (fun _ h => by cases h), sNF _ mfx, dX.mono sNF⟩
          show J w c' _ _ _ _
          generalize hNG : nf3 ++ NF = NG at mfa dF
          have frNG : ∀ q ∈ NG, NA wd sa I r q.1 := by
            subst hNG
            exact fun q hq => (List.mem_append.mp hq).elim (fun z => NA.of (hf3 q z) fun q hq => hq) (frNF q)
          have sNG : ∀ q ∈ nf2, q ∈ NG := by subst hNG; exact fun q hq => List.mem_append_right _ (sNF q hq)
          have sNG2 : ∀ q ∈ nf, q ∈ NG := by subst hNG; exact fun q hq => List.mem_append_right _ (sNF2 q hq)
          refine J.sub (l' := (wd, wo4) :: (sa, W.listOf svs.toArray nn) :: (NG ++ (I, o) :: r)) ?_ (by
            subst hNG
            intro q hq
            rcases List.mem_cons.mp hq with rfl | hq
            · exact List.mem_append_right _ (.head _)
            rcases List.mem_cons.mp hq with rfl | hq
            · exact List.mem_append_right _ (.tail _ (.head _))
            rw [List.append_assoc] at hq
            exact (List.mem_append.mp hq).elim (List.mem_append_left _) fun z => List.mem_append_right _ (.tail _ (.tail _ z)))
          have hbl2 : (bodyOf ii (rend q)).length + 3 ≤ sl_ n := hbl
          walk_at "jj"
          refine J_addCl (b := [92, 40]) rfl (by simp only [List.length_cons, List.length_nil]; omega) fun t6 => ?_
          walk_at "jj"
          refine J_addC (by simp only [List.length_append, List.length_cons, List.length_nil]; omega) fun t7 => ?_
          walk_at "jj"
          refine J_addCl (b := [41]) rfl (by simp only [List.length_append, List.length_cons, List.length_nil]; omega) fun t8 => ?_
          rw [show T ++ [92, 40] ++ bodyOf ii (rend q) ++ [41] = T ++ 92 :: 40 :: (bodyOf ii (rend q) ++ [41]) by simp]
          walk_at "jj"
          refine J_lenS (by rw [Sx_len]; omega) fun tl9 => ?_
          walk_at "jj"
          show J w c' (newTuple _) _ _ _
          refine J_newTv fun te teo hteo hte => ?_
          walk_at "jj"
          show J w c' (newList _) _ _ _
          refine J_newL (fun le hle => ?_) (Nat.le_of_ble_eq_true rfl)
          walk_at "jj"
          have hsz1 : tvs.length ≤ 3 := by
            rw [dT.length]
            match ii, hii with
            | 0, _ | 1, _ | 2, _ | 3, _ => exact Nat.le_of_ble_eq_true rfl
          refine J_addL (its := tvs.toArray) (its2 := [.ref te].toArray) (.tail _ (.tail _ (.tail _ (.tail _ (List.mem_append_left _ (sNG _ mtk)))))) (.head _) (by simp; omega) fun tl2 htl2 => ?_
          walk_at "jj"
          show J w c' (newList _) _ _ _
          refine J_newL (fun pl2 hpl2 => ?_) (Nat.le_of_ble_eq_true rfl)
          walk_at "jj"
          refine J_addL (its := pvs.toArray) (its2 := [.str (Sx fnd) t5, .ref tl2].toArray) (.tail _ (.tail _ (.tail _ (.tail _ (.tail _ (.tail _ (List.mem_append_left _ (sNG2 _ hpa)))))))) (.head _) (by simp; omega) fun pn hpn => ?_
          walk_at "jj"
          show J w c' (newTuple _) _ _ _
          refine J_newT (fun ta3 hta3 => ?_) (Nat.le_of_ble_eq_true rfl)
          refine J_unpI G' (.head _) rfl ?_
          refine J_aio ?_
          walk_at "jj"
          refine J_aio ?_
          walk_at "jj"
          refine J_aio0 ?_
          walk_at "jj"
          have hlen : (T ++ 92 :: 40 :: (bodyOf ii (rend q) ++ [41])).length ≤ (i + 1) * sl_ n := by simp only [List.length_append, List.length_cons, List.length_nil]; omega
          have hfl1 : (if ((dp : Int) == 4) = true then [(b + 1 + T.length + 1, b + 1 + T.length + 1)] else if ii < 3 then [] else flt q (b + 1 + T.length + 2 + 2) (b + 1 + T.length + 2 + 1) (dp + 1)) = flt1 ii (flt q (b + 1 + T.length + 4) (b + 1 + T.length + 3) (dp + 1)) (b + 1 + T.length) dp :=
            ite_congr (propext (by rw [beq_iff_eq]; omega)) (fun _ => rfl) (fun _ => rfl)
          have hp2 := hp.inn (fun e => (hwn e).1) (fun e => (hwn e).2)
          rw [eq_Sx (y := Str.ofString "") (z := []) rfl]
          refine' LM.mk (T := T ++ 92 :: 40 :: (bodyOf ii (rend q) ++ [41])) (fnd := []) (way := 2) (here := b + 1 + T.length) (pvs := pvs ++ [Value.str (Sx fnd) t5, Value.ref tl2]) (n2 := 0) (fvs := fvs) (n3 := n3) (nf := (pn, _) :: (pl2, W.listOf [Value.str (Sx fnd) t5, Value.ref tl2].toArray 0) :: (tl2, W.listOf (tvs ++ [Value.ref te]).toArray 0) :: (le, W.listOf [Value.ref te].toArray 0) :: (te, teo) :: NG) hp2 ?ev0 ?ev1 ?ev2 ?ev3 ?ev4 ?ev5 ?ev6 ?ev7 ?ev8 ?ev9 ?ev10 hW4 ?ew1 hlen ?ew2 (.head _) ?ew6 (dS.mono fun q hq => .tail _ (.tail _ (.tail _ (.tail _ (.tail _ (sNG2 _ hq)))))) (.tail _ (.tail _ (.tail _ (.tail _ (.tail _ (mfa)))))) ?ew3 ?ew4 ?ew5
          case ew6 => exact DatAll.append (dP.mono fun q hq => .tail _ (.tail _ (.tail _ (.tail _ (.tail _ (sNG2 _ hq)))))) (.cons (.str _ _) (.cons (.list (.tail _ (.tail _ (.head _))) (DatAll.append (dT.mono fun q hq => .tail _ (.tail _ (.tail _ (.tail _ (.tail _ (sNG _ hq)))))) (.cons (dat3 (.tail _ (.tail _ (.tail _ (.tail _ (.head _))))) hteo (.str _ _) (Mine.dS rfl) (dI (by rw [Sx_len]; rfl))) .nil))) .nil))
          case ew1 => omega
          case ew2 => simp only [List.length_append, List.length_cons, List.length_nil]; omega
          case ew3 => exact hfl1 ▸ dF.mono fun q hq => .tail _ (.tail _ (.tail _ (.tail _ (.tail _ (hq)))))
          case ew4 => exact List.forall_mem_cons.mpr ⟨NA.of hpn fun q hq => .tail _ (.tail _ (.tail _ (.tail _ (hq)))), List.forall_mem_cons.mpr ⟨NA.of hpl2 fun q hq => .tail _ (.tail _ (.tail _ (hq))), List.forall_mem_cons.mpr ⟨NA.of htl2 fun q hq => .tail _ (.tail _ (hq)), List.forall_mem_cons.mpr ⟨NA.of hle fun q hq => .tail _ (hq), List.forall_mem_cons.mpr ⟨NA.of hte fun q hq => hq, frNG⟩⟩⟩⟩⟩
          case ew5 => exact fun q hq => .tail _ (reo (reo (reo (reo (reo fun q hq => hq)))) q hq)
          case ev0 => walk_at "lk"
          case ev1 => walk_at "lk"
          case ev2 => walk_at "lk"
          case ev3 => walk_at "lk"
          case ev4 => walk_at "lk"
          case ev5 => walk_at "lk"
          case ev6 => walk_at "lk"
          case ev7 => walk_at "lk"
          case ev8 => walk_at "lk"
          case ev9 => walk_at "lk"
          case ev10 => walk_at "lk"
    · intro fl m l hM
      cases hM with | mk hp5 x1 x2 x3 x4 x5 x6 x7 x8 x9 xA xB hw5 ha5 hT5 hpv5 hpa5 dP5 dS5 hfa5 dF5 fr5 hl5 =>
      rename_i F2 T2 fnd2 P2 pa2 fa2 pvs2 fvs2 n22 n32 nf2 wo5 a5 way5 here5 fs5 u1 u2 u3 u4 u5 u6 u7
      show J w c' (execs _ _) _ _ _
      refine J.sub ?_ (fun q hq => hl5 q (sw2 q hq))
      walk_at "jj"
      refine J_lenS (by rw [Sx_len, List.length_cons]; omega) fun tl => ?_
      walk_at "jj"
      show J w c' (newTuple _) _ _ _
      refine J_newTv fun tn tno htno htn => ?_
      walk_at "jj"
      have hNn : NA wd sa I r tn := NA.of htn sw2
      refine J.sub ?_ sw2
      refine J_append (List.forall_mem_cons.mpr ⟨hNn.2.2.1, List.forall_mem_cons.mpr ⟨Nat.ne_of_lt hws, fun q hq => (List.mem_append.mp hq).elim (fun z => (fr5 q z).2.2.1) fun z => (List.mem_cons.mp z).elim (fun e => e ▸ fun h => off _ (hl _ (.tail _ (.head _))) h.symm) fun y => Nat.ne_of_lt (hrs q y)⟩⟩) (by simp; omega) ?_
      rw [List.push_toArray]
      walk_at "jj"
      refine ⟨(wd, wo5) :: (sa, W.listOf (svs ++ [Value.ref tn]).toArray (nn + 1)) :: ((tn, tno) :: nf2 ++ r), ?_, .tail _ (.tail _ (.tail _ (List.mem_append_right _ (.head _)))), ?_, ?_⟩
      · intro q hq
        rcases List.mem_cons.mp hq with rfl | hq
        · exact .tail _ (.tail _ (.head _))
        rcases List.mem_cons.mp hq with rfl | hq
        · exact .head _
        rcases List.mem_cons.mp hq with rfl | hq
        · exact .tail _ (.head _)
        rcases List.mem_append.mp hq with hq | hq
        · exact .tail _ (.tail _ (.tail _ (List.mem_append_left _ hq)))
        · exact .tail _ (.tail _ (.tail _ (List.mem_append_right _ (.tail _ hq))))
      · exact List.forall_mem_cons.mpr ⟨hIw.symm, List.forall_mem_cons.mpr ⟨(off (sa, W.listOf svs.toArray nn) (hl _ (.tail _ (.head _))) : sa ≠ I), List.forall_mem_cons.mpr ⟨hNn.2.2.2, fun q hq => (List.mem_append.mp hq).elim (fun z => (fr5 q z).2.2.2) fun z => off _ (hl _ (.tail _ (.tail _ (List.mem_append_right _ z))))⟩⟩⟩
      · refine LI.mk (nf := (tn, tno) :: nf2) hp5 x1 x2 x3 x4 x5 x6 x7 x8 hw5 ha5 hT5 hi5 hpv5 (by simp [hsv]) (.tail _ hpa5) (dP5.mono fun q hq => .tail _ hq) ?_
          (List.forall_mem_cons.mpr ⟨⟨hNn.1, hNn.2.1, hNn.2.2.1⟩, fun q hq => ⟨(fr5 q hq).1, (fr5 q hq).2.1, (fr5 q hq).2.2.1⟩⟩) fun q hq => hq
        rw [List.map_append]
        exact datAll_snoc (dS5.mono fun q hq => .tail _ hq) (dat4 (.head _) htno rfl rfl (by show (b : Int) + ((Sx (34 :: T2)).length : Int) = ((b + 1 + T2.length : Nat) : Int); rw [Sx_len, List.length_cons]; omega) (.list (.tail _ hfa5) (dF5.mono fun q hq => .tail _ hq)))
  · intro m l hI
    cases hI with | mk hp v1 v2 v3 v4 v5 v6 v7 v8 hw hA hT hi4 hpv hsv hpa dP dS fr hl =>
    rename_i F T fnd P R pa2 pvs svs nn n2 nf wo2 a2 u1 u2 u3 u4 u5
    generalize hdi : ((d : Int) - 0).toNat = i at hA hT hi4 hpv hsv
    show J w c' (execs _ _) _ _ _
    refine J.sub (l' := (sa, W.listOf svs.toArray nn) :: nf ++ (wd, wo2) :: r) ?_ (by
      intro q hq
      rcases List.mem_cons.mp hq with rfl | hq
      · exact hl _ (.tail _ (.head _))
      rcases List.mem_append.mp hq with hq | hq
      · exact hl _ (.tail _ (.tail _ (List.mem_append_left _ hq)))
      rcases List.mem_cons.mp hq with rfl | hq
      · exact hl _ (.head _)
      · exact hl _ (.tail _ (.tail _ (List.mem_append_right _ hq))))
    have hsl2 := sl_le hn2
    have hst2 : i * st_ n ≤ 4 * st_ n := Nat.mul_le_mul_right _ hi4
    have hsl3 : i * sl_ n ≤ 4 * sl_ n := Nat.mul_le_mul_right _ hi4
    have hdr := dr_eq n
    have hpl := pl_eq n
    have hr1 : rend (F .nil) = T := by rw [hp.rend]; exact List.append_nil T
    have hr2 : rows (F .nil) (b + 1) b dp = R := by rw [hp.rows]; exact List.append_nil R
    have hr3 : pcs (F .nil) [] (b + 1) = P ++ [.str (Sx fnd)] := hp.pcs .nil
    have hfl := hp.fl
    walk_at "jj"
    refine J_addCl (b := [34]) rfl (by simp only [List.length_cons, List.length_nil]; omega) fun t6 => ?_
    walk_at "jj"
    show J w c' (newList _) _ _ _
    refine J_newL (fun lf hlf => ?_) (Nat.le_of_ble_eq_true rfl)
    walk_at "jj"
    refine J_addL (its := pvs.toArray) (its2 := [Value.str (Sx fnd) u5].toArray) (.tail _ (.tail _ (List.mem_append_left _ hpa))) (.head _) (by simp; omega) fun pn hpn => ?_
    walk_at "jj"
    show J w c' (newTuple _) _ _ _
    refine J_newTv fun tk tko htko htk => ?_
    walk_at "jj"
    obtain ⟨out, hfo, hdo⟩ := flat_of dS
    have hol : out.length ≤ 100000 := by
      rw [hdo.length, List.length_map, ← hr2, ← flt_rows]
      exact Nat.le_trans (flt_len _ _ _ _) (by rw [plen, hr1]; omega)
    refine J_comp2 G' (by walk_at "lk") (.tail _ (.tail _ (.tail _ (.head _)))) (hfo.mono fun q hq => .tail _ (.tail _ (.tail _ (.tail _ (List.mem_append_left _ hq))))) hol fun cd hcd => ?_
    walk_at "jj"
    show J w c' (newTuple _) _ _ _
    refine J_newTv fun rs rso hrso hrs2 => ?_
    have hps : plen (F .nil) ≤ pl n := by rw [plen, hr1]; omega
    have hsub : ∀ q ∈ (wd, wo2) :: r, q ∈ (sa, W.listOf svs.toArray nn) :: nf ++ (wd, wo2) :: r := fun q hq => .tail _ (List.mem_append_right _ hq)
    refine ret (F .nil) rs ((rs, rso) :: (cd, W.listOf out.toArray out.length) :: (tk, tko) :: (pn, W.listOf (pvs ++ [Value.str (Sx fnd) u5]).toArray 0) :: (lf, W.listOf [Value.str (Sx fnd) u5].toArray 0) :: (sa, W.listOf svs.toArray nn) :: nf) wo2 a2 (by omega) (hp.wf _ trivial) (hp.nest _ (Nat.zero_le _)) hps
      (List.forall_mem_cons.mpr ⟨NB.of hrs2 fun q hq => .tail _ (.tail _ (.tail _ (.tail _ (hsub q hq)))), List.forall_mem_cons.mpr ⟨NB.of hcd fun q hq => .tail _ (.tail _ (.tail _ (hsub q hq))), List.forall_mem_cons.mpr ⟨NB.of htk fun q hq => .tail _ (.tail _ (hsub q hq)), List.forall_mem_cons.mpr ⟨NB.of hpn fun q hq => .tail _ (hsub q hq), List.forall_mem_cons.mpr ⟨NB.of hlf hsub, List.forall_mem_cons.mpr ⟨⟨hws, hrs⟩, fun q hq => ⟨(fr q hq).1, (fr q hq).2.1⟩⟩⟩⟩⟩⟩⟩) hw ?_
    rw [resD, hr1, strTok, hr3, flt_rows, hr2]
    exact dat4g (.head _) hrso (.str _ _) (dat3 (.tail _ (.tail _ (.head _))) htko (.str _ _) (.list (.tail _ (.tail _ (.tail _ (.head _)))) (DatAll.append (dP.mono fun q hq => .tail _ (.tail _ (.tail _ (.tail _ (.tail _ (.tail _ (hq))))))) (.cons (.str _ _) .nil))) (.int _ _)) (.list (.tail _ (.head _)) (hdo.mono fun q hq => .tail _ (.tail _ (.tail _ (.tail _ (.tail _ (.tail _ (hq)))))))) (.list (.tail _ (.tail _ (.tail _ (.tail _ (.tail _ (.head _)))))) (dS.mono fun q hq => .tail _ (.tail _ (.tail _ (.tail _ (.tail _ (.tail _ (hq))))))))
theorem law_string_J : ∀ n, LStr w n
  | 0 => lstr_step 0 fun _ h => nomatch h
  | n + 1 => lstr_step (n + 1) fun n' h => by cases h; exact law_string_J n
end


section
variable {w : World} {c : Cfg} {m : Vars} {l : Led} {k : Nat} {Q : Value → Vars → Led → Prop}
theorem J_itemT {value slice : Expr} {d : Addr} {vs : List Value} {n j : Nat} {i : Int} {t : Tok} {v : Value} (hm : (d, tupO vs n) ∈ l) (h0 : 0 ≤ i) (h1 : i < 1000) (hj : i.toNat = j) (hx : vs[j]? = some v) (h : Q v m l)
    (hs : subscripted slice false (.ref d) (.int i t) = operate [.ref d, .int i t] (getItem (.ref d) (.int i t)) := by with_unfolding_all rfl) : J w c (subscriptTail value slice (.ref d) (.int i t)) Q m l := by
  intro hp tk F N
  have hlt : j < vs.length := (List.getElem?_eq_some_iff.mp hx).1
  exact item_tupleT (tup_isTup N hm) (by omega) (by omega) (j := j) (by simp [seqIndex?]; omega) hx (post_intro F N h) hs
theorem J_neg {i : Int} {t : Tok} (h : ∀ t, Q (.int (-i) t) m l) : J w c (unaryOp .USub (.int i t)) Q m l := fun _ _ F N => PyProof.Rows.neg_int (post_intro F N (h _))
theorem datInt {nf : Led} {v : Value} {i : Int} (h : DatIn nf v (.int i)) : ∃ t, v = .int i t := by cases h; exact ⟨_, rfl⟩
theorem fD_ok (n : Nat) (fs : List (Nat × Nat)) : ∀ d ∈ fs.map fD, kqdOk (n + 1) d = true := by
  intro d hd
  obtain ⟨f, _, rfl⟩ := List.mem_map.mp hd
  simp [kqdOk, fD]
theorem J_neN (G : Good w c (k + 1)) {a b : Addr} {xs : List Value} {ka kb : Nat} {fs : List (Nat × Nat)} (ma : (a, W.listOf xs.toArray ka) ∈ l) (Da : DatAll l xs (fs.map fD)) (mb : (b, W.listOf #[] kb) ∈ l) (h : Q (.bool (!decide (fs = []))) m l) :
    J w c (compareOp .NotEq (.ref a) (.ref b)) Q m l := fun hp tk F N => by
  refine kqd_ne (ys := []) (es := []) N ma rfl rfl Da (fun _ hp => hp) mb rfl rfl .nil (fun _ hp => hp) (fD_ok 7 fs) (fun d hd => nomatch hd) ?_ (post_intro F N ?_)
  · have := G.hu
    show c.A.units + 64 < 9900
    omega
  · cases fs <;> simpa using h
end
/-- what the law's refusal tells -/
def dueOf : Option Nat → Int
  | some f => f
  | none => -1
/-- ahead of row i of the law's refusal -/
inductive RI (R : List Row) (b wide dp e : Nat) (l : Led) : Nat → Vars → Led → Prop
  | mk {i : Nat} {m : Vars} {t1 t2 t3 t4 : Tok} (v1 : m "begin" = some (.int (b : Int) t1)) (v2 : m "wide" = some (.int (wide : Int) t2)) (v3 : m "depth" = some (.int (dp : Int) t3)) (v4 : m "end_of" = some (.int (e : Int) t4))
    (hr : refus (R.drop i) b (b + wide) dp e = refus R b (b + wide) dp e) : RI R b wide dp e l i m l
section
variable {w : World}
theorem J_test {c : Cfg} {m : Vars} {l : Led} {t : Sem Bool} {P : Prop} [Decidable P] {Q : KB} (h : J w c t (fun r m' l' => r = decide P ∧ m' = m ∧ l' = l) m l) (h1 : P → Q true m l) (h2 : ¬ P → Q false m l) : J w c t Q m l :=
  h.mono fun r m' l' hq => by
    obtain ⟨rfl, rfl, rfl⟩ := hq
    by_cases e : P
    · rw [decide_eq_true e]; exact h1 e
    · rw [decide_eq_false e]; exact h2 e
theorem pairs_of {l : Led} {i0 : Int} : ∀ {vs : List Value} {fs : List (Nat × Nat)}, DatAll l vs (fs.map fD) → (∀ f ∈ fs, i0 < (f.1 : Int)) → PairsGt l i0 vs
  | vs, [], h, _ => by obtain rfl := datNil h; exact .nil
  | vs, f :: fs, h, hf => by
    obtain ⟨v, vs, rfl, h1, h2⟩ := datCons h
    obtain ⟨a, rfl⟩ := datRefT h1
    obtain ⟨xs, n, hx, hv⟩ := datTup h1
    obtain ⟨v1, _, rfl, d1, hv⟩ := datCons hv
    obtain ⟨v2, _, rfl, d2, hv⟩ := datCons hv
    obtain rfl := datNil hv
    obtain ⟨t, rfl⟩ := datInt d1
    obtain ⟨u, rfl⟩ := datInt d2
    exact .cons hx (hf f (.head _)) (pairs_of h2 fun g hg => hf g (.tail _ hg))
set_option maxHeartbeats 4000000 in
theorem refusal_J {c : Cfg} {m : Vars} {l : Led} {k : Nat} {sa : Addr} {svs : List Value} {nn b wide dp e : Nat} {R : List Row} {t1 t2 t3 t4 : Tok} {Q : Value → Vars → Led → Prop} (G : Good w c (k + 3)) (hm : (sa, W.listOf svs.toArray nn) ∈ l) (dS : DatAll l svs (R.map rowD)) (hR : ∀ row ∈ R, row.fs.Pairwise (fun x y => x.1 < y.1))
    (ret : ∀ t, Q (.int (dueOf (refus R b (b + wide) dp e)) t) m l) : J w c (call (.ref 203) [.int (b : Int) t1, .int (wide : Int) t2, .ref sa, .int (dp : Int) t3, .int (e : Int) t4]) Q m l := by
  have hB : Binds [(Str.ofString "begin", .int (b : Int) t1), (Str.ofString "wide", .int (wide : Int) t2), (Str.ofString "spans", .ref sa), (Str.ofString "depth", .int (dp : Int) t3), (Str.ofString "end_of", .int (e : Int) t4)] := trivial
  walk_at "en"
  intro c' G' C' he'
  walk_at "js"
  refine J_forL G' he' ?_
  walk_at "jj"
  refine ⟨sa, _, nn, rfl, hm, RI R b wide dp e l, fun i m l h => ?_, ?_, ?_, ?_⟩
  · cases h; exact hm
  · exact .mk rfl rfl rfl rfl rfl
  · intro I i m l v o hi hv hI off
    cases hI with | mk v1 v2 v3 v4 hr =>
    have hsz : svs.length = R.length := by rw [dS.length, List.length_map]
    have hiR : i < R.length := by simpa [hsz] using hi
    obtain ⟨v', hv', hd⟩ := dS.get (k := i) (by simpa using hiR)
    obtain rfl : v = v' := by simpa [hv'] using hv.symm
    rw [List.getElem_map] at hd
    have hrow : R[i] ∈ R := List.getElem_mem hiR
    rw [List.drop_eq_getElem_cons hiR] at hr
    generalize R[i] = row at hd hrow hr
    obtain ⟨ta, rfl⟩ := datRefT hd
    obtain ⟨xs, nt, hx, hv⟩ := datTup hd
    obtain ⟨w1, _, rfl, d1, hv⟩ := datCons hv
    obtain ⟨w2, _, rfl, d2, hv⟩ := datCons hv
    obtain ⟨w3, _, rfl, d3, hv⟩ := datCons hv
    obtain ⟨w4, _, rfl, d4, hv⟩ := datCons hv
    obtain rfl := datNil hv
    obtain ⟨x1, rfl⟩ := datInt d1
    obtain ⟨x2, rfl⟩ := datInt d2
    obtain ⟨x3, rfl⟩ := datInt d3
    obtain ⟨fl, fvs, nf, rfl, mfl, dF⟩ := datRefL d4
    rw [refus] at hr
    refine J_unp G' (.tail _ hx) ?_
    show J w c' (assignInOrder [assign (.Name (Str.ofString "way") _) _, assign (.Name (Str.ofString "here") _) _, assign (.Name (Str.ofString "rest") _) _, assign (.Name (Str.ofString "faults") _) _] _) _ _ _
    walk_at "jj"
    refine J_ge ?_
    walk_at "jj"
    by_cases c1 : e ≤ row.here
    · rw [if_pos c1] at hr
      refine ite_dt (Int.ofNat_le.mpr c1) ?_
      refine J.sub ?_ (fun q hq => .tail _ hq)
      walk_at "jj"
      rw [← hr] at ret
      exact ret _
    rw [if_neg c1] at hr
    refine ite_df (fun h => c1 (Int.ofNat_le.mp h)) ?_
    refine J_nil ?_
    refine J_cons ?_
    refine J_if ?_
    refine J_test (P := 0 < row.way ∧ row.here + 1 = e) ?_ (fun c2 => ?_) (fun c2 => ?_)
    · walk_at "jj"
      by_cases a1 : 0 < row.way
      · refine ite_dt (Int.ofNat_lt.mpr a1) ?_
        walk_at "jj"
        by_cases a2 : row.here + 1 = e
        · refine ite_bt (by rw [beq_iff_eq]; omega) ?_
          walk_at "jj"
          show true = decide (0 < row.way ∧ row.here + 1 = e) ∧ _ = _ ∧ _ = _
          exact ⟨(decide_eq_true ⟨a1, a2⟩).symm, rfl, rfl⟩
        · refine ite_bf (by rw [beq_eq_false_iff_ne]; omega) ?_
          show false = decide (0 < row.way ∧ row.here + 1 = e) ∧ _ = _ ∧ _ = _
          exact ⟨(decide_eq_false fun h => a2 h.2).symm, rfl, rfl⟩
      · refine ite_df (fun h => a1 (Int.ofNat_lt.mp h)) ?_
        show false = decide (0 < row.way ∧ row.here + 1 = e) ∧ _ = _ ∧ _ = _
        exact ⟨(decide_eq_false fun h => a1 h.1).symm, rfl, rfl⟩
    · rw [if_pos c2] at hr
      refine ite_t ?_
      refine J.sub ?_ (fun q hq => .tail _ hq)
      walk_at "jj"
      rw [← hr] at ret
      exact ret _
    rw [if_neg c2] at hr
    refine ite_f ?_
    refine J_nil ?_
    refine J_cons ?_
    refine J_if ?_
    refine J_test (P := row.way = 2 ∧ dp < 4 ∧ e < row.rest) ?_ (fun c3 => ?_) (fun c3 => ?_)
    · walk_at "jj"
      by_cases a1 : row.way = 2
      · refine ite_bt (by rw [beq_iff_eq]; omega) ?_
        walk_at "jj"
        by_cases a2 : dp < 4
        · refine ite_dt (by omega) ?_
          walk_at "jj"
          by_cases a3 : e < row.rest
          · refine ite_dt (by omega) ?_
            walk_at "jj"
            show true = decide (row.way = 2 ∧ dp < 4 ∧ e < row.rest) ∧ _ = _ ∧ _ = _
            exact ⟨(decide_eq_true ⟨a1, a2, a3⟩).symm, rfl, rfl⟩
          · refine ite_df (by omega) ?_
            show false = decide (row.way = 2 ∧ dp < 4 ∧ e < row.rest) ∧ _ = _ ∧ _ = _
            exact ⟨(decide_eq_false fun h => a3 h.2.2).symm, rfl, rfl⟩
        · refine ite_df (by omega) ?_
          show false = decide (row.way = 2 ∧ dp < 4 ∧ e < row.rest) ∧ _ = _ ∧ _ = _
          exact ⟨(decide_eq_false fun h => a2 h.2.1).symm, rfl, rfl⟩
      · refine ite_bf (by rw [beq_eq_false_iff_ne]; omega) ?_
        show false = decide (row.way = 2 ∧ dp < 4 ∧ e < row.rest) ∧ _ = _ ∧ _ = _
        exact ⟨(decide_eq_false fun h => a1 h.1).symm, rfl, rfl⟩
    · rw [if_pos c3] at hr
      refine ite_t ?_
      refine J.sub ?_ (fun q hq => .tail _ hq)
      walk_at "jj"
      rw [← hr] at ret
      exact ret _
    rw [if_neg c3] at hr
    refine ite_f ?_
    walk_at "jj"
    show J w c' (newList _) _ _ _
    refine J_newL (fun f0 hf0 => ?_) (Nat.le_of_ble_eq_true rfl)
    walk_at "jj"
    refine J_neN G' (.tail _ (.tail _ mfl)) (dF.mono fun q hq => .tail _ (.tail _ hq)) (.head _) ?_
    walk_at "jj"
    have hpw := hR row hrow
    cases hfs : row.fs with
    | nil =>
      rw [hfs] at hr
      refine ite_bf rfl ?_
      walk_at "jj"
      exact ⟨l, fun q hq => .tail _ (.tail _ hq), .tail _ (.head _), off, .mk v1 v2 v3 v4 hr⟩
    | cons f fs =>
      rw [hfs] at hr hpw dF
      refine ite_bt rfl ?_
      obtain ⟨u1, us, rfl, g1, g2⟩ := datCons dF
      obtain ⟨a1, rfl⟩ := datRefT g1
      obtain ⟨ys, nt2, hy, hv2⟩ := datTup g1
      obtain ⟨y1, _, rfl, e1, hv2⟩ := datCons hv2
      obtain ⟨y2, _, rfl, e2, hv2⟩ := datCons hv2
      obtain rfl := datNil hv2
      obtain ⟨y3, rfl⟩ := datInt e1
      obtain ⟨y4, rfl⟩ := datInt e2
      refine J.sub ?_ (fun q hq => .tail _ (.tail _ hq))
      walk_at "jj"
      refine J_min G' mfl hy (pairs_of g2 fun g hg => Int.ofNat_lt.mpr ((List.pairwise_cons.mp hpw).1 g hg)) ?_
      walk_at "jj"
      show J w c' (subscriptTail _ _ _ _) _ _ _
      refine J_itemT hy (by decide) (by decide) rfl rfl ?_
      rw [← hr] at ret
      exact ret _
  · intro m l h
    cases h with | mk v1 v2 v3 v4 hr =>
    rw [List.drop_eq_nil_of_le (by rw [List.size_toArray, dS.length, List.length_map]; exact Nat.le_refl _), refus] at hr
    walk_at "jj"
    by_cases c4 : e < b + wide
    · rw [if_pos c4] at hr
      refine ite_dt (by omega) ?_
      walk_at "jj"
      rw [← hr] at ret
      exact ret _
    · rw [if_neg c4] at hr
      refine ite_df (by omega) ?_
      walk_at "jj"
      show J w c' (unaryOp .USub _) _ _ _
      refine J_neg fun t => ?_
      rw [← hr] at ret
      exact ret _
end


section
variable {w : World} {c : Cfg} {m : Vars} {l : Led} {k : Nat}
theorem J_locC {x : PySem.Str} {pos : Pos} {v : Value} {scope : Scope} {C : Addr} {oC : Obj} {m₂ : Vars} {env : Env} {Q : Value → Vars → Led → Prop} (hm : (C, oC) ∈ l) (ho : LCg.NsObj oC m₂) (hv : m₂ x = some v) (h : Q v m l) (hk : scope.kind = .function) (hl : scope.names.lookup x = some .local)
    (hd : (x == ("__debug__" : PySem.Str)) = false := by decide) : J w c (eval (.Name x pos) (compEnvC scope [] C env)) Q m l :=
  fun _ _ F N => wpAny_Name (wpAny_loadName_local hk (lookup_relabel_local hl) (ho.ns (N.get hm)) hv (post_intro F N h)) hd
theorem J_bltC {x : PySem.Str} {pos : Pos} {v : Value} {pv : Program} {ls : List PySem.Str} {mean : ExcName → Option Value} {mg mb : Vars} {scope : Scope} {C : Addr} {env : Env} {Q : Value → Vars → Led → Prop} (X : (Mine.KK w.params).In c.h₀) (T : Top pv ls mean mg mb c.h₀) (e : nsIn (Mine.KK w.params) mainGlobals x = some none) (hv : bootBuiltins x = some v) (h : Q v m l)
    (hg : env.globals = mainGlobals) (hb : env.builtins = builtinsNs) (hk : scope.kind = .function) (hx : (compEnvC scope [] C env).kindOf x = some .globalImplicit) (hn : x ≠ "__name__" := by decide) (hd : (x == ("__debug__" : PySem.Str)) = false := by decide) : J w c (eval (.Name x pos) (compEnvC scope [] C env)) Q m l :=
  fun _ _ F N => have T' := topRead_of T; Calls.Name_function_global hk hx (Calls.loadGlobal_builtin (env := compEnvC scope [] C env) (by show Heap.Ns _ env.globals _; rw [hg]; exact T'.g.keeps F.keep) (mg_none_of X T'.g e) (by show Heap.Ns _ env.builtins _; rw [hb]; exact T'.b.keeps F.keep) ((T'.builtins x hn).trans hv) (post_intro F N h)) hd
theorem J_abs {i : Int} {t : Tok} {Q : Value → Vars → Led → Prop} (h : ∀ j t, Q (.int j t) m l) : J w c (call (.builtin "abs") [.int i t]) Q m l := fun _ _ F N => PyProof.Rows.call_abs_int fun _ _ => post_intro F N (h _ _)
theorem J_elt {x : PySem.Str} {p1 p2 p3 p4 p5 : Pos} {kk : Nat} {i : Int} {t : Tok} {pv : Program} {ls : List PySem.Str} {mean : ExcName → Option Value} {mg mb : Vars} {scope : Scope} {C : Addr} {oC : Obj} {m₂ : Vars} {env : Env} {Q : Value → Vars → Led → Prop} (X : (Mine.KK w.params).In c.h₀) (T : Top pv ls mean mg mb c.h₀) (e : nsIn (Mine.KK w.params) mainGlobals (Str.ofString "abs") = some none)
    (hm : (C, oC) ∈ l) (ho : LCg.NsObj oC m₂) (hv : m₂ x = some (.int i t)) (hg : env.globals = mainGlobals) (hb : env.builtins = builtinsNs) (hk : scope.kind = .function) (hl : scope.names.lookup x = some .local) (hx : (compEnvC scope [] C env).kindOf (Str.ofString "abs") = some .globalImplicit) (hd : (x == ("__debug__" : PySem.Str)) = false)
    (h : ∀ j t, Q (.int j t) m l) : J w c (eval (.BinOp (.Call (.Name (Str.ofString "abs") p1) [.Name x p2] [] p3) .Mod (.Constant (.int 1000003) kk p4) p5) (compEnvC scope [] C env)) Q m l := by
  refine J_bin ?_
  refine J_call ?_ rfl
  refine J_bltC X T e (PyProof.Rows.Boot.«abs») ?_ hg hb hk hx
  refine J_cb1 ?_ rfl rfl
  refine J_sp ?_ rfl
  refine J_locC hm ho hv ?_ hk hl hd
  refine J_sp0 ?_
  refine J_abs fun j t => ?_
  refine J_int fun t => ?_
  exact J_mod (by decide) fun t => h _ _
theorem J_dict2 (G : Good w c k) {k1 k2 : PySem.Str} {e1 e2 : Expr} {n1 n2 : Nat} {p1 p2 pos : Pos} {env : Env} {Q : Value → Vars → Led → Prop} (hn : [k1, k2].Nodup)
    (h : ∀ d o0, (∀ p ∈ l, p.1 < d) → J w c (eval e1 env) (fun v1 m l => J w c (eval e2 env) (fun v2 m l => ∃ r, (∀ p ∈ (d, o0) :: r, p ∈ l) ∧ (∀ p ∈ r, p.1 ≠ d) ∧ ∀ o', DK w o' [(k1, v1), (k2, v2)] → Q (.ref d) m ((d, o') :: r)) m l) m ((d, o0) :: l)) :
    J w c (eval (.Dict [some (.Constant (.str k1) n1 p1), some (.Constant (.str k2) n2 p2)] [e1, e2] pos) env) Q m l := by
  intro hp tk F N
  refine kdn_str rfl F N (Top.nolimit G.T) rfl rfl (List.cons_ne_nil _ _) (Nat.le_of_ble_eq_true rfl) fun d h' o F' N' l1 lo hd => ?_
  refine evalPairs_cons (Constant_str ?_)
  refine wpAny_bind ((h d o l1).use F' N' fun v1 m1 l1 h1 tk1 F1 N1 q1 => wpAny_bind (wpAny_standAt (wpAny_pure ?_)))
  refine evalPairs_cons (Constant_str ?_)
  refine wpAny_bind (q1.use F1 N1 fun v2 m2 l2 h2 tk2 F2 N2 q2 => wpAny_bind (wpAny_standAt (wpAny_pure ?_)))
  refine evalPairs_nil ?_
  obtain ⟨r, hs, hr, hq⟩ := q2
  exact kdn_made_str F2 (fun p hp => N2 p (hs p hp)) (updF_head hr) hd rfl hn fun h' o' F' N' hd' => post_intro F' N' (hq o' hd')
end
section
variable {w : World} {c : Cfg} {m : Vars} {l : Led} {k : Nat} {cn : PySem.Str} {cs : Scope} {ca : Addr} {ccd : Value}
theorem ints_at {vs : List Value} {ns : List Int} (h : IntsAre vs ns) : ∀ {i : Nat} {v : Value}, vs[i]? = some v → ∃ n t, v = .int n t := by
  induction h with
  | nil => intro i v e; simp at e
  | cons n t r ih =>
    intro i v e
    cases i with
    | zero => cases e; exact ⟨_, _, rfl⟩
    | succ i => exact ih (by simpa using e)
theorem ints_snoc {vs : List Value} {ns : List Int} (h : IntsAre vs ns) (j : Int) (t : Tok) : IntsAre (vs ++ [.int j t]) (ns ++ [j]) := by
  induction h with
  | nil => exact .cons _ _ .nil
  | cons n t' r ih => exact .cons _ _ ih
theorem J_cells (G : Good w c k) {x z : PySem.Str} {p1 p2 p3 p4 p5 p6 p7 p8 p9 p10 : Pos} {kk k2 : Nat} {scope : Scope} {pos : Pos} {sc : Addr} {vs : List Value} {ns : List Int} {Q : Value → Vars → Led → Prop}
    (hz : m z = some (.ref sc)) (hl : c.h₀.IsList sc vs.toArray) (hi : IntsAre vs ns) (hn : ns.length ≤ 63) (e : nsIn (Mine.KK w.params) mainGlobals (Str.ofString "abs") = some none)
    (h : ∀ d ws ms nn l', (∀ p ∈ l, p.1 ≠ d) → IntsAre ws ms → ms.length ≤ 63 → (∀ p ∈ (d, W.listOf ws.toArray nn) :: l, p ∈ l') → Q (.ref d) m l')
    (hkz : cs.kind = .function := by rfl) (hlz : (envOf cn cs c.L ca ccd).kindOf z = some .local := by rfl) (hdz : (z == ("__debug__" : PySem.Str)) = false := by decide)
    (hclos : closureFor scope (envOf cn cs c.L ca ccd) = pure [] := by rfl) (hcell : ∀ y ∈ scope.names, y.2 ≠ .cell := by decide) (hkind : scope.kind = .function := by rfl)
    (hnames : ∀ y ∈ scope.names, y.2 = .local → scope.names.lookup y.1 = some .local := by decide) (hx : scope.names.lookup x = some .local := by rfl)
    (hxa : ∀ C, (compEnvC scope [] C (envOf cn cs c.L ca ccd)).kindOf (Str.ofString "abs") = some .globalImplicit := by intro _; rfl) (hxd : (x == ("__debug__" : PySem.Str)) = false := by decide)
    (hs : ∀ d, subscripted (.Slice none (some (.Constant (.int 50) k2 p8)) none p9) false (.ref sc) (.ref d) = operate [.ref d, .ref sc] (getItem (.ref sc) (.ref d)) := by intro _; with_unfolding_all rfl) (ht : ∀ r, letTemporaryGo (.Name z p7) (.ref sc) r = pure () := by intro _; with_unfolding_all rfl) :
    J w c (eval (.ListComp (.BinOp (.Call (.Name (Str.ofString "abs") p1) [.Name x p2] [] p3) .Mod (.Constant (.int 1000003) kk p4) p5) [⟨.Name x p6, .Subscript (.Name z p7) (.Slice none (some (.Constant (.int 50) k2 p8)) none p9) p10, [], 0⟩] scope pos) (envOf cn cs c.L ca ccd)) Q m l := by
  intro g tk F N
  have hvn : vs.length = ns.length := hi.length
  refine LCg.ListComp_U F hclos hcell hkind hnames hx (Subscript_ (ld F hz (wpAny_Slice (wpAny_pure ?_)) hkz hlz hdz)) (fun _ => rfl)
  show wpAny _ _ (eval (.Constant (.int 50) k2 p8) _) _ _ _
  refine wpAny_Constant_int (wpAny_pure ?_)
  have hl1 : g.IsList sc vs.toArray := let ⟨o, e, r⟩ := hl; ⟨o, F.keep _ _ e, r⟩
  refine kmk_slice_ints (s := ⟨g, c.gs, c.dr, tk + 1, c.os⟩) (vs := vs) (ns := ns) (ms := ns.take 50) F N hl1 .none (.int 50 _) hi (kmk_upto hi (by decide)) rfl (fun d ws h' F' N' l1 hws _ hle => ?_) (hs _) ht (by rw [PySem.sizeLine_eq, List.size_toArray]; omega)
  have hwl := hws.length
  refine LCg.CompSrc.ledger G.hh F' N' (.head _) (by rw [PySem.sizeLine_eq, List.size_toArray]; omega) fun g2 => ?_
  suffices H : ∀ j' i ys ms, IntsAre ys ms → ms.length = i → i + j' = ws.length → LCg.CompRest PR w c.A c.h₀ c.L m (envOf cn cs c.L ca ccd) (.BinOp (.Call (.Name (Str.ofString "abs") p1) [.Name x p2] [] p3) .Mod (.Constant (.int 1000003) kk p4) p5) x scope [] { (⟨h', c.gs, c.dr, tk + 1, c.os⟩ : Shared) with heap := g2 } (LCg.SrcAt c.h₀ d ws.toArray) (fun i v => ws.toArray[i]? = some v) (LCg.FinE c.h₀ c.L m { (⟨h', c.gs, c.dr, tk + 1, c.os⟩ : Shared) with heap := g2 } (Post c Q)) j' i ys ((d, W.listOf ws.toArray 0) :: l) by
    have := H ws.toArray.size 0 [] [] .nil rfl (by simp)
    exact this
  intro kk'
  induction kk' with
  | zero =>
    intro i ys ms hy hm hik
    refine LCg.CompRest.zero fun D h2 tk2 F2 N2 o1 => ?_
    have hoff : ∀ {l : Led}, LCg.Off1 D l → ∀ p ∈ l, p.1 ≠ D := by
      intro l
      induction l with
      | nil => intro _ p hp; cases hp
      | cons q l ih => exact fun h p hp => (List.mem_cons.mp hp).elim (fun e => e ▸ h.1) (ih h.2 p)
    exact post_intro F2 N2 (h D ys ms _ _ (fun p hp => hoff o1 p (.tail _ hp)) hy (by have := List.length_take_le 50 ns; omega) (sub_cons fun p hp => .tail _ hp))
  | succ kk' ih =>
    intro i ys ms hy hm hik
    refine LCg.CompRest.succ fun v I oI C oC D m₂ h2 tk2 E' hv ho hmx F2 N2 off ne => ?_
    obtain ⟨n, t, rfl⟩ := ints_at hws (i := i) (by simpa using hv)
    have := (J_elt (w := w) (c := { c with E := E' }) (p1 := p1) (p2 := p2) (p3 := p3) (p4 := p4) (p5 := p5) (kk := kk) (m := m) (l := (I, oI) :: (C, oC) :: (D, LCg.lst ys) :: (d, W.listOf ws.toArray 0) :: l) (Q := fun v m' l' => (∃ j t, v = .int j t) ∧ m' = m ∧ l' = (I, oI) :: (C, oC) :: (D, LCg.lst ys) :: (d, W.listOf ws.toArray 0) :: l) (env := envOf cn cs c.L ca ccd) G.X G.T e (.tail _ (.head _)) ho hmx rfl rfl hkind hx (hxa C) hxd fun j t => ⟨⟨j, t, rfl⟩, rfl, rfl⟩)
    refine this.use F2 N2 fun v' m' l' h3 tk3 F3 N3 q => ?_
    obtain ⟨⟨j, t', rfl⟩, rfl, rfl⟩ := q
    exact LCg.CompEnd.intro F3 N3 _ (fun _ hp => hp) off (.inr ⟨_, .head _, rfl, _, rfl⟩) (ih (i + 1) _ _ (ints_snoc hy j t') (by rw [List.length_append, hm]; rfl) (by omega))
end


section
variable {w : World}
theorem fin_good {cl : PySem.Str → Option Addr} {mean : ExcName → Option Value} {ns : List Int} {s₁ : Shared} {h' : Heap} {tk : Nat} {L : Addr} {m : Vars} (hg : s₁.gens = #[]) (F : Fr s₁.heap L h' m) :
    GoodW PySem.Challenge.rw_pc0028_01.row.claim cl mean [ofPy (PyData.list (ns.map .int))] s₁ (.ok (.ret (.bool true))) ⟨h', s₁.gens, s₁.drawn, tk, s₁.os⟩ :=
  ⟨.inl ⟨_, _, _, rfl, fun _ => rfl, .bool true, (by first | with_unfolding_all rfl | kernel_rfl), fun _ => ⟨.nil, fun _ h => nomatch h⟩⟩, F.keep, rfl, hg⟩
theorem law_start {pv : Program} {ls : List PySem.Str} {s₁ : Shared} {mean : ExcName → Option Value} {mg mb m : Vars} {h₁ : Heap} {tk : Nat} {cn : PySem.Str} {cs : Scope} {ca : Addr} {ccd : Value} {body : List Stmt} {Q : Flow → Shared → Prop} {E : Value → Shared → Prop}
    (T : Top pv ls mean mg mb s₁.heap) (X : (Mine.KK w.params).In s₁.heap) (F : Fr s₁.heap s₁.heap.objs.size h₁ m) (N : News s₁.heap s₁.heap.objs.size h₁ []) (hk : cs.kind = .function)
    (H : ∀ c : Cfg, Good w c 100 → c.env = envOf cn cs c.L ca ccd → c.h₀ = s₁.heap → c.base = c.h₀ → J w c (execs body (envOf cn cs c.L ca ccd)) (fun f _ _ => f = .ret (.bool true)) m [])
    (hq : ∀ (h' : Heap) (tk : Nat) (m' : Vars) (l' : Led), Fr s₁.heap s₁.heap.objs.size h' m' → News s₁.heap s₁.heap.objs.size h' l' → Q (.ret (.bool true)) ⟨h', s₁.gens, s₁.drawn, tk, s₁.os⟩) :
    wpAny (model PR w) (callerA.deeper (envOf cn cs s₁.heap.objs.size ca ccd)) (execs body (envOf cn cs s₁.heap.objs.size ca ccd)) Q E ⟨h₁, s₁.gens, s₁.drawn, tk, s₁.os⟩ := by
  have K0 := below_caller s₁.heap
  let c : Cfg := ⟨callerA.deeper (envOf cn cs s₁.heap.objs.size ca ccd), s₁.heap, s₁.heap.objs.size, s₁.gens, s₁.drawn, s₁.os, fun _ _ => False, envOf cn cs s₁.heap.objs.size ca ccd, [], s₁.heap, callerA, mean, mg, mb, pv, ls⟩
  have G : Good w c 100 := {
    B := K0
    X := X
    T := T
    hA := rfl
    hf := rfl
    hk := hk
    hh := rfl
    hd := Nat.le_of_ble_eq_true rfl
    hu := Nat.le_of_ble_eq_true rfl
    hp := PassesOwn.never }
  refine wpAny_mono (H c G rfl rfl rfl h₁ tk F N) (fun f s' q => ?_) fun _ _ x => x.elim
  obtain ⟨m', l', h', tk', rfl, F', N', rfl⟩ := q
  exact hq h' tk' m' l' F' N'
end


theorem rows_pw : ∀ (ps : Ps) (p b dp : Nat), ∀ row ∈ rows ps p b dp, row.fs.Pairwise (fun x y => x.1 < y.1)
  | .nil, _, _, _, row, h => by cases h
  | .sg c r, p, b, dp, row, h => by
    rcases List.mem_cons.mp h with rfl | h
    · dsimp only; split <;> simp
    · exact rows_pw r _ _ _ row h
  | .es k r, p, b, dp, row, h => by
    rcases List.mem_cons.mp h with rfl | h
    · dsimp only; split <;> simp
    · exact rows_pw r _ _ _ row h
  | .inn i q r, p, b, dp, row, h => by
    rcases List.mem_cons.mp h with rfl | h
    · dsimp only [flt1]
      split
      · simp
      · split
        · simp
        · exact (flt_in q _ _ _).2
    · exact rows_pw r _ _ _ row h
theorem J_addXl {w : World} {c : Cfg} {m : Vars} {l : Led} {Q : Value → Vars → Led → Prop} {a b : List Nat} {y : PySem.Str} {t u : Tok} (hy : y.cps.toList = b) (hz : a.length + b.length < 10000) (h : ∀ t, Q (.str (Sx (a ++ b)) t) m l) : J w c (binaryOp .Add (.str (Sx a) t) (.str y u)) Q m l := by
  rw [eq_Sx hy]; exact J_addX hz h
theorem strOk_Sx {l : List Nat} (h : ∀ c ∈ l, c < 1114112) : PyData.strOk (Sx l) = true := by
  simp only [PyData.strOk, Sx, List.all_toArray, List.all_eq_true, decide_eq_true_eq]
  exact h
theorem wor_ok (k : Nat) : ∀ c ∈ wor k, c < 1114112 := by
  match k with
  | 0 | 1 | 2 | 3 => simp [wor]
  | n + 4 => simp [wor]
theorem kT {n : Nat} {ds : List Dat} (h : ∀ d ∈ ds, kqdOk n d = true) : kqdOk (n + 1) (.tuple ds) = true := by simpa [kqdOk] using h
theorem kL {n : Nat} {ds : List Dat} (h : ∀ d ∈ ds, kqdOk n d = true) : kqdOk (n + 1) (.list ds) = true := by simpa [kqdOk] using h
theorem kS {n : Nat} {x : PySem.Str} (h : PyData.strOk x = true) : kqdOk n (.str x) = true := by cases n <;> simpa [kqdOk] using h
theorem kI {n : Nat} {i : Int} : kqdOk n (.int i) = true := by cases n <;> simp [kqdOk]
theorem k3 {n : Nat} {k : PySem.Str} {v : Dat} {p : Nat} (hk : PyData.strOk k = true) (hv : kqdOk n v = true) : kqdOk (n + 1) (tk3 k v p) = true :=
  kT (List.forall_mem_cons.mpr ⟨kS hk, List.forall_mem_cons.mpr ⟨hv, List.forall_mem_cons.mpr ⟨kI, fun _ h => nomatch h⟩⟩⟩)
theorem pcs_ok : ∀ (ps : Ps) (t : Bool) (n : Nat) (a : List Nat) (p : Nat), wf t ps → nest ps ≤ n → (∀ c ∈ a, c < 1114112) → ∀ d ∈ pcs ps a p, kqdOk (3 * n + 2) d = true
  | .nil, t, n, a, p, _, _, ha => List.forall_mem_cons.mpr ⟨kS (strOk_Sx ha), fun _ h => nomatch h⟩
  | .sg c r, t, n, a, p, hw, hn, ha => pcs_ok r t n _ _ hw.2 hn fun x hx => (List.mem_append.mp hx).elim (ha x) fun e => by
      have h1 := hw.1
      rw [List.mem_singleton.mp e]
      cases t <;> simp at h1 <;> omega
  | .es k r, t, n, a, p, hw, hn, ha => pcs_ok r t n _ _ hw.2 hn fun x hx => (List.mem_append.mp hx).elim (ha x) (wor_ok k x)
  | .inn i q r, t, n, a, p, hw, hn, ha => by
    rw [nest] at hn
    have h2 := pcs_ok r t n [] (p + 3 + bl i q) hw.2 (by omega) (fun _ h => nomatch h)
    have key : ∀ d ∈ inToks i (pcs q [] (p + 4)) (p + 2) ++ [tk3 "end" (.str (Sx [])) (p + 2 + bl i q)], kqdOk (3 * n + 1) d = true := by
      intro d hd
      rcases List.mem_append.mp hd with hd | hd
      · match i, hw.1, hn, hd with
        | 0, _, _, hd => rw [List.mem_singleton.mp hd]; exact k3 (by decide +kernel) (kS (by decide +kernel))
        | 1, _, _, hd =>
          rcases List.mem_cons.mp hd with rfl | hd
          · exact k3 (by decide +kernel) kI
          rcases List.mem_cons.mp hd with rfl | hd
          · exact k3 (by decide +kernel) (kS (by decide +kernel))
          rw [List.mem_singleton.mp hd]; exact k3 (by decide +kernel) (kS (by decide +kernel))
        | 2, _, _, hd =>
          rcases List.mem_cons.mp hd with rfl | hd
          · exact k3 (by decide +kernel) (kS (by decide +kernel))
          rcases List.mem_cons.mp hd with rfl | hd
          · exact k3 (by decide +kernel) (kS (by decide +kernel))
          rw [List.mem_singleton.mp hd]; exact k3 (by decide +kernel) (kS (by decide +kernel))
        | j + 3, hq, hn, hd =>
          rw [List.mem_singleton.mp hd]
          rw [if_neg (by omega)] at hn
          obtain ⟨n', rfl⟩ : ∃ n', n = n' + 1 := ⟨n - 1, by omega⟩
          have := pcs_ok q false n' [] (p + 4) (hq (by omega)) (by omega) (fun _ h => nomatch h)
          exact k3 (by decide +kernel) (kL this)
      · rw [List.mem_singleton.mp hd]; exact k3 (by decide +kernel) (kS (by decide +kernel))
    exact List.forall_mem_cons.mpr ⟨kS (strOk_Sx ha), List.forall_mem_cons.mpr ⟨kL key, h2⟩⟩
theorem J_eqT {w : World} {c : Cfg} {m : Vars} {l : Led} {k : Nat} {Q : Value → Vars → Led → Prop} (G : Good w c (k + 1)) {a b : Addr} {d : Dat} {n : Nat} (h1 : DatIn l (.ref a) d) (h2 : DatIn l (.ref b) d) (hok : kqdOk n d = true) (hn : n ≤ 64) (h : Q (.bool true) m l) : J w c (compareOp .Eq (.ref a) (.ref b)) Q m l := by
  intro hp tk F N
  obtain ⟨as, ra⟩ := kqd_in N n h1 hok
  obtain ⟨bs, rb⟩ := kqd_in N n h2 hok
  have la := kqd_lay n d hok
  have hs : SeqAt.shaped (kqdP d) = true := by unfold SeqAt.shaped; rw [la.1, Bool.true_and]; exact decide_eq_true (Nat.le_trans la.2 hn)
  refine eq_dataH ra rb hs hs ?_ ?_
  · have := G.hu
    show c.A.units + 64 < 9900
    omega
  · rw [(kqd_eqv n d d n hok hok).mpr rfl]
    exact post_intro F N h
/-- the law behind its first if -/
inductive LE (tk sp : Addr) (ps : Ps) (dp : Nat) : Flow → Vars → Led → Prop
  | mk {m : Vars} {l : Led} {e : Nat} {svs : List Value} {nn : Nat} {t1 t2 t3 t4 t5 : Tok}
    (v1 : m "begin" = some (.int 3 t1)) (v2 : m "depth" = some (.int (dp : Int) t2)) (v3 : m "text" = some (.str (Sx (34 :: rend ps ++ [34])) t3)) (v4 : m "token" = some (.ref tk)) (v5 : m "spans" = some (.ref sp))
    (v6 : m "whole" = some (.str (Sx ([97, 98, 32] ++ (34 :: rend ps ++ [34]) ++ [32, 43, 49])) t4)) (v7 : m "end_of" = some (.int (e : Int) t5)) (he : e ≤ plen ps + 8) (h4 : 4 ≤ e)
    (dT : DatIn l (.ref tk) (strTok ps 3)) (hsp : (sp, W.listOf svs.toArray nn) ∈ l) (dS : DatAll l svs ((rows ps 4 3 dp).map rowD)) : LE tk sp ps dp .next m l
/-! names of the head's twins: taken, so that the head lays none (they are heavy, and the kernel does without) -/
theorem hd.tw8532818690017835123 : True := True.intro
theorem hd.tw15416830554246444837 : True := True.intro
theorem hd.tw3039998526598829958 : True := True.intro
theorem hd.tw859339990237843724 : True := True.intro
theorem hd.tw15341807382193498959 : True := True.intro
theorem hd.tw9267829862720590330 : True := True.intro
theorem hd.tw10145344219372386046 : True := True.intro
theorem hd.tw10144816814625151507 : True := True.intro
theorem hd.tw15042006015671813226 : True := True.intro
theorem hd.tw8112040973832200146 : True := True.intro
theorem hd.tw525622484199402719 : True := True.intro
theorem hd.tw4585743438046781466 : True := True.intro
theorem hd.tw7366208706002141716 : True := True.intro
theorem hd.tw402640490398009360 : True := True.intro
theorem hd.tw16007149819294483003 : True := True.intro
theorem hd.tw9386895884608548742 : True := True.intro
theorem hd.tw14091984216438838776 : True := True.intro
theorem hd.tw8458067239894703972 : True := True.intro
theorem hd.tw8117029840178788049 : True := True.intro
theorem hd.tw16412773359747925120 : True := True.intro
theorem hd.tw6545403380812914513 : True := True.intro
theorem hd.tw11210553801493137410 : True := True.intro
theorem hd.tw5781342201191254626 : True := True.intro
theorem hd.tw16634568088961857937 : True := True.intro
theorem hd.tw2114630138375439770 : True := True.intro
theorem hd.tw11660266114150955751 : True := True.intro
theorem hd.tw4014540891139286612 : True := True.intro
theorem hd.tw17062030032774818151 : True := True.intro
theorem hd.tw6060742912462422084 : True := True.intro
theorem hd.tw189712035060473897 : True := True.intro
theorem hd.tw13518370688599389936 : True := True.intro
theorem hd.tw8324504678176258764 : True := True.intro
theorem hd.tw10949625832625181284 : True := True.intro
theorem hd.tw2167537188350426706 : True := True.intro
theorem hd.tw10614716105012338702 : True := True.intro
theorem hd.tw4971549296188076032 : True := True.intro
theorem hd.tw9566141503761928105 : True := True.intro
theorem hd.tw15368132723985388332 : True := True.intro
theorem hd.tw12023040214023829324 : True := True.intro
theorem hd.tw8990031805342692484 : True := True.intro
theorem hd.tw1760603350576429475 : True := True.intro
theorem hd.tw18264374347568628810 : True := True.intro
theorem hd.tw11032806212648032379 : True := True.intro
theorem hd.tw15089522573102190283 : True := True.intro
theorem hd.tw13770079208771991547 : True := True.intro
theorem hd.tw16056359734778111409 : True := True.intro
theorem hd.tw6082411064634330575 : True := True.intro
theorem hd.tw13368278939475635651 : True := True.intro
theorem hd.tw3259873300814134281 : True := True.intro
theorem hd.tw16853341256802265648 : True := True.intro
theorem hd.tw8716120427605611371 : True := True.intro
theorem hd.tw6293948785866598258 : True := True.intro
theorem hd.tw1600037746751723098 : True := True.intro
set_option Elab.async true in
set_option maxHeartbeats 8000000 in
theorem hd : PySem.Challenge.rw_pc0028_01.Holds := by
  w_on
  o_law
  o_head (kHook Mine.KK [nat_lit 2, nat_lit 3, nat_lit 15, nat_lit 18, nat_lit 23, nat_lit 24, nat_lit 26, nat_lit 29, nat_lit 30, nat_lit 33, nat_lit 36, nat_lit 37, nat_lit 38, nat_lit 39, nat_lit 40, nat_lit 41, nat_lit 44, nat_lit 47, nat_lit 52, nat_lit 53, nat_lit 55, nat_lit 58, nat_lit 59, nat_lit 62, nat_lit 65, nat_lit 66, nat_lit 67, nat_lit 68, nat_lit 69, nat_lit 72, nat_lit 80, nat_lit 81, nat_lit 84, nat_lit 85, nat_lit 86, nat_lit 94, nat_lit 97, nat_lit 100, nat_lit 101, nat_lit 104, nat_lit 107, nat_lit 108, nat_lit 111, nat_lit 114, nat_lit 115, nat_lit 118, nat_lit 121, nat_lit 122, nat_lit 125, nat_lit 128, nat_lit 129, nat_lit 132, nat_lit 135, nat_lit 136, nat_lit 139, nat_lit 142, nat_lit 143, nat_lit 146, nat_lit 149, nat_lit 150, nat_lit 153, nat_lit 156, nat_lit 157, nat_lit 160, nat_lit 163, nat_lit 164, nat_lit 165, nat_lit 166, nat_lit 167, nat_lit 168, nat_lit 169, nat_lit 172, nat_lit 173, nat_lit 174, nat_lit 175, nat_lit 176, nat_lit 177, nat_lit 180, nat_lit 183, nat_lit 184, nat_lit 187, nat_lit 190, nat_lit 191, nat_lit 195, nat_lit 196, nat_lit 199, nat_lit 202, nat_lit 203, nat_lit 207, nat_lit 208] (fun _ => by kernel_rfl))
  case hw => w_witness2
  k_go0
  rename_i hL ra w1 r0 hI hrr hc0 hc1 K0 hD h1 F N0
  dsimp only
  refine' Mine.law_start ?zT ?zX F N0 rfl ?zH ?zq
  case zT => assumption
  case zX => assumption
  case zq => exact fun h' tk m' l' F' N' => Mine.fin_good (by assumption) F'
  case zH =>
    intro c G he hh hb0
    clear F N0 hD K0 r0 w1 ra hrr hc1
    rw [← hh] at hL
    refine J_cons ?_
    walk_at "js"
    refine J_dict2 G (by decide) fun wd o0 hwd => ?_
    refine J_cells G rfl hL hI (by omega) (by k_is) fun cla ws ms nn l' hne hms hml hsub => ?_
    refine J_int fun t0 => ?_
    have hcw : cla ≠ wd := fun e => hne (wd, o0) (.head _) e.symm
    refine ⟨[(cla, W.listOf ws.toArray nn)], fun p hp => hsub p (sw2 p hp), fun p hp => by rw [List.mem_singleton.mp hp]; exact hcw, fun o' hD' => ?_⟩
    have hB0 : WB cla [(cla, W.listOf ws.toArray nn)] := ⟨ws, ms, nn, .head _, hms, hml⟩
    have hr0 : ∀ p ∈ [(cla, W.listOf ws.toArray nn)], p.1 ≠ wd := fun p hp => by rw [List.mem_singleton.mp hp]; exact hcw
    generalize [(cla, W.listOf ws.toArray nn)] = r at hB0 hr0
    walk_at "jj"
    refine turnN (k := 99) (a := 0) (many := 5) G rfl ⟨t0, hD'⟩ hB0 hr0 (by decide) (by decide) fun dp hdp td wo1 hW1 => ?_
    walk_at "jj"
    show J _ c (newTuple _) _ _ _
    refine J_newT (fun ta hta => ?_) (Nat.le_of_ble_eq_true rfl)
    refine J_unpI G (.head _) rfl ?_
    refine J_aio ?_
    walk_at "jj"
    refine J_aio ?_
    walk_at "jj"
    refine J.sub (l' := (wd, wo1) :: r) ?_ (fun q hq => .tail _ hq)
    refine J_aio0 ?_
    walk_at "jj"
    show J _ c (call (.ref 196) [.ref wd, .int ((3 : Nat) : Int) _, .int (dp : Int) _, .int ((2 : Nat) : Int) _]) _ _ _
    refine law_string_J 2 (k := 92) G (by decide) hW1 hB0 hr0 (by decide) fun ps x nf wo2 a2 ha2 hwf hne2 hpl hfr hW2 hD2 => ?_
    have hpl2 := pl_le (n := 2) (by decide)
    obtain ⟨vs3, nv, hx, hv⟩ := datTup hD2
    obtain ⟨v1, _, rfl, d1, hv⟩ := datCons hv
    obtain ⟨v2, _, rfl, d2, hv⟩ := datCons hv
    obtain ⟨v3, _, rfl, d3, hv⟩ := datCons hv
    obtain ⟨v4, _, rfl, d4, hv⟩ := datCons hv
    obtain rfl := datNil hv
    obtain ⟨tt, rfl⟩ := datStr d1
    obtain ⟨tk, rfl⟩ := datRefT d2
    obtain ⟨sp, svs, n5, rfl, msp, dS⟩ := datRefL d4
    refine J_unp G (List.mem_append_left _ hx) ?_
    show J _ c (assignInOrder [assign (.Name (Str.ofString "text") _) _, assign (.Name (Str.ofString "token") _) _, assign (.Name (Str.ofString "faults") _) _, assign (.Name (Str.ofString "spans") _) _] _) _ _ _
    have hr2 : ∀ p ∈ nf ++ r, p.1 ≠ wd := fun p hp => (List.mem_append.mp hp).elim (fun h => Nat.ne_of_gt (hfr p h).1) (hr0 p)
    have hB2 : WB cla (nf ++ r) := hB0.mono fun q hq => List.mem_append_right _ hq
    refine J.sub (l' := (wd, wo2) :: (nf ++ r)) ?_ mid'
    walk_at "jj"
    refine J_addl (a := [97, 98, 32]) rfl (by simp only [List.length_cons, List.length_append, List.length_nil]; have : (rend ps).length ≤ pl 2 := hpl; omega) fun t6 => ?_
    walk_at "jj"
    have ha3 : a2 ≤ 190 := ha2
    have hpl3 : (rend ps).length ≤ pl 2 := hpl
    have htl : (Sx (34 :: rend ps ++ [34])).length = plen ps + 2 := by rw [Sx_len]; simp only [List.length_cons, List.length_append, List.length_nil]
    refine J_addXl (b := [32, 43, 49]) rfl (by simp only [List.length_cons, List.length_append, List.length_nil]; omega) fun t7 => ?_
    walk_at "jj"
    refine J_lenS (by rw [htl]; omega) fun t8 => ?_
    walk_at "jj"
    show J _ c (newTuple _) _ _ _
    refine J_newT (fun tb htb => ?_) (Nat.le_of_ble_eq_true rfl)
    rw [htl, show (3 : Int) + ((plen ps + 2 : Nat) : Int) + 3 = ((plen ps + 8 : Nat) : Int) by omega]
    refine J_unpI G (.head _) rfl ?_
    refine J_aio ?_
    walk_at "jj"
    refine J_aio ?_
    walk_at "jj"
    refine J.sub (l' := (wd, wo2) :: (nf ++ r)) ?_ (fun q hq => .tail _ hq)
    refine J_aio0 ?_
    walk_at "jj"
    refine turnN (k := 99) (many := 3) G rfl hW2 hB2 hr2 (by omega) (by decide) fun d1' hd1 td1 wo3 hW3 => ?_
    walk_at "jj"
    have dTn : DatIn nf (.ref tk) (strTok ps 3) := d2
    refine ite_mono (Q' := LE tk sp ps dp) ?_ ?_
    · by_cases h1 : d1' = 1
      · refine ite_bt (by rw [beq_iff_eq]; omega) ?_
        walk_at "jj"
        refine J_lenS (by rw [htl]; omega) fun t9 => ?_
        walk_at "jj"
        refine turnN (k := 99) (many := plen ps + 2) G (by rw [htl]) hW3 hB2 hr2 (by omega) (by omega) fun d3 hd3 td3 wo4 hW4 => ?_
        walk_at "jj"
        rw [show (3 : Int) + 1 + (d3 : Int) = ((4 + d3 : Nat) : Int) by omega]
        exact .mk (nn := n5) (by walk_at "lk") (by walk_at "lk") (by walk_at "lk") (by walk_at "lk") (by walk_at "lk") (by walk_at "lk") (by walk_at "lk") (by omega) (by omega) (dTn.mono fun q hq => .tail _ (List.mem_append_left _ hq)) (.tail _ (List.mem_append_left _ msp)) (dS.mono fun q hq => .tail _ (List.mem_append_left _ hq))
      · refine ite_bf (by rw [beq_eq_false_iff_ne]; omega) ?_
        refine J_nil ?_
        exact .mk (nn := n5) (by walk_at "lk") (by walk_at "lk") (by walk_at "lk") (by walk_at "lk") (by walk_at "lk") (by walk_at "lk") (by walk_at "lk") (by omega) (by omega) (dTn.mono fun q hq => .tail _ (List.mem_append_left _ hq)) (.tail _ (List.mem_append_left _ msp)) (dS.mono fun q hq => .tail _ (List.mem_append_left _ hq))
    · intro fl m l hM
      cases hM with | mk v1 v2 v3 v4 v5 v6 v7 he2 h4 dT hsp dS2 =>
      rename_i e0 svs0 nn0 y1 y2 y3 y4 y5
      show J _ c (execs _ _) _ _ _
      walk_at "jj"
      refine J_lenS (by rw [htl]; omega) fun t9 => ?_
      walk_at "jj"
      show J _ c (call (.ref 203) [.int ((3 : Nat) : Int) _, .int _ _, _, .int (dp : Int) _, _]) _ _ _
      rw [htl]
      refine refusal_J (k := 97) G hsp dS2 (rows_pw ps 4 3 dp) fun t10 => ?_
      rw [show 3 + (plen ps + 2) = 4 + plen ps + 1 by omega, refus_scan ps 4 3 dp _ (by omega)]
      walk_at "jj"
      show J _ c (call (.ref 167) [.str _ _, .int ((3 : Nat) : Int) _, _, .int (dp : Int) _]) _ _ _
      refine scan_new (k := 97) G fun x dx T hdx hxd => ?_
      walk_at "jj"
      show J _ c (unaryOp .USub _) _ _ _
      refine J_neg fun t11 => ?_
      walk_at "jj"
      show J _ c (newTuple _) _ _ _
      refine J_newT (fun tc htc => ?_) (Nat.le_of_ble_eq_true rfl)
      refine J_unpI G (.head _) rfl ?_
      refine J_aio ?_
      walk_at "jj"
      refine J_aio ?_
      walk_at "jj"
      refine J_aio ?_
      walk_at "jj"
      refine J.sub ?_ (fun q hq => .tail _ hq)
      refine J_aio0 ?_
      walk_at "jj"
      have hLl : ([97, 98, 32] ++ (34 :: rend ps ++ [34]) ++ [32, 43, 49]).length = plen ps + 8 := by have : plen ps = (rend ps).length := rfl; simp only [List.length_cons, List.length_append, List.length_nil]; omega
      have hAt : At ([97, 98, 32] ++ (34 :: rend ps ++ [34]) ++ [32, 43, 49]) 3 (34 :: rend ps ++ [34]) := ⟨[32, 43, 49], rfl⟩
      generalize [97, 98, 32] ++ (34 :: rend ps ++ [34]) ++ [32, 43, 49] = L at hLl hAt v6
      refine' J_tryTF G he hb0 ?hC ?hbm ?hga ?hgg ?hh2 ?ha ?hm ?ex (fun n => ∃ f : Nat, n = (f : Int) ∧ scan ps 4 3 dp e0 = some f) ?hbody ?hcat
      case hC => k_is
      case hbm => rfl
      case hga => k_is
      case hgg => k_is
      case hh2 => k_is
      case ha => k_is
      case hm => k_is
      case ex => k_is
      case hbody =>
        intro E' G' hR
        walk_at "jj"
        show J _ _ (call (.ref 150) [.ref x]) _ _ _
        refine string_J 2 (k := 76) G' (.head _) (List.forall_mem_cons.mpr ⟨Nat.ne_of_gt hxd, fun q hq => Nat.ne_of_lt (hdx q hq)⟩) (by omega) (by omega) hne2 hwf hAt (by omega) (fun f hf => hR f ⟨f, rfl, hf⟩) fun hs a nf2 T2 hf2 hD3 => ?_
        have hs2 : scan ps 4 3 dp e0 = none := hs
        rw [hs2]
        refine J.sub (l' := (dx, _) :: (x, instObj 167 dx) :: (nf2 ++ l)) ?_ (List.forall_mem_cons.mpr ⟨List.mem_append_right _ (.head _), List.forall_mem_cons.mpr ⟨List.mem_append_right _ (.tail _ (.head _)), fun q hq => (List.mem_append.mp hq).elim (List.mem_append_left _) fun h => List.mem_append_right _ (.tail _ (.tail _ h))⟩⟩)
        walk_at "jj"
        refine ⟨rfl, ?_⟩
        show J _ c (execs _ _) _ _ _
        walk_at "jj"
        refine ite_bf rfl ?_
        walk_at "jj"
        refine J_ge ?_
        walk_at "jj"
        refine ite_bf rfl ?_
        walk_at "jj"
        refine J_eqT (n := 10) G (hD3.mono fun q hq => .tail _ (.tail _ (List.mem_append_left _ hq))) (dT.mono fun q hq => .tail _ (.tail _ (List.mem_append_right _ hq))) (k3 (by decide +kernel) (kL (pcs_ok ps _ 2 [] _ hwf hne2 (fun _ h => nomatch h)))) (by decide) ?_
        walk_at "jj"
        refine J_lenS (by rw [htl]; omega) fun t12 => ?_
        walk_at "jj"
        rw [htl]
        refine ite_bt (by rw [beq_iff_eq]; omega) ?_
        walk_at "jj"
        show Flow.ret _ = Flow.ret _
        rw [beq_self_eq_true]
      case hcat =>
        intro n m' tn hP hsp2 hm2
        obtain ⟨f, rfl, hs⟩ := hP
        show J _ c (execs _ _) _ _ _
        have hdue : m' (Str.ofString "due") = some (.int (f : Int) t10) := by
          rw [hm2 _ (by decide) (by decide)]
          rw [hs]
          walk_at "lk"
        walk_at "jj"
        refine ite_bf (bne_self_eq_false _) ?_
        walk_at "jj"
        refine J_ge ?_
        walk_at "jj"
        refine ite_bt (decide_eq_true (Int.natCast_nonneg f)) ?_
        show Flow.ret _ = Flow.ret _
        rw [decide_eq_true (Int.natCast_nonneg f)]


end Mine
theorem PySem.Challenge.cw_pc0028_01_holds : PySem.Challenge.rw_pc0028_01.Holds := by
  exact Mine.hd
