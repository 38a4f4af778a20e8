import PyProof.Rows.All
import Wide.All
import OpenK.AllK
import Wide.FinOn
import PySem.Challenge.RW_np0051_01
open PySem PySem.W PyProof.Rows PySem.Spec PySem.Calls Builtin.ObjectAttr
set_option Elab.async false
set_option maxRecDepth 100000
set_option maxHeartbeats 8000000
set_option linter.unusedVariables false
set_option linter.unusedSimpArgs false
namespace Mine
/-- the statements of the text, by their places -/
noncomputable def nthS : List Stmt → Nat → Stmt
  | [], _ => .Pass ⟨0, 0, 0, 0⟩
  | s :: _, 0 => s
  | _ :: l, n + 1 => nthS l n
noncomputable def fArgs : Stmt → Arguments
  | .FunctionDef _ a _ _ _ _ _ _ _ _ => a
  | _ => { posonlyargs := [], args := [], vararg := none, kwonlyargs := [], kw_defaults := [], kwarg := none, defaults := [] }
noncomputable def fBody : Stmt → List Stmt
  | .FunctionDef _ _ b _ _ _ _ _ _ _ => b
  | .ClassDef _ _ _ b _ _ _ _ _ _ _ => b
  | _ => []
noncomputable def fScope : Stmt → Scope
  | .FunctionDef _ _ _ _ _ _ s _ _ _ => s
  | _ => { kind := .module, names := [], isGenerator := false, isCoroutine := false }
noncomputable def tf (n : Nat) : Stmt := nthS PySem.Challenge.pw_np0051_01.main.body n
noncomputable def mf (n k : Nat) : Stmt := nthS (fBody (tf n)) k
abbrev zS (x : String) : PySem.Str := PySem.Str.ofString x
/-- what stands behind the text's own top (a program of this repo's own has printed it) -/
noncomputable def heapK : Params → Frag := by
  refine' (?F : ∀ f28 f42 f47 f54 f61 f70 f77 f84 f91 f105 f112 f119 f126 f147 f154 f161 f168 f175 f182 f189 f196 f203 f210 f215 f222 f229 f236 f243 f250 f264 f271 f278 f285 f290 f295 : FuncData,
    ({ name := zS "__init__", qualname := zS "LispSignal.__init__", params := (fArgs (mf 1 0)), body := FuncBody.stmts (fBody (mf 1 0)), scope := (fScope (mf 1 0)), globals := 3, closure := [], defaults := Value.none, kwdefaults := Value.none, pyModule := Value.str (zS "emacs.errors") 187, code := Value.ref 27 } : FuncData) = f28 →
    ({ name := zS "class_end", qualname := zS "class_end", params := (fArgs (tf 10)), body := FuncBody.stmts (fBody (tf 10)), scope := (fScope (tf 10)), globals := 3, closure := [], defaults := Value.none, kwdefaults := Value.none, pyModule := Value.str (zS "emacs.regsets") 220, code := Value.ref 41 } : FuncData) = f42 →
    ({ name := zS "read_class", qualname := zS "read_class", params := (fArgs (tf 11)), body := FuncBody.stmts (fBody (tf 11)), scope := (fScope (tf 11)), globals := 3, closure := [], defaults := Value.none, kwdefaults := Value.none, pyModule := Value.str (zS "emacs.regsets") 220, code := Value.ref 46 } : FuncData) = f47 →
    ({ name := zS "read_part", qualname := zS "read_part", params := (fArgs (tf 12)), body := FuncBody.stmts (fBody (tf 12)), scope := (fScope (tf 12)), globals := 3, closure := [], defaults := Value.none, kwdefaults := Value.none, pyModule := Value.str (zS "emacs.regsets") 220, code := Value.ref 53 } : FuncData) = f54 →
    ({ name := zS "read_set", qualname := zS "read_set", params := (fArgs (tf 13)), body := FuncBody.stmts (fBody (tf 13)), scope := (fScope (tf 13)), globals := 3, closure := [], defaults := Value.none, kwdefaults := Value.none, pyModule := Value.str (zS "emacs.regsets") 220, code := Value.ref 60 } : FuncData) = f61 →
    ({ name := zS "bad_regexp", qualname := zS "bad_regexp", params := (fArgs (tf 19)), body := FuncBody.stmts (fBody (tf 19)), scope := (fScope (tf 19)), globals := 3, closure := [], defaults := Value.none, kwdefaults := Value.none, pyModule := Value.str (zS "emacs.regnodes") 290, code := Value.ref 69 } : FuncData) = f70 →
    ({ name := zS "sign_at", qualname := zS "sign_at", params := (fArgs (tf 20)), body := FuncBody.stmts (fBody (tf 20)), scope := (fScope (tf 20)), globals := 3, closure := [], defaults := Value.none, kwdefaults := Value.none, pyModule := Value.str (zS "emacs.regnodes") 290, code := Value.ref 76 } : FuncData) = f77 →
    ({ name := zS "is_escaped", qualname := zS "is_escaped", params := (fArgs (tf 21)), body := FuncBody.stmts (fBody (tf 21)), scope := (fScope (tf 21)), globals := 3, closure := [], defaults := Value.none, kwdefaults := Value.none, pyModule := Value.str (zS "emacs.regnodes") 290, code := Value.ref 83 } : FuncData) = f84 →
    ({ name := zS "joined", qualname := zS "joined", params := (fArgs (tf 22)), body := FuncBody.stmts (fBody (tf 22)), scope := (fScope (tf 22)), globals := 3, closure := [], defaults := Value.none, kwdefaults := Value.none, pyModule := Value.str (zS "emacs.regnodes") 290, code := Value.ref 90 } : FuncData) = f91 →
    ({ name := zS "__init__", qualname := zS "Frame.__init__", params := (fArgs (mf 23 0)), body := FuncBody.stmts (fBody (mf 23 0)), scope := (fScope (mf 23 0)), globals := 3, closure := [], defaults := Value.none, kwdefaults := Value.none, pyModule := Value.str (zS "emacs.regnodes") 290, code := Value.ref 104 } : FuncData) = f105 →
    ({ name := zS "put", qualname := zS "Frame.put", params := (fArgs (mf 23 1)), body := FuncBody.stmts (fBody (mf 23 1)), scope := (fScope (mf 23 1)), globals := 3, closure := [], defaults := Value.none, kwdefaults := Value.none, pyModule := Value.str (zS "emacs.regnodes") 290, code := Value.ref 111 } : FuncData) = f112 →
    ({ name := zS "part", qualname := zS "Frame.part", params := (fArgs (mf 23 2)), body := FuncBody.stmts (fBody (mf 23 2)), scope := (fScope (mf 23 2)), globals := 3, closure := [], defaults := Value.none, kwdefaults := Value.none, pyModule := Value.str (zS "emacs.regnodes") 290, code := Value.ref 118 } : FuncData) = f119 →
    ({ name := zS "node", qualname := zS "Frame.node", params := (fArgs (mf 23 3)), body := FuncBody.stmts (fBody (mf 23 3)), scope := (fScope (mf 23 3)), globals := 3, closure := [], defaults := Value.none, kwdefaults := Value.none, pyModule := Value.str (zS "emacs.regnodes") 290, code := Value.ref 125 } : FuncData) = f126 →
    ({ name := zS "__init__", qualname := zS "Parsing.__init__", params := (fArgs (mf 24 0)), body := FuncBody.stmts (fBody (mf 24 0)), scope := (fScope (mf 24 0)), globals := 3, closure := [], defaults := Value.none, kwdefaults := Value.none, pyModule := Value.str (zS "emacs.regnodes") 290, code := Value.ref 146 } : FuncData) = f147 →
    ({ name := zS "top", qualname := zS "Parsing.top", params := (fArgs (mf 24 1)), body := FuncBody.stmts (fBody (mf 24 1)), scope := (fScope (mf 24 1)), globals := 3, closure := [], defaults := Value.none, kwdefaults := Value.none, pyModule := Value.str (zS "emacs.regnodes") 290, code := Value.ref 153 } : FuncData) = f154 →
    ({ name := zS "sign", qualname := zS "Parsing.sign", params := (fArgs (mf 24 2)), body := FuncBody.stmts (fBody (mf 24 2)), scope := (fScope (mf 24 2)), globals := 3, closure := [], defaults := Value.none, kwdefaults := Value.none, pyModule := Value.str (zS "emacs.regnodes") 290, code := Value.ref 160 } : FuncData) = f161 →
    ({ name := zS "whole", qualname := zS "Parsing.whole", params := (fArgs (mf 24 3)), body := FuncBody.stmts (fBody (mf 24 3)), scope := (fScope (mf 24 3)), globals := 3, closure := [], defaults := Value.none, kwdefaults := Value.none, pyModule := Value.str (zS "emacs.regnodes") 290, code := Value.ref 167 } : FuncData) = f168 →
    ({ name := zS "step", qualname := zS "Parsing.step", params := (fArgs (mf 24 4)), body := FuncBody.stmts (fBody (mf 24 4)), scope := (fScope (mf 24 4)), globals := 3, closure := [], defaults := Value.none, kwdefaults := Value.none, pyModule := Value.str (zS "emacs.regnodes") 290, code := Value.ref 174 } : FuncData) = f175 →
    ({ name := zS "repeated", qualname := zS "Parsing.repeated", params := (fArgs (mf 24 5)), body := FuncBody.stmts (fBody (mf 24 5)), scope := (fScope (mf 24 5)), globals := 3, closure := [], defaults := Value.none, kwdefaults := Value.none, pyModule := Value.str (zS "emacs.regnodes") 290, code := Value.ref 181 } : FuncData) = f182 →
    ({ name := zS "repeat", qualname := zS "Parsing.repeat", params := (fArgs (mf 24 6)), body := FuncBody.stmts (fBody (mf 24 6)), scope := (fScope (mf 24 6)), globals := 3, closure := [], defaults := Value.none, kwdefaults := Value.none, pyModule := Value.str (zS "emacs.regnodes") 290, code := Value.ref 188 } : FuncData) = f189 →
    ({ name := zS "escaped", qualname := zS "Parsing.escaped", params := (fArgs (mf 24 7)), body := FuncBody.stmts (fBody (mf 24 7)), scope := (fScope (mf 24 7)), globals := 3, closure := [], defaults := Value.none, kwdefaults := Value.none, pyModule := Value.str (zS "emacs.regnodes") 290, code := Value.ref 195 } : FuncData) = f196 →
    ({ name := zS "by_syntax", qualname := zS "Parsing.by_syntax", params := (fArgs (mf 24 8)), body := FuncBody.stmts (fBody (mf 24 8)), scope := (fScope (mf 24 8)), globals := 3, closure := [], defaults := Value.none, kwdefaults := Value.none, pyModule := Value.str (zS "emacs.regnodes") 290, code := Value.ref 202 } : FuncData) = f203 →
    ({ name := zS "by_symbol", qualname := zS "Parsing.by_symbol", params := (fArgs (mf 24 9)), body := FuncBody.stmts (fBody (mf 24 9)), scope := (fScope (mf 24 9)), globals := 3, closure := [], defaults := Value.none, kwdefaults := Value.none, pyModule := Value.str (zS "emacs.regnodes") 290, code := Value.ref 209 } : FuncData) = f210 →
    ({ name := zS "back", qualname := zS "Parsing.back", params := (fArgs (mf 24 10)), body := FuncBody.stmts (fBody (mf 24 10)), scope := (fScope (mf 24 10)), globals := 3, closure := [], defaults := Value.none, kwdefaults := Value.none, pyModule := Value.str (zS "emacs.regnodes") 290, code := Value.ref 214 } : FuncData) = f215 →
    ({ name := zS "opened", qualname := zS "Parsing.opened", params := (fArgs (mf 24 11)), body := FuncBody.stmts (fBody (mf 24 11)), scope := (fScope (mf 24 11)), globals := 3, closure := [], defaults := Value.none, kwdefaults := Value.none, pyModule := Value.str (zS "emacs.regnodes") 290, code := Value.ref 221 } : FuncData) = f222 →
    ({ name := zS "closed", qualname := zS "Parsing.closed", params := (fArgs (mf 24 12)), body := FuncBody.stmts (fBody (mf 24 12)), scope := (fScope (mf 24 12)), globals := 3, closure := [], defaults := Value.none, kwdefaults := Value.none, pyModule := Value.str (zS "emacs.regnodes") 290, code := Value.ref 228 } : FuncData) = f229 →
    ({ name := zS "number", qualname := zS "Parsing.number", params := (fArgs (mf 24 13)), body := FuncBody.stmts (fBody (mf 24 13)), scope := (fScope (mf 24 13)), globals := 3, closure := [], defaults := Value.none, kwdefaults := Value.none, pyModule := Value.str (zS "emacs.regnodes") 290, code := Value.ref 235 } : FuncData) = f236 →
    ({ name := zS "bounds", qualname := zS "Parsing.bounds", params := (fArgs (mf 24 14)), body := FuncBody.stmts (fBody (mf 24 14)), scope := (fScope (mf 24 14)), globals := 3, closure := [], defaults := Value.none, kwdefaults := Value.none, pyModule := Value.str (zS "emacs.regnodes") 290, code := Value.ref 242 } : FuncData) = f243 →
    ({ name := zS "counted", qualname := zS "Parsing.counted", params := (fArgs (mf 24 15)), body := FuncBody.stmts (fBody (mf 24 15)), scope := (fScope (mf 24 15)), globals := 3, closure := [], defaults := Value.none, kwdefaults := Value.none, pyModule := Value.str (zS "emacs.regnodes") 290, code := Value.ref 249 } : FuncData) = f250 →
    ({ name := zS "parse_regexp", qualname := zS "parse_regexp", params := (fArgs (tf 25)), body := FuncBody.stmts (fBody (tf 25)), scope := (fScope (tf 25)), globals := 3, closure := [], defaults := Value.none, kwdefaults := Value.none, pyModule := Value.str (zS "emacs.regnodes") 290, code := Value.ref 263 } : FuncData) = f264 →
    ({ name := zS "_law_draw", qualname := zS "_law_draw", params := (fArgs (tf 27)), body := FuncBody.stmts (fBody (tf 27)), scope := (fScope (tf 27)), globals := 3, closure := [], defaults := Value.none, kwdefaults := Value.none, pyModule := Value.str (zS "law_np0051_01") 583, code := Value.ref 270 } : FuncData) = f271 →
    ({ name := zS "_law_pieces", qualname := zS "_law_pieces", params := (fArgs (tf 28)), body := FuncBody.stmts (fBody (tf 28)), scope := (fScope (tf 28)), globals := 3, closure := [], defaults := Value.none, kwdefaults := Value.none, pyModule := Value.str (zS "law_np0051_01") 583, code := Value.ref 277 } : FuncData) = f278 →
    ({ name := zS "_law_looked", qualname := zS "_law_looked", params := (fArgs (tf 29)), body := FuncBody.stmts (fBody (tf 29)), scope := (fScope (tf 29)), globals := 3, closure := [], defaults := Value.none, kwdefaults := Value.none, pyModule := Value.str (zS "law_np0051_01") 583, code := Value.ref 284 } : FuncData) = f285 →
    ({ name := zS "_law_told", qualname := zS "_law_told", params := (fArgs (tf 30)), body := FuncBody.stmts (fBody (tf 30)), scope := (fScope (tf 30)), globals := 3, closure := [], defaults := Value.none, kwdefaults := Value.none, pyModule := Value.str (zS "law_np0051_01") 583, code := Value.ref 289 } : FuncData) = f290 →
    ({ name := zS "law", qualname := zS "law", params := (fArgs (tf 31)), body := FuncBody.stmts (fBody (tf 31)), scope := (fScope (tf 31)), globals := 3, closure := [], defaults := Value.none, kwdefaults := Value.none, pyModule := Value.str (zS "law_np0051_01") 583, code := Value.ref 294 } : FuncData) = f295 →
    Params → Frag) _ _ _ _ _ _ _ _ _ _ _ _ _ _ _ _ _ _ _ _ _ _ _ _ _ _ _ _ _ _ _ _ _ _ _
    (by dsimp only [zS, tf, mf, nthS, fArgs, fBody, fScope, PySem.Challenge.pw_np0051_01])
    (by dsimp only [zS, tf, mf, nthS, fArgs, fBody, fScope, PySem.Challenge.pw_np0051_01])
    (by dsimp only [zS, tf, mf, nthS, fArgs, fBody, fScope, PySem.Challenge.pw_np0051_01])
    (by dsimp only [zS, tf, mf, nthS, fArgs, fBody, fScope, PySem.Challenge.pw_np0051_01])
    (by dsimp only [zS, tf, mf, nthS, fArgs, fBody, fScope, PySem.Challenge.pw_np0051_01])
    (by dsimp only [zS, tf, mf, nthS, fArgs, fBody, fScope, PySem.Challenge.pw_np0051_01])
    (by dsimp only [zS, tf, mf, nthS, fArgs, fBody, fScope, PySem.Challenge.pw_np0051_01])
    (by dsimp only [zS, tf, mf, nthS, fArgs, fBody, fScope, PySem.Challenge.pw_np0051_01])
    (by dsimp only [zS, tf, mf, nthS, fArgs, fBody, fScope, PySem.Challenge.pw_np0051_01])
    (by dsimp only [zS, tf, mf, nthS, fArgs, fBody, fScope, PySem.Challenge.pw_np0051_01])
    (by dsimp only [zS, tf, mf, nthS, fArgs, fBody, fScope, PySem.Challenge.pw_np0051_01])
    (by dsimp only [zS, tf, mf, nthS, fArgs, fBody, fScope, PySem.Challenge.pw_np0051_01])
    (by dsimp only [zS, tf, mf, nthS, fArgs, fBody, fScope, PySem.Challenge.pw_np0051_01])
    (by dsimp only [zS, tf, mf, nthS, fArgs, fBody, fScope, PySem.Challenge.pw_np0051_01])
    (by dsimp only [zS, tf, mf, nthS, fArgs, fBody, fScope, PySem.Challenge.pw_np0051_01])
    (by dsimp only [zS, tf, mf, nthS, fArgs, fBody, fScope, PySem.Challenge.pw_np0051_01])
    (by dsimp only [zS, tf, mf, nthS, fArgs, fBody, fScope, PySem.Challenge.pw_np0051_01])
    (by dsimp only [zS, tf, mf, nthS, fArgs, fBody, fScope, PySem.Challenge.pw_np0051_01])
    (by dsimp only [zS, tf, mf, nthS, fArgs, fBody, fScope, PySem.Challenge.pw_np0051_01])
    (by dsimp only [zS, tf, mf, nthS, fArgs, fBody, fScope, PySem.Challenge.pw_np0051_01])
    (by dsimp only [zS, tf, mf, nthS, fArgs, fBody, fScope, PySem.Challenge.pw_np0051_01])
    (by dsimp only [zS, tf, mf, nthS, fArgs, fBody, fScope, PySem.Challenge.pw_np0051_01])
    (by dsimp only [zS, tf, mf, nthS, fArgs, fBody, fScope, PySem.Challenge.pw_np0051_01])
    (by dsimp only [zS, tf, mf, nthS, fArgs, fBody, fScope, PySem.Challenge.pw_np0051_01])
    (by dsimp only [zS, tf, mf, nthS, fArgs, fBody, fScope, PySem.Challenge.pw_np0051_01])
    (by dsimp only [zS, tf, mf, nthS, fArgs, fBody, fScope, PySem.Challenge.pw_np0051_01])
    (by dsimp only [zS, tf, mf, nthS, fArgs, fBody, fScope, PySem.Challenge.pw_np0051_01])
    (by dsimp only [zS, tf, mf, nthS, fArgs, fBody, fScope, PySem.Challenge.pw_np0051_01])
    (by dsimp only [zS, tf, mf, nthS, fArgs, fBody, fScope, PySem.Challenge.pw_np0051_01])
    (by dsimp only [zS, tf, mf, nthS, fArgs, fBody, fScope, PySem.Challenge.pw_np0051_01])
    (by dsimp only [zS, tf, mf, nthS, fArgs, fBody, fScope, PySem.Challenge.pw_np0051_01])
    (by dsimp only [zS, tf, mf, nthS, fArgs, fBody, fScope, PySem.Challenge.pw_np0051_01])
    (by dsimp only [zS, tf, mf, nthS, fArgs, fBody, fScope, PySem.Challenge.pw_np0051_01])
    (by dsimp only [zS, tf, mf, nthS, fArgs, fBody, fScope, PySem.Challenge.pw_np0051_01])
    (by dsimp only [zS, tf, mf, nthS, fArgs, fBody, fScope, PySem.Challenge.pw_np0051_01])
  exact fun f28 f42 f47 f54 f61 f70 f77 f84 f91 f105 f112 f119 f126 f147 f154 f161 f168 f175 f182 f189 f196 f203 f210 f215 f222 f229 f236 f243 f250 f264 f271 f278 f285 f290 f295 _ _ _ _ _ _ _ _ _ _ _ _ _ _ _ _ _ _ _ _ _ _ _ _ _ _ _ _ _ _ _ _ _ _ _ P =>
  (nat_lit 2, { cls := Value.none, data := Data.dict #[{ hash := PyData.keyHash P (zS "type.__subclasses__.Exception.0"), key := Value.str (zS "type.__subclasses__.Exception.0") 216, val := Value.int 31 0 }, { hash := PyData.keyHash P (zS "type.__subclasses__.Exception.n"), key := Value.str (zS "type.__subclasses__.Exception.n") 217, val := Value.int 1 0 }] 2 }) ::
  (nat_lit 3, { cls := Value.type "dict", data := Data.dict #[{ hash := PyData.keyHash P (zS "__name__"), key := Value.str (zS "__name__") 165, val := Value.str (zS "law_np0051_01") 583 }, { hash := PyData.keyHash P (zS "__doc__"), key := Value.str (zS "__doc__") 166, val := Value.none }, { hash := PyData.keyHash P (zS "__package__"), key := Value.str (zS "__package__") 167, val := Value.none }, { hash := PyData.keyHash P (zS "__loader__"), key := Value.str (zS "__loader__") 168, val := Value.builtin "__main__.__loader__#opaque" }, { hash := PyData.keyHash P (zS "__spec__"), key := Value.str (zS "__spec__") 169, val := Value.none }, { hash := PyData.keyHash P (zS "__annotations__"), key := Value.str (zS "__annotations__") 170, val := Value.ref 6 }, { hash := PyData.keyHash P (zS "__builtins__"), key := Value.str (zS "__builtins__") 171, val := Value.ref 4 }, { hash := PyData.keyHash P (zS "__file__"), key := Value.str (zS "__file__") 173, val := Value.str (zS "/claim/cut.py") 172 }, { hash := PyData.keyHash P (zS "__cached__"), key := Value.str (zS "__cached__") 174, val := Value.none }, { hash := PyData.keyHash P (zS "LispSignal"), key := Value.str (zS "LispSignal") 219, val := Value.ref 31 }, { hash := PyData.keyHash P (zS "CLASSES"), key := Value.str (zS "CLASSES") 239, val := Value.ref 35 }, { hash := PyData.keyHash P (zS "CLOSES"), key := Value.str (zS "CLOSES") 241, val := Value.int 93 240 }, { hash := PyData.keyHash P (zS "OPENS"), key := Value.str (zS "OPENS") 243, val := Value.int 91 242 }, { hash := PyData.keyHash P (zS "COLON"), key := Value.str (zS "COLON") 245, val := Value.int 58 244 }, { hash := PyData.keyHash P (zS "MINUS"), key := Value.str (zS "MINUS") 247, val := Value.int 45 246 }, { hash := PyData.keyHash P (zS "NOT"), key := Value.str (zS "NOT") 249, val := Value.int 94 248 }, { hash := PyData.keyHash P (zS "UNMATCHED"), key := Value.str (zS "UNMATCHED") 251, val := Value.str (zS "Unmatched [ or [^") 250 }, { hash := PyData.keyHash P (zS "class_end"), key := Value.str (zS "class_end") 260, val := Value.ref 42 }, { hash := PyData.keyHash P (zS "read_class"), key := Value.str (zS "read_class") 266, val := Value.ref 47 }, { hash := PyData.keyHash P (zS "read_part"), key := Value.str (zS "read_part") 275, val := Value.ref 54 }, { hash := PyData.keyHash P (zS "read_set"), key := Value.str (zS "read_set") 289, val := Value.ref 61 }, { hash := PyData.keyHash P (zS "PLACES"), key := Value.str (zS "PLACES") 313, val := Value.ref 62 }, { hash := PyData.keyHash P (zS "SYMBOL_PLACES"), key := Value.str (zS "SYMBOL_PLACES") 320, val := Value.ref 63 }, { hash := PyData.keyHash P (zS "KINDS"), key := Value.str (zS "KINDS") 322, val := Value.str (zS " w_.()'\"\\/$<>@!|") 321 }, { hash := PyData.keyHash P (zS "MOST_TIMES"), key := Value.str (zS "MOST_TIMES") 324, val := Value.int 65535 323 }, { hash := PyData.keyHash P (zS "bad_regexp"), key := Value.str (zS "bad_regexp") 331, val := Value.ref 70 }, { hash := PyData.keyHash P (zS "sign_at"), key := Value.str (zS "sign_at") 339, val := Value.ref 77 }, { hash := PyData.keyHash P (zS "is_escaped"), key := Value.str (zS "is_escaped") 348, val := Value.ref 84 }, { hash := PyData.keyHash P (zS "joined"), key := Value.str (zS "joined") 355, val := Value.ref 91 }, { hash := PyData.keyHash P (zS "Frame"), key := Value.str (zS "Frame") 411, val := Value.ref 129 }, { hash := PyData.keyHash P (zS "Parsing"), key := Value.str (zS "Parsing") 574, val := Value.ref 253 }, { hash := PyData.keyHash P (zS "parse_regexp"), key := Value.str (zS "parse_regexp") 582, val := Value.ref 264 }, { hash := PyData.keyHash P (zS "_law_draw"), key := Value.str (zS "_law_draw") 592, val := Value.ref 271 }, { hash := PyData.keyHash P (zS "_law_pieces"), key := Value.str (zS "_law_pieces") 599, val := Value.ref 278 }, { hash := PyData.keyHash P (zS "_law_looked"), key := Value.str (zS "_law_looked") 613, val := Value.ref 285 }, { hash := PyData.keyHash P (zS "_law_told"), key := Value.str (zS "_law_told") 619, val := Value.ref 290 }, { hash := PyData.keyHash P (zS "law"), key := Value.str (zS "law") 625, val := Value.ref 295 }] 37 }) ::
  (nat_lit 15, { cls := Value.type "tuple", data := Data.seq #[Value.type "Exception"] }) ::
  (nat_lit 22, { cls := Value.type "tuple", data := Data.seq #[] }) ::
  (nat_lit 24, { cls := Value.type "tuple", data := Data.seq #[Value.str (zS "self") 204, Value.str (zS "symbol") 205, Value.str (zS "data") 206] }) ::
  (nat_lit 25, { cls := Value.type "tuple", data := Data.seq #[] }) ::
  (nat_lit 27, { cls := Value.type "code", data := Data.fields #[Value.str (zS "__init__") 201, Value.str (zS "LispSignal.__init__") 202, Value.str (zS "/claim/cut.py") 203, Value.int 4 0, Value.int 3 0, Value.int 0 0, Value.int 0 0, Value.int 3 0, Value.ref 22, Value.bool true, Value.int 181 0, Value.ref 23, Value.none, Value.ref 24, Value.ref 25, Value.ref 26, Value.int 207 0, Value.int 4 0, Value.str (zS "/claim/cut.py") 208] }) ::
  (nat_lit 28, { cls := Value.type "function", data := Data.func f28 }) ::
  (nat_lit 29, { cls := Value.type "tuple", data := Data.seq #[Value.str (zS "data") 210, Value.str (zS "symbol") 211] }) ::
  (nat_lit 30, { cls := Value.type "dict", data := Data.dict #[{ hash := PyData.keyHash P (zS "__module__"), key := Value.str (zS "__module__") 196, val := Value.str (zS "emacs.errors") 187 }, { hash := PyData.keyHash P (zS "__firstlineno__"), key := Value.str (zS "__firstlineno__") 200, val := Value.int 2 199 }, { hash := PyData.keyHash P (zS "__init__"), key := Value.str (zS "__init__") 209, val := Value.ref 28 }, { hash := PyData.keyHash P (zS "__static_attributes__"), key := Value.str (zS "__static_attributes__") 212, val := Value.ref 29 }, { hash := PyData.keyHash P (zS "__weakref__"), key := Value.str (zS "__weakref__") 214, val := Value.ref 32 }, { hash := PyData.keyHash P (zS "__doc__"), key := Value.str (zS "__doc__") 215, val := Value.none }] 3 }) ::
  (nat_lit 31, { cls := Value.type "type", data := Data.cls { name := zS "LispSignal", bases := [Value.type "Exception"], mro := [Value.ref 31, Value.type "Exception", Value.type "BaseException", Value.type "object"], ns := 30, qualname := zS "LispSignal" }, slots := #[some (Value.ref 15), none, some (Value.str (zS "LispSignal") 189), some (Value.str (zS "LispSignal") 197), some (Value.builtin "Exception.__new__"), some (Value.bool true)] }) ::
  (nat_lit 32, { cls := Value.type "getset_descriptor", data := Data.fields #[Value.str (zS "__weakref__") 213, Value.ref 31, Value.builtin "ExceptionGroup.__weakref__", Value.none] }) ::
  (nat_lit 35, { cls := Value.type "tuple", data := Data.seq #[Value.str (zS "alnum") 222, Value.str (zS "alpha") 223, Value.str (zS "ascii") 224, Value.str (zS "blank") 225, Value.str (zS "cntrl") 226, Value.str (zS "digit") 227, Value.str (zS "graph") 228, Value.str (zS "lower") 229, Value.str (zS "multibyte") 230, Value.str (zS "nonascii") 231, Value.str (zS "print") 232, Value.str (zS "punct") 233, Value.str (zS "space") 234, Value.str (zS "unibyte") 235, Value.str (zS "upper") 236, Value.str (zS "word") 237, Value.str (zS "xdigit") 238] }) ::
  (nat_lit 36, { cls := Value.type "tuple", data := Data.seq #[] }) ::
  (nat_lit 38, { cls := Value.type "tuple", data := Data.seq #[Value.str (zS "codes") 255, Value.str (zS "place") 256, Value.str (zS "at") 257] }) ::
  (nat_lit 39, { cls := Value.type "tuple", data := Data.seq #[] }) ::
  (nat_lit 41, { cls := Value.type "code", data := Data.fields #[Value.str (zS "class_end") 252, Value.str (zS "class_end") 253, Value.str (zS "/claim/cut.py") 254, Value.int 15 0, Value.int 2 0, Value.int 0 0, Value.int 0 0, Value.int 3 0, Value.ref 36, Value.bool true, Value.int 181 0, Value.ref 37, Value.none, Value.ref 38, Value.ref 39, Value.ref 40, Value.int 258 0, Value.int 15 0, Value.str (zS "/claim/cut.py") 259] }) ::
  (nat_lit 42, { cls := Value.type "function", data := Data.func f42 }) ::
  (nat_lit 43, { cls := Value.type "tuple", data := Data.seq #[] }) ::
  (nat_lit 46, { cls := Value.type "code", data := Data.fields #[Value.str (zS "read_class") 261, Value.str (zS "read_class") 262, Value.str (zS "/claim/cut.py") 263, Value.int 20 0, Value.int 2 0, Value.int 0 0, Value.int 0 0, Value.int 3 0, Value.ref 43, Value.bool true, Value.int 181 0, Value.ref 44, Value.none, Value.none, Value.none, Value.ref 45, Value.int 264 0, Value.int 20 0, Value.str (zS "/claim/cut.py") 265] }) ::
  (nat_lit 47, { cls := Value.type "function", data := Data.func f47 }) ::
  (nat_lit 48, { cls := Value.type "tuple", data := Data.seq #[] }) ::
  (nat_lit 50, { cls := Value.type "tuple", data := Data.seq #[Value.str (zS "codes") 270, Value.str (zS "place") 271, Value.str (zS "first") 272] }) ::
  (nat_lit 51, { cls := Value.type "tuple", data := Data.seq #[] }) ::
  (nat_lit 53, { cls := Value.type "code", data := Data.fields #[Value.str (zS "read_part") 267, Value.str (zS "read_part") 268, Value.str (zS "/claim/cut.py") 269, Value.int 30 0, Value.int 2 0, Value.int 0 0, Value.int 0 0, Value.int 3 0, Value.ref 48, Value.bool true, Value.int 181 0, Value.ref 49, Value.none, Value.ref 50, Value.ref 51, Value.ref 52, Value.int 273 0, Value.int 30 0, Value.str (zS "/claim/cut.py") 274] }) ::
  (nat_lit 54, { cls := Value.type "function", data := Data.func f54 }) ::
  (nat_lit 55, { cls := Value.type "tuple", data := Data.seq #[] }) ::
  (nat_lit 57, { cls := Value.type "tuple", data := Data.seq #[Value.str (zS "codes") 279, Value.str (zS "place") 280, Value.str (zS "is_not") 281, Value.str (zS "start") 282, Value.str (zS "ranges") 283, Value.str (zS "names") 284, Value.str (zS "found") 285, Value.str (zS "pair") 286] }) ::
  (nat_lit 58, { cls := Value.type "tuple", data := Data.seq #[] }) ::
  (nat_lit 60, { cls := Value.type "code", data := Data.fields #[Value.str (zS "read_set") 276, Value.str (zS "read_set") 277, Value.str (zS "/claim/cut.py") 278, Value.int 35 0, Value.int 2 0, Value.int 0 0, Value.int 0 0, Value.int 3 0, Value.ref 55, Value.bool true, Value.int 181 0, Value.ref 56, Value.none, Value.ref 57, Value.ref 58, Value.ref 59, Value.int 287 0, Value.int 35 0, Value.str (zS "/claim/cut.py") 288] }) ::
  (nat_lit 61, { cls := Value.type "function", data := Data.func f61 }) ::
  (nat_lit 62, { cls := Value.type "dict", data := Data.dict #[{ hash := 96, key := Value.int 96 292, val := Value.str (zS "start") 293 }, { hash := 39, key := Value.int 39 294, val := Value.str (zS "end") 295 }, { hash := 61, key := Value.int 61 296, val := Value.str (zS "point") 297 }, { hash := 98, key := Value.int 98 298, val := Value.str (zS "bound") 299 }, { hash := 66, key := Value.int 66 300, val := Value.str (zS "inside") 301 }, { hash := 60, key := Value.int 60 302, val := Value.str (zS "wordstart") 303 }, { hash := 62, key := Value.int 62 304, val := Value.str (zS "wordend") 305 }] 7 }) ::
  (nat_lit 63, { cls := Value.type "dict", data := Data.dict #[{ hash := 60, key := Value.int 60 314, val := Value.str (zS "symbolstart") 315 }, { hash := 62, key := Value.int 62 316, val := Value.str (zS "symbolend") 317 }] 2 }) ::
  (nat_lit 64, { cls := Value.type "tuple", data := Data.seq #[] }) ::
  (nat_lit 66, { cls := Value.type "tuple", data := Data.seq #[Value.str (zS "reason") 328] }) ::
  (nat_lit 67, { cls := Value.type "tuple", data := Data.seq #[] }) ::
  (nat_lit 69, { cls := Value.type "code", data := Data.fields #[Value.str (zS "bad_regexp") 325, Value.str (zS "bad_regexp") 326, Value.str (zS "/claim/cut.py") 327, Value.int 56 0, Value.int 1 0, Value.int 0 0, Value.int 0 0, Value.int 3 0, Value.ref 64, Value.bool true, Value.int 181 0, Value.ref 65, Value.none, Value.ref 66, Value.ref 67, Value.ref 68, Value.int 329 0, Value.int 56 0, Value.str (zS "/claim/cut.py") 330] }) ::
  (nat_lit 70, { cls := Value.type "function", data := Data.func f70 }) ::
  (nat_lit 71, { cls := Value.type "tuple", data := Data.seq #[] }) ::
  (nat_lit 73, { cls := Value.type "tuple", data := Data.seq #[Value.str (zS "codes") 335, Value.str (zS "place") 336] }) ::
  (nat_lit 74, { cls := Value.type "tuple", data := Data.seq #[] }) ::
  (nat_lit 76, { cls := Value.type "code", data := Data.fields #[Value.str (zS "sign_at") 332, Value.str (zS "sign_at") 333, Value.str (zS "/claim/cut.py") 334, Value.int 58 0, Value.int 2 0, Value.int 0 0, Value.int 0 0, Value.int 3 0, Value.ref 71, Value.bool true, Value.int 181 0, Value.ref 72, Value.none, Value.ref 73, Value.ref 74, Value.ref 75, Value.int 337 0, Value.int 58 0, Value.str (zS "/claim/cut.py") 338] }) ::
  (nat_lit 77, { cls := Value.type "function", data := Data.func f77 }) ::
  (nat_lit 78, { cls := Value.type "tuple", data := Data.seq #[] }) ::
  (nat_lit 80, { cls := Value.type "tuple", data := Data.seq #[Value.str (zS "codes") 343, Value.str (zS "place") 344, Value.str (zS "signs") 345] }) ::
  (nat_lit 81, { cls := Value.type "tuple", data := Data.seq #[] }) ::
  (nat_lit 83, { cls := Value.type "code", data := Data.fields #[Value.str (zS "is_escaped") 340, Value.str (zS "is_escaped") 341, Value.str (zS "/claim/cut.py") 342, Value.int 60 0, Value.int 3 0, Value.int 0 0, Value.int 0 0, Value.int 3 0, Value.ref 78, Value.bool true, Value.int 181 0, Value.ref 79, Value.none, Value.ref 80, Value.ref 81, Value.ref 82, Value.int 346 0, Value.int 60 0, Value.str (zS "/claim/cut.py") 347] }) ::
  (nat_lit 84, { cls := Value.type "function", data := Data.func f84 }) ::
  (nat_lit 85, { cls := Value.type "tuple", data := Data.seq #[] }) ::
  (nat_lit 87, { cls := Value.type "tuple", data := Data.seq #[Value.str (zS "nodes") 352] }) ::
  (nat_lit 88, { cls := Value.type "tuple", data := Data.seq #[] }) ::
  (nat_lit 90, { cls := Value.type "code", data := Data.fields #[Value.str (zS "joined") 349, Value.str (zS "joined") 350, Value.str (zS "/claim/cut.py") 351, Value.int 62 0, Value.int 1 0, Value.int 0 0, Value.int 0 0, Value.int 3 0, Value.ref 85, Value.bool true, Value.int 181 0, Value.ref 86, Value.none, Value.ref 87, Value.ref 88, Value.ref 89, Value.int 353 0, Value.int 62 0, Value.str (zS "/claim/cut.py") 354] }) ::
  (nat_lit 91, { cls := Value.type "function", data := Data.func f91 }) ::
  (nat_lit 99, { cls := Value.type "tuple", data := Data.seq #[] }) ::
  (nat_lit 101, { cls := Value.type "tuple", data := Data.seq #[Value.str (zS "self") 371, Value.str (zS "word") 372, Value.str (zS "number") 373] }) ::
  (nat_lit 102, { cls := Value.type "tuple", data := Data.seq #[] }) ::
  (nat_lit 104, { cls := Value.type "code", data := Data.fields #[Value.str (zS "__init__") 368, Value.str (zS "Frame.__init__") 369, Value.str (zS "/claim/cut.py") 370, Value.int 66 0, Value.int 3 0, Value.int 0 0, Value.int 0 0, Value.int 3 0, Value.ref 99, Value.bool true, Value.int 181 0, Value.ref 100, Value.none, Value.ref 101, Value.ref 102, Value.ref 103, Value.int 374 0, Value.int 66 0, Value.str (zS "/claim/cut.py") 375] }) ::
  (nat_lit 105, { cls := Value.type "function", data := Data.func f105 }) ::
  (nat_lit 106, { cls := Value.type "tuple", data := Data.seq #[] }) ::
  (nat_lit 108, { cls := Value.type "tuple", data := Data.seq #[Value.str (zS "self") 380, Value.str (zS "node") 381] }) ::
  (nat_lit 109, { cls := Value.type "tuple", data := Data.seq #[] }) ::
  (nat_lit 111, { cls := Value.type "code", data := Data.fields #[Value.str (zS "put") 377, Value.str (zS "Frame.put") 378, Value.str (zS "/claim/cut.py") 379, Value.int 73 0, Value.int 2 0, Value.int 0 0, Value.int 0 0, Value.int 3 0, Value.ref 106, Value.bool true, Value.int 181 0, Value.ref 107, Value.none, Value.ref 108, Value.ref 109, Value.ref 110, Value.int 382 0, Value.int 73 0, Value.str (zS "/claim/cut.py") 383] }) ::
  (nat_lit 112, { cls := Value.type "function", data := Data.func f112 }) ::
  (nat_lit 113, { cls := Value.type "tuple", data := Data.seq #[] }) ::
  (nat_lit 115, { cls := Value.type "tuple", data := Data.seq #[Value.str (zS "self") 388] }) ::
  (nat_lit 116, { cls := Value.type "tuple", data := Data.seq #[] }) ::
  (nat_lit 118, { cls := Value.type "code", data := Data.fields #[Value.str (zS "part") 385, Value.str (zS "Frame.part") 386, Value.str (zS "/claim/cut.py") 387, Value.int 77 0, Value.int 1 0, Value.int 0 0, Value.int 0 0, Value.int 3 0, Value.ref 113, Value.bool true, Value.int 181 0, Value.ref 114, Value.none, Value.ref 115, Value.ref 116, Value.ref 117, Value.int 389 0, Value.int 77 0, Value.str (zS "/claim/cut.py") 390] }) ::
  (nat_lit 119, { cls := Value.type "function", data := Data.func f119 }) ::
  (nat_lit 120, { cls := Value.type "tuple", data := Data.seq #[] }) ::
  (nat_lit 122, { cls := Value.type "tuple", data := Data.seq #[Value.str (zS "self") 395] }) ::
  (nat_lit 123, { cls := Value.type "tuple", data := Data.seq #[] }) ::
  (nat_lit 125, { cls := Value.type "code", data := Data.fields #[Value.str (zS "node") 392, Value.str (zS "Frame.node") 393, Value.str (zS "/claim/cut.py") 394, Value.int 82 0, Value.int 1 0, Value.int 0 0, Value.int 0 0, Value.int 3 0, Value.ref 120, Value.bool true, Value.int 181 0, Value.ref 121, Value.none, Value.ref 122, Value.ref 123, Value.ref 124, Value.int 396 0, Value.int 82 0, Value.str (zS "/claim/cut.py") 397] }) ::
  (nat_lit 126, { cls := Value.type "function", data := Data.func f126 }) ::
  (nat_lit 127, { cls := Value.type "tuple", data := Data.seq #[Value.str (zS "done") 399, Value.str (zS "is_loose") 400, Value.str (zS "nodes") 401, Value.str (zS "number") 402, Value.str (zS "word") 403] }) ::
  (nat_lit 128, { cls := Value.type "dict", data := Data.dict #[{ hash := PyData.keyHash P (zS "__module__"), key := Value.str (zS "__module__") 363, val := Value.str (zS "emacs.regnodes") 290 }, { hash := PyData.keyHash P (zS "__firstlineno__"), key := Value.str (zS "__firstlineno__") 367, val := Value.int 64 366 }, { hash := PyData.keyHash P (zS "__init__"), key := Value.str (zS "__init__") 376, val := Value.ref 105 }, { hash := PyData.keyHash P (zS "put"), key := Value.str (zS "put") 384, val := Value.ref 112 }, { hash := PyData.keyHash P (zS "part"), key := Value.str (zS "part") 391, val := Value.ref 119 }, { hash := PyData.keyHash P (zS "node"), key := Value.str (zS "node") 398, val := Value.ref 126 }, { hash := PyData.keyHash P (zS "__static_attributes__"), key := Value.str (zS "__static_attributes__") 404, val := Value.ref 127 }, { hash := PyData.keyHash P (zS "__dict__"), key := Value.str (zS "__dict__") 406, val := Value.ref 130 }, { hash := PyData.keyHash P (zS "__weakref__"), key := Value.str (zS "__weakref__") 408, val := Value.ref 131 }, { hash := PyData.keyHash P (zS "__doc__"), key := Value.str (zS "__doc__") 409, val := Value.none }] 4 }) ::
  (nat_lit 129, { cls := Value.type "type", data := Data.cls { name := zS "Frame", bases := [Value.type "object"], mro := [Value.ref 129, Value.type "object"], ns := 128, qualname := zS "Frame" }, slots := #[none, none, some (Value.str (zS "Frame") 356), some (Value.str (zS "Frame") 364), some (Value.builtin "object.__new__"), some (Value.bool true)] }) ::
  (nat_lit 130, { cls := Value.type "getset_descriptor", data := Data.fields #[Value.str (zS "__dict__") 405, Value.ref 129, Value.builtin "function.__dict__", Value.builtin "function.__dict__#set"] }) ::
  (nat_lit 131, { cls := Value.type "getset_descriptor", data := Data.fields #[Value.str (zS "__weakref__") 407, Value.ref 129, Value.builtin "ExceptionGroup.__weakref__", Value.none] }) ::
  (nat_lit 141, { cls := Value.type "tuple", data := Data.seq #[] }) ::
  (nat_lit 143, { cls := Value.type "tuple", data := Data.seq #[Value.str (zS "self") 427, Value.str (zS "codes") 428] }) ::
  (nat_lit 144, { cls := Value.type "tuple", data := Data.seq #[] }) ::
  (nat_lit 146, { cls := Value.type "code", data := Data.fields #[Value.str (zS "__init__") 424, Value.str (zS "Parsing.__init__") 425, Value.str (zS "/claim/cut.py") 426, Value.int 88 0, Value.int 2 0, Value.int 0 0, Value.int 0 0, Value.int 3 0, Value.ref 141, Value.bool true, Value.int 181 0, Value.ref 142, Value.none, Value.ref 143, Value.ref 144, Value.ref 145, Value.int 429 0, Value.int 88 0, Value.str (zS "/claim/cut.py") 430] }) ::
  (nat_lit 147, { cls := Value.type "function", data := Data.func f147 }) ::
  (nat_lit 148, { cls := Value.type "tuple", data := Data.seq #[] }) ::
  (nat_lit 150, { cls := Value.type "tuple", data := Data.seq #[Value.str (zS "self") 435] }) ::
  (nat_lit 151, { cls := Value.type "tuple", data := Data.seq #[] }) ::
  (nat_lit 153, { cls := Value.type "code", data := Data.fields #[Value.str (zS "top") 432, Value.str (zS "Parsing.top") 433, Value.str (zS "/claim/cut.py") 434, Value.int 94 0, Value.int 1 0, Value.int 0 0, Value.int 0 0, Value.int 3 0, Value.ref 148, Value.bool true, Value.int 181 0, Value.ref 149, Value.none, Value.ref 150, Value.ref 151, Value.ref 152, Value.int 436 0, Value.int 94 0, Value.str (zS "/claim/cut.py") 437] }) ::
  (nat_lit 154, { cls := Value.type "function", data := Data.func f154 }) ::
  (nat_lit 155, { cls := Value.type "tuple", data := Data.seq #[] }) ::
  (nat_lit 157, { cls := Value.type "tuple", data := Data.seq #[Value.str (zS "self") 442] }) ::
  (nat_lit 158, { cls := Value.type "tuple", data := Data.seq #[] }) ::
  (nat_lit 160, { cls := Value.type "code", data := Data.fields #[Value.str (zS "sign") 439, Value.str (zS "Parsing.sign") 440, Value.str (zS "/claim/cut.py") 441, Value.int 97 0, Value.int 1 0, Value.int 0 0, Value.int 0 0, Value.int 3 0, Value.ref 155, Value.bool true, Value.int 181 0, Value.ref 156, Value.none, Value.ref 157, Value.ref 158, Value.ref 159, Value.int 443 0, Value.int 97 0, Value.str (zS "/claim/cut.py") 444] }) ::
  (nat_lit 161, { cls := Value.type "function", data := Data.func f161 }) ::
  (nat_lit 162, { cls := Value.type "tuple", data := Data.seq #[] }) ::
  (nat_lit 164, { cls := Value.type "tuple", data := Data.seq #[Value.str (zS "self") 449] }) ::
  (nat_lit 165, { cls := Value.type "tuple", data := Data.seq #[] }) ::
  (nat_lit 167, { cls := Value.type "code", data := Data.fields #[Value.str (zS "whole") 446, Value.str (zS "Parsing.whole") 447, Value.str (zS "/claim/cut.py") 448, Value.int 103 0, Value.int 1 0, Value.int 0 0, Value.int 0 0, Value.int 3 0, Value.ref 162, Value.bool true, Value.int 181 0, Value.ref 163, Value.none, Value.ref 164, Value.ref 165, Value.ref 166, Value.int 450 0, Value.int 103 0, Value.str (zS "/claim/cut.py") 451] }) ::
  (nat_lit 168, { cls := Value.type "function", data := Data.func f168 }) ::
  (nat_lit 169, { cls := Value.type "tuple", data := Data.seq #[] }) ::
  (nat_lit 171, { cls := Value.type "tuple", data := Data.seq #[Value.str (zS "self") 456, Value.str (zS "sign") 457, Value.str (zS "node") 458] }) ::
  (nat_lit 172, { cls := Value.type "tuple", data := Data.seq #[] }) ::
  (nat_lit 174, { cls := Value.type "code", data := Data.fields #[Value.str (zS "step") 453, Value.str (zS "Parsing.step") 454, Value.str (zS "/claim/cut.py") 455, Value.int 110 0, Value.int 1 0, Value.int 0 0, Value.int 0 0, Value.int 3 0, Value.ref 169, Value.bool true, Value.int 181 0, Value.ref 170, Value.none, Value.ref 171, Value.ref 172, Value.ref 173, Value.int 459 0, Value.int 110 0, Value.str (zS "/claim/cut.py") 460] }) ::
  (nat_lit 175, { cls := Value.type "function", data := Data.func f175 }) ::
  (nat_lit 176, { cls := Value.type "tuple", data := Data.seq #[] }) ::
  (nat_lit 178, { cls := Value.type "tuple", data := Data.seq #[Value.str (zS "self") 465, Value.str (zS "sign") 466, Value.str (zS "is_zero") 467, Value.str (zS "is_many") 468, Value.str (zS "is_greedy") 469] }) ::
  (nat_lit 179, { cls := Value.type "tuple", data := Data.seq #[] }) ::
  (nat_lit 181, { cls := Value.type "code", data := Data.fields #[Value.str (zS "repeated") 462, Value.str (zS "Parsing.repeated") 463, Value.str (zS "/claim/cut.py") 464, Value.int 128 0, Value.int 2 0, Value.int 0 0, Value.int 0 0, Value.int 3 0, Value.ref 176, Value.bool true, Value.int 181 0, Value.ref 177, Value.none, Value.ref 178, Value.ref 179, Value.ref 180, Value.int 470 0, Value.int 128 0, Value.str (zS "/claim/cut.py") 471] }) ::
  (nat_lit 182, { cls := Value.type "function", data := Data.func f182 }) ::
  (nat_lit 183, { cls := Value.type "tuple", data := Data.seq #[] }) ::
  (nat_lit 185, { cls := Value.type "tuple", data := Data.seq #[Value.str (zS "self") 476, Value.str (zS "least") 477, Value.str (zS "most") 478, Value.str (zS "is_greedy") 479, Value.str (zS "nodes") 480] }) ::
  (nat_lit 186, { cls := Value.type "tuple", data := Data.seq #[] }) ::
  (nat_lit 188, { cls := Value.type "code", data := Data.fields #[Value.str (zS "repeat") 473, Value.str (zS "Parsing.repeat") 474, Value.str (zS "/claim/cut.py") 475, Value.int 141 0, Value.int 4 0, Value.int 0 0, Value.int 0 0, Value.int 3 0, Value.ref 183, Value.bool true, Value.int 181 0, Value.ref 184, Value.none, Value.ref 185, Value.ref 186, Value.ref 187, Value.int 481 0, Value.int 141 0, Value.str (zS "/claim/cut.py") 482] }) ::
  (nat_lit 189, { cls := Value.type "function", data := Data.func f189 }) ::
  (nat_lit 190, { cls := Value.type "tuple", data := Data.seq #[] }) ::
  (nat_lit 192, { cls := Value.type "tuple", data := Data.seq #[Value.str (zS "self") 487, Value.str (zS "sign") 488, Value.str (zS "code") 489] }) ::
  (nat_lit 193, { cls := Value.type "tuple", data := Data.seq #[] }) ::
  (nat_lit 195, { cls := Value.type "code", data := Data.fields #[Value.str (zS "escaped") 484, Value.str (zS "Parsing.escaped") 485, Value.str (zS "/claim/cut.py") 486, Value.int 145 0, Value.int 2 0, Value.int 0 0, Value.int 0 0, Value.int 3 0, Value.ref 190, Value.bool true, Value.int 181 0, Value.ref 191, Value.none, Value.ref 192, Value.ref 193, Value.ref 194, Value.int 490 0, Value.int 145 0, Value.str (zS "/claim/cut.py") 491] }) ::
  (nat_lit 196, { cls := Value.type "function", data := Data.func f196 }) ::
  (nat_lit 197, { cls := Value.type "tuple", data := Data.seq #[] }) ::
  (nat_lit 199, { cls := Value.type "tuple", data := Data.seq #[Value.str (zS "self") 496, Value.str (zS "is_not") 497, Value.str (zS "kind") 498] }) ::
  (nat_lit 200, { cls := Value.type "tuple", data := Data.seq #[] }) ::
  (nat_lit 202, { cls := Value.type "code", data := Data.fields #[Value.str (zS "by_syntax") 493, Value.str (zS "Parsing.by_syntax") 494, Value.str (zS "/claim/cut.py") 495, Value.int 170 0, Value.int 2 0, Value.int 0 0, Value.int 0 0, Value.int 3 0, Value.ref 197, Value.bool true, Value.int 181 0, Value.ref 198, Value.none, Value.ref 199, Value.ref 200, Value.ref 201, Value.int 499 0, Value.int 170 0, Value.str (zS "/claim/cut.py") 500] }) ::
  (nat_lit 203, { cls := Value.type "function", data := Data.func f203 }) ::
  (nat_lit 204, { cls := Value.type "tuple", data := Data.seq #[] }) ::
  (nat_lit 206, { cls := Value.type "tuple", data := Data.seq #[Value.str (zS "self") 505, Value.str (zS "code") 506] }) ::
  (nat_lit 207, { cls := Value.type "tuple", data := Data.seq #[] }) ::
  (nat_lit 209, { cls := Value.type "code", data := Data.fields #[Value.str (zS "by_symbol") 502, Value.str (zS "Parsing.by_symbol") 503, Value.str (zS "/claim/cut.py") 504, Value.int 177 0, Value.int 1 0, Value.int 0 0, Value.int 0 0, Value.int 3 0, Value.ref 204, Value.bool true, Value.int 181 0, Value.ref 205, Value.none, Value.ref 206, Value.ref 207, Value.ref 208, Value.int 507 0, Value.int 177 0, Value.str (zS "/claim/cut.py") 508] }) ::
  (nat_lit 210, { cls := Value.type "function", data := Data.func f210 }) ::
  (nat_lit 211, { cls := Value.type "tuple", data := Data.seq #[] }) ::
  (nat_lit 214, { cls := Value.type "code", data := Data.fields #[Value.str (zS "back") 510, Value.str (zS "Parsing.back") 511, Value.str (zS "/claim/cut.py") 512, Value.int 183 0, Value.int 2 0, Value.int 0 0, Value.int 0 0, Value.int 3 0, Value.ref 211, Value.bool true, Value.int 181 0, Value.ref 212, Value.none, Value.none, Value.none, Value.ref 213, Value.int 513 0, Value.int 183 0, Value.str (zS "/claim/cut.py") 514] }) ::
  (nat_lit 215, { cls := Value.type "function", data := Data.func f215 }) ::
  (nat_lit 216, { cls := Value.type "tuple", data := Data.seq #[] }) ::
  (nat_lit 218, { cls := Value.type "tuple", data := Data.seq #[Value.str (zS "self") 519, Value.str (zS "number") 520, Value.str (zS "is_told") 521] }) ::
  (nat_lit 219, { cls := Value.type "tuple", data := Data.seq #[] }) ::
  (nat_lit 221, { cls := Value.type "code", data := Data.fields #[Value.str (zS "opened") 516, Value.str (zS "Parsing.opened") 517, Value.str (zS "/claim/cut.py") 518, Value.int 188 0, Value.int 1 0, Value.int 0 0, Value.int 0 0, Value.int 3 0, Value.ref 216, Value.bool true, Value.int 181 0, Value.ref 217, Value.none, Value.ref 218, Value.ref 219, Value.ref 220, Value.int 522 0, Value.int 188 0, Value.str (zS "/claim/cut.py") 523] }) ::
  (nat_lit 222, { cls := Value.type "function", data := Data.func f222 }) ::
  (nat_lit 223, { cls := Value.type "tuple", data := Data.seq #[] }) ::
  (nat_lit 225, { cls := Value.type "tuple", data := Data.seq #[Value.str (zS "self") 528, Value.str (zS "frame") 529, Value.str (zS "node") 530] }) ::
  (nat_lit 226, { cls := Value.type "tuple", data := Data.seq #[] }) ::
  (nat_lit 228, { cls := Value.type "code", data := Data.fields #[Value.str (zS "closed") 525, Value.str (zS "Parsing.closed") 526, Value.str (zS "/claim/cut.py") 527, Value.int 204 0, Value.int 1 0, Value.int 0 0, Value.int 0 0, Value.int 3 0, Value.ref 223, Value.bool true, Value.int 181 0, Value.ref 224, Value.none, Value.ref 225, Value.ref 226, Value.ref 227, Value.int 531 0, Value.int 204 0, Value.str (zS "/claim/cut.py") 532] }) ::
  (nat_lit 229, { cls := Value.type "function", data := Data.func f229 }) ::
  (nat_lit 230, { cls := Value.type "tuple", data := Data.seq #[] }) ::
  (nat_lit 232, { cls := Value.type "tuple", data := Data.seq #[Value.str (zS "self") 537, Value.str (zS "found") 538, Value.str (zS "many") 539] }) ::
  (nat_lit 233, { cls := Value.type "tuple", data := Data.seq #[] }) ::
  (nat_lit 235, { cls := Value.type "code", data := Data.fields #[Value.str (zS "number") 534, Value.str (zS "Parsing.number") 535, Value.str (zS "/claim/cut.py") 536, Value.int 211 0, Value.int 1 0, Value.int 0 0, Value.int 0 0, Value.int 3 0, Value.ref 230, Value.bool true, Value.int 181 0, Value.ref 231, Value.none, Value.ref 232, Value.ref 233, Value.ref 234, Value.int 540 0, Value.int 211 0, Value.str (zS "/claim/cut.py") 541] }) ::
  (nat_lit 236, { cls := Value.type "function", data := Data.func f236 }) ::
  (nat_lit 237, { cls := Value.type "tuple", data := Data.seq #[] }) ::
  (nat_lit 239, { cls := Value.type "tuple", data := Data.seq #[Value.str (zS "self") 546, Value.str (zS "least") 547, Value.str (zS "most") 548, Value.str (zS "is_told") 549] }) ::
  (nat_lit 240, { cls := Value.type "tuple", data := Data.seq #[] }) ::
  (nat_lit 242, { cls := Value.type "code", data := Data.fields #[Value.str (zS "bounds") 543, Value.str (zS "Parsing.bounds") 544, Value.str (zS "/claim/cut.py") 545, Value.int 220 0, Value.int 1 0, Value.int 0 0, Value.int 0 0, Value.int 3 0, Value.ref 237, Value.bool true, Value.int 181 0, Value.ref 238, Value.none, Value.ref 239, Value.ref 240, Value.ref 241, Value.int 550 0, Value.int 220 0, Value.str (zS "/claim/cut.py") 551] }) ::
  (nat_lit 243, { cls := Value.type "function", data := Data.func f243 }) ::
  (nat_lit 244, { cls := Value.type "tuple", data := Data.seq #[] }) ::
  (nat_lit 246, { cls := Value.type "tuple", data := Data.seq #[Value.str (zS "self") 556, Value.str (zS "place") 557, Value.str (zS "least") 558, Value.str (zS "most") 559] }) ::
  (nat_lit 247, { cls := Value.type "tuple", data := Data.seq #[] }) ::
  (nat_lit 249, { cls := Value.type "code", data := Data.fields #[Value.str (zS "counted") 553, Value.str (zS "Parsing.counted") 554, Value.str (zS "/claim/cut.py") 555, Value.int 234 0, Value.int 1 0, Value.int 0 0, Value.int 0 0, Value.int 3 0, Value.ref 244, Value.bool true, Value.int 181 0, Value.ref 245, Value.none, Value.ref 246, Value.ref 247, Value.ref 248, Value.int 560 0, Value.int 234 0, Value.str (zS "/claim/cut.py") 561] }) ::
  (nat_lit 250, { cls := Value.type "function", data := Data.func f250 }) ::
  (nat_lit 251, { cls := Value.type "tuple", data := Data.seq #[Value.str (zS "codes") 563, Value.str (zS "frames") 564, Value.str (zS "groups") 565, Value.str (zS "place") 566] }) ::
  (nat_lit 252, { cls := Value.type "dict", data := Data.dict #[{ hash := PyData.keyHash P (zS "__module__"), key := Value.str (zS "__module__") 419, val := Value.str (zS "emacs.regnodes") 290 }, { hash := PyData.keyHash P (zS "__firstlineno__"), key := Value.str (zS "__firstlineno__") 423, val := Value.int 86 422 }, { hash := PyData.keyHash P (zS "__init__"), key := Value.str (zS "__init__") 431, val := Value.ref 147 }, { hash := PyData.keyHash P (zS "top"), key := Value.str (zS "top") 438, val := Value.ref 154 }, { hash := PyData.keyHash P (zS "sign"), key := Value.str (zS "sign") 445, val := Value.ref 161 }, { hash := PyData.keyHash P (zS "whole"), key := Value.str (zS "whole") 452, val := Value.ref 168 }, { hash := PyData.keyHash P (zS "step"), key := Value.str (zS "step") 461, val := Value.ref 175 }, { hash := PyData.keyHash P (zS "repeated"), key := Value.str (zS "repeated") 472, val := Value.ref 182 }, { hash := PyData.keyHash P (zS "repeat"), key := Value.str (zS "repeat") 483, val := Value.ref 189 }, { hash := PyData.keyHash P (zS "escaped"), key := Value.str (zS "escaped") 492, val := Value.ref 196 }, { hash := PyData.keyHash P (zS "by_syntax"), key := Value.str (zS "by_syntax") 501, val := Value.ref 203 }, { hash := PyData.keyHash P (zS "by_symbol"), key := Value.str (zS "by_symbol") 509, val := Value.ref 210 }, { hash := PyData.keyHash P (zS "back"), key := Value.str (zS "back") 515, val := Value.ref 215 }, { hash := PyData.keyHash P (zS "opened"), key := Value.str (zS "opened") 524, val := Value.ref 222 }, { hash := PyData.keyHash P (zS "closed"), key := Value.str (zS "closed") 533, val := Value.ref 229 }, { hash := PyData.keyHash P (zS "number"), key := Value.str (zS "number") 542, val := Value.ref 236 }, { hash := PyData.keyHash P (zS "bounds"), key := Value.str (zS "bounds") 552, val := Value.ref 243 }, { hash := PyData.keyHash P (zS "counted"), key := Value.str (zS "counted") 562, val := Value.ref 250 }, { hash := PyData.keyHash P (zS "__static_attributes__"), key := Value.str (zS "__static_attributes__") 567, val := Value.ref 251 }, { hash := PyData.keyHash P (zS "__dict__"), key := Value.str (zS "__dict__") 569, val := Value.ref 254 }, { hash := PyData.keyHash P (zS "__weakref__"), key := Value.str (zS "__weakref__") 571, val := Value.ref 255 }, { hash := PyData.keyHash P (zS "__doc__"), key := Value.str (zS "__doc__") 572, val := Value.none }] 4 }) ::
  (nat_lit 253, { cls := Value.type "type", data := Data.cls { name := zS "Parsing", bases := [Value.type "object"], mro := [Value.ref 253, Value.type "object"], ns := 252, qualname := zS "Parsing" }, slots := #[none, none, some (Value.str (zS "Parsing") 412), some (Value.str (zS "Parsing") 420), some (Value.builtin "object.__new__"), some (Value.bool true)] }) ::
  (nat_lit 254, { cls := Value.type "getset_descriptor", data := Data.fields #[Value.str (zS "__dict__") 568, Value.ref 253, Value.builtin "function.__dict__", Value.builtin "function.__dict__#set"] }) ::
  (nat_lit 255, { cls := Value.type "getset_descriptor", data := Data.fields #[Value.str (zS "__weakref__") 570, Value.ref 253, Value.builtin "ExceptionGroup.__weakref__", Value.none] }) ::
  (nat_lit 258, { cls := Value.type "tuple", data := Data.seq #[] }) ::
  (nat_lit 260, { cls := Value.type "tuple", data := Data.seq #[Value.str (zS "codes") 578, Value.str (zS "parsing") 579] }) ::
  (nat_lit 261, { cls := Value.type "tuple", data := Data.seq #[] }) ::
  (nat_lit 263, { cls := Value.type "code", data := Data.fields #[Value.str (zS "parse_regexp") 575, Value.str (zS "parse_regexp") 576, Value.str (zS "/claim/cut.py") 577, Value.int 242 0, Value.int 1 0, Value.int 0 0, Value.int 0 0, Value.int 3 0, Value.ref 258, Value.bool true, Value.int 181 0, Value.ref 259, Value.none, Value.ref 260, Value.ref 261, Value.ref 262, Value.int 580 0, Value.int 242 0, Value.str (zS "/claim/cut.py") 581] }) ::
  (nat_lit 264, { cls := Value.type "function", data := Data.func f264 }) ::
  (nat_lit 265, { cls := Value.type "tuple", data := Data.seq #[] }) ::
  (nat_lit 267, { cls := Value.type "tuple", data := Data.seq #[Value.str (zS "deck") 588, Value.str (zS "many") 589] }) ::
  (nat_lit 268, { cls := Value.type "tuple", data := Data.seq #[] }) ::
  (nat_lit 270, { cls := Value.type "code", data := Data.fields #[Value.str (zS "_law_draw") 585, Value.str (zS "_law_draw") 586, Value.str (zS "/claim/cut.py") 587, Value.int 246 0, Value.int 2 0, Value.int 0 0, Value.int 0 0, Value.int 3 0, Value.ref 265, Value.bool true, Value.int 181 0, Value.ref 266, Value.none, Value.ref 267, Value.ref 268, Value.ref 269, Value.int 590 0, Value.int 246 0, Value.str (zS "/claim/cut.py") 591] }) ::
  (nat_lit 271, { cls := Value.type "function", data := Data.func f271 }) ::
  (nat_lit 272, { cls := Value.type "tuple", data := Data.seq #[] }) ::
  (nat_lit 274, { cls := Value.type "tuple", data := Data.seq #[Value.str (zS "found") 596] }) ::
  (nat_lit 275, { cls := Value.type "tuple", data := Data.seq #[] }) ::
  (nat_lit 277, { cls := Value.type "code", data := Data.fields #[Value.str (zS "_law_pieces") 593, Value.str (zS "_law_pieces") 594, Value.str (zS "/claim/cut.py") 595, Value.int 251 0, Value.int 0 0, Value.int 0 0, Value.int 0 0, Value.int 3 0, Value.ref 272, Value.bool true, Value.int 181 0, Value.ref 273, Value.none, Value.ref 274, Value.ref 275, Value.ref 276, Value.int 597 0, Value.int 251 0, Value.str (zS "/claim/cut.py") 598] }) ::
  (nat_lit 278, { cls := Value.type "function", data := Data.func f278 }) ::
  (nat_lit 279, { cls := Value.type "tuple", data := Data.seq #[] }) ::
  (nat_lit 281, { cls := Value.type "tuple", data := Data.seq #[Value.str (zS "pieces") 603, Value.str (zS "last") 604, Value.str (zS "opened_own") 605, Value.str (zS "greatest_own") 606, Value.str (zS "is_loose_own") 607, Value.str (zS "piece") 608, Value.str (zS "was_loose") 609, Value.str (zS "number") 610] }) ::
  (nat_lit 282, { cls := Value.type "tuple", data := Data.seq #[] }) ::
  (nat_lit 284, { cls := Value.type "code", data := Data.fields #[Value.str (zS "_law_looked") 600, Value.str (zS "_law_looked") 601, Value.str (zS "/claim/cut.py") 602, Value.int 254 0, Value.int 2 0, Value.int 0 0, Value.int 0 0, Value.int 3 0, Value.ref 279, Value.bool true, Value.int 181 0, Value.ref 280, Value.none, Value.ref 281, Value.ref 282, Value.ref 283, Value.int 611 0, Value.int 254 0, Value.str (zS "/claim/cut.py") 612] }) ::
  (nat_lit 285, { cls := Value.type "function", data := Data.func f285 }) ::
  (nat_lit 286, { cls := Value.type "tuple", data := Data.seq #[] }) ::
  (nat_lit 289, { cls := Value.type "code", data := Data.fields #[Value.str (zS "_law_told") 614, Value.str (zS "_law_told") 615, Value.str (zS "/claim/cut.py") 616, Value.int 287 0, Value.int 1 0, Value.int 0 0, Value.int 0 0, Value.int 3 0, Value.ref 286, Value.bool true, Value.int 181 0, Value.ref 287, Value.none, Value.none, Value.none, Value.ref 288, Value.int 617 0, Value.int 287 0, Value.str (zS "/claim/cut.py") 618] }) ::
  (nat_lit 290, { cls := Value.type "function", data := Data.func f290 }) ::
  (nat_lit 291, { cls := Value.type "tuple", data := Data.seq #[] }) ::
  (nat_lit 294, { cls := Value.type "code", data := Data.fields #[Value.str (zS "law") 620, Value.str (zS "law") 621, Value.str (zS "/claim/cut.py") 622, Value.int 292 0, Value.int 1 0, Value.int 0 0, Value.int 0 0, Value.int 3 0, Value.ref 291, Value.bool true, Value.int 181 0, Value.ref 292, Value.none, Value.none, Value.none, Value.ref 293, Value.int 623 0, Value.int 292 0, Value.str (zS "/claim/cut.py") 624] }) ::
  (nat_lit 295, { cls := Value.type "function", data := Data.func f295 }) :: []
/-- the text without the four rows that its law does not read -/
noncomputable def viewT : List Stmt := [tf 1, tf 3, tf 4, tf 5, tf 6, tf 7, tf 8, tf 9, tf 10, tf 11, tf 12, tf 13, tf 15, tf 16, tf 17, tf 18, tf 19, tf 20, tf 21, tf 22, tf 23, tf 24, tf 25, tf 27, tf 28, tf 29, tf 30, tf 31]
noncomputable def viewQ : Program := by
  refine' (?F : ∀ k : List Stmt, viewT = k → Program) _ (by dsimp only [viewT, tf, nthS, PySem.Challenge.pw_np0051_01])
  exact fun k _ => { PySem.Challenge.pw_np0051_01 with main := { PySem.Challenge.pw_np0051_01.main with body := k } }
noncomputable def asL : List Addr := [2, 3, 15, 22, 24, 25, 27, 28, 29, 30, 31, 32, 35, 36, 38, 39, 41, 42, 43, 46, 47, 48, 50, 51, 53, 54, 55, 57, 58, 60, 61, 62, 63, 64, 66, 67, 69, 70, 71, 73, 74, 76, 77, 78, 80, 81, 83, 84, 85, 87, 88, 90, 91, 99, 101, 102, 104, 105, 106, 108, 109, 111, 112, 113, 115, 116, 118, 119, 120, 122, 123, 125, 126, 127, 128, 129, 130, 131, 141, 143, 144, 146, 147, 148, 150, 151, 153, 154, 155, 157, 158, 160, 161, 162, 164, 165, 167, 168, 169, 171, 172, 174, 175, 176, 178, 179, 181, 182, 183, 185, 186, 188, 189, 190, 192, 193, 195, 196, 197, 199, 200, 202, 203, 204, 206, 207, 209, 210, 211, 214, 215, 216, 218, 219, 221, 222, 223, 225, 226, 228, 229, 230, 232, 233, 235, 236, 237, 239, 240, 242, 243, 244, 246, 247, 249, 250, 251, 252, 253, 254, 255, 258, 260, 261, 263, 264, 265, 267, 268, 270, 271, 272, 274, 275, 277, 278, 279, 281, 282, 284, 285, 286, 289, 290, 291, 294, 295]
theorem as_eq : ∀ P, asL = (heapK P).map (·.1) := fun _ => by kernel_rfl
noncomputable abbrev HK : Hook := kHook heapK asL as_eq
noncomputable abbrev RW : RowW := PySem.Challenge.rw_np0051_01.row.toRowW
noncomputable abbrev loose : List PySem.Str := [Str.ofString "PLACES", Str.ofString "SYMBOL_PLACES"]
noncomputable abbrev XtA (s : Shared) : Bool := xlAt viewQ [] s && recOk (RowW.records RW) s
theorem tree_q : treeTable = PySem.W.Fast.tw14364793385576792824 := PySem.W.Fast.te14364793385576792824
theorem run_q : @topRun = @PySem.W.Fast.tw14082659384304107361 := PySem.W.Fast.te14082659384304107361
theorem seen_q : @openSeen = @PySem.W.Fast.tw4187177175401517315 := PySem.W.Fast.te4187177175401517315
theorem imp_q : @importedModules = @PySem.W.Fast.tw5923862056798008813 := PySem.W.Fast.te5923862056798008813
abbrev PW : Program := PySem.Challenge.pw_np0051_01
theorem boot : ∀ w : World, (fencedOpening treeTable PW w 4040).map (fun s => (s.heap, s.gens, s.drawn, s.toks)) = some (boot_heap w.params, Array.mk [], boot_drawn, boot_toks) :=
  boot_open (p := PW) (N := 4040) (by kernel_rfl) (by decide) (fun s => by kernel_rfl)
theorem filled : PySem.Challenge.rw_np0051_01.about = PySem.Challenge.rw_np0051_01.about ∧ heapK = heapK := by
  k_fill
  exact ⟨rfl, rfl⟩
local macro_rules | `(tactic| k_ne) => `(tactic| k_extra "m:k_ne")
local macro_rules | `(tactic| k_all) => `(tactic| k_extra "m:k_all")
local macro_rules | `(tactic| size_fits) => `(tactic| k_extra "m:size_fits")
local macro_rules | `(tactic| is_list) => `(tactic| k_extra "m:is_list")
local macro_rules | `(tactic| ktn_open) => `(tactic| k_extra "m:ktn_open")
local macro_rules | `(tactic| ktr_rel) => `(tactic| k_extra "m:ktr_rel")
local macro_rules | `(tactic| ktn_lt) => `(tactic| k_extra "m:ktn_lt")
local macro_rules | `(tactic| ktr_units) => `(tactic| k_extra "m:ktr_units")
local macro_rules | `(tactic| walk_at $s:str) => `(tactic| k_extra $s)
section
/-- the maker of a def's object, out of the object -/
noncomputable def ttProto : Obj → Obj
  | ⟨_, _, .func f, _⟩ => { cls := Value.none, data := .func { f with globals := 0, pyModule := .none, code := .none } }
  | o => o
/-- the heap's objects in order: those that heapK names, the others between them -/
noncomputable def ttWeave : Nat → Nat → Frag → List (Option Obj) → List Obj
  | 0, _, _, _ => []
  | n + 1, i, [], R => []
  | n + 1, i, (a, o) :: K, R => match Nat.beq a i with
    | true => o :: ttWeave n (i + 1) K R
    | false => match R with
      | [] => []
      | some r :: R => r :: ttWeave n (i + 1) ((a, o) :: K) R
      | none :: R => (match K with | p :: _ => ttProto p.2 | [] => o) :: ttWeave n (i + 1) ((a, o) :: K) R
noncomputable abbrev ttEf : Obj := { cls := Value.none, data := Data.fields #[] }
noncomputable abbrev ttEt : Obj := { cls := Value.type "tuple", data := Data.seq #[] }
noncomputable def ttRest (P : Params) : List (Option Obj) :=
  some (boot_o_0 P) ::
  some (boot_o_1 P) ::
  some (boot_o_4 P) ::
  some (boot_o_5 P) ::
  some (boot_o_6 P) ::
  some (boot_o_7 P) ::
  some (boot_o_8 P) ::
  some (boot_o_9 P) ::
  some (boot_o_10 P) ::
  some ttEt ::
  some ({ cls := Value.none, data := Data.fields #[Value.int 2 0, Value.int 0 0, Value.ref 20, Value.int 15 0, Value.int 0 0, Value.ref 41, Value.int 20 0, Value.int 0 0, Value.ref 46, Value.int 30 0, Value.int 0 0, Value.ref 53, Value.int 35 0, Value.int 0 0, Value.ref 60, Value.int 56 0, Value.int 0 0, Value.ref 69, Value.int 58 0, Value.int 0 0, Value.ref 76, Value.int 60 0, Value.int 0 0, Value.ref 83, Value.int 62 0, Value.int 0 0, Value.ref 90, Value.int 64 0, Value.int 0 0, Value.ref 97, Value.int 86 0, Value.int 0 0, Value.ref 139, Value.int 242 0, Value.int 0 0, Value.ref 263, Value.int 246 0, Value.int 0 0, Value.ref 270, Value.int 251 0, Value.int 0 0, Value.ref 277, Value.int 254 0, Value.int 0 0, Value.ref 284, Value.int 287 0, Value.int 0 0, Value.ref 289, Value.int 292 0, Value.int 0 0, Value.ref 294] }) ::
  some ({ cls := Value.type "code", data := Data.fields #[Value.str (zS "<module>") 182, Value.str (zS "<module>") 183, Value.str (zS "/claim/cut.py") 184, Value.int 1 0, Value.int 0 0, Value.int 0 0, Value.int 0 0, Value.int 0 0, Value.ref 11, Value.bool false, Value.int 181 0, Value.ref 12, Value.none, Value.none, Value.none, Value.none, Value.int 185 0, Value.int 1 0, Value.str (zS "/claim/cut.py") 186] }) ::
  some ({ cls := Value.type "frame", slots := #[some (Value.ref 13), some (Value.ref 3), some (Value.ref 3), none, some (Value.str (zS "__main__") 164), none, some (Value.ref 0)] }) ::
  some ({ cls := Value.type "builtin_function_or_method", data := Data.fields #[Value.builtin "type.__prepare__", Value.type "type"] }) ::
  some ({ cls := Value.type "dict", data := Data.dict #[{ hash := PyData.keyHash P (zS "__module__"), key := Value.str (zS "__module__") 196, val := Value.str (zS "emacs.errors") 187 }, { hash := PyData.keyHash P (zS "__qualname__"), key := Value.str (zS "__qualname__") 198, val := Value.str (zS "LispSignal") 197 }, { hash := PyData.keyHash P (zS "__firstlineno__"), key := Value.str (zS "__firstlineno__") 200, val := Value.int 2 199 }, { hash := PyData.keyHash P (zS "__init__"), key := Value.str (zS "__init__") 209, val := Value.ref 28 }, { hash := PyData.keyHash P (zS "__static_attributes__"), key := Value.str (zS "__static_attributes__") 212, val := Value.ref 29 }] 5 }) ::
  some ttEt ::
  some ({ cls := Value.none, data := Data.fields #[Value.int 4 0, Value.int 4 0, Value.ref 27] }) ::
  some ({ cls := Value.type "code", data := Data.fields #[Value.str (zS "LispSignal") 191, Value.str (zS "LispSignal") 192, Value.str (zS "/claim/cut.py") 193, Value.int 2 0, Value.int 0 0, Value.int 0 0, Value.int 0 0, Value.int 0 0, Value.ref 18, Value.bool false, Value.int 181 0, Value.ref 19, Value.none, Value.none, Value.none, Value.none, Value.int 194 0, Value.int 2 0, Value.str (zS "/claim/cut.py") 195] }) ::
  some ({ cls := Value.type "frame", slots := #[some (Value.ref 20), some (Value.ref 3), some (Value.ref 17), none, some (Value.str (zS "emacs.errors") 187), none, some (Value.ref 0)] }) ::
  some ttEf ::
  none ::
  some ({ cls := Value.type "super", data := Data.fields #[Value.ref 31, Value.ref 31, Value.ref 31] }) ::
  some ({ cls := Value.type "builtin_function_or_method", data := Data.fields #[Value.builtin "object.__init_subclass__", Value.ref 31] }) ::
  some ttEf ::
  none ::
  some ttEf ::
  none ::
  some ttEf ::
  none ::
  some ttEf ::
  none ::
  some ttEf ::
  none ::
  some ttEf ::
  none ::
  some ttEf ::
  none ::
  some ttEf ::
  none ::
  some ttEt ::
  some ({ cls := Value.type "builtin_function_or_method", data := Data.fields #[Value.builtin "type.__prepare__", Value.type "type"] }) ::
  some ({ cls := Value.type "dict", data := Data.dict #[{ hash := PyData.keyHash P (zS "__module__"), key := Value.str (zS "__module__") 363, val := Value.str (zS "emacs.regnodes") 290 }, { hash := PyData.keyHash P (zS "__qualname__"), key := Value.str (zS "__qualname__") 365, val := Value.str (zS "Frame") 364 }, { hash := PyData.keyHash P (zS "__firstlineno__"), key := Value.str (zS "__firstlineno__") 367, val := Value.int 64 366 }, { hash := PyData.keyHash P (zS "__init__"), key := Value.str (zS "__init__") 376, val := Value.ref 105 }, { hash := PyData.keyHash P (zS "put"), key := Value.str (zS "put") 384, val := Value.ref 112 }, { hash := PyData.keyHash P (zS "part"), key := Value.str (zS "part") 391, val := Value.ref 119 }, { hash := PyData.keyHash P (zS "node"), key := Value.str (zS "node") 398, val := Value.ref 126 }, { hash := PyData.keyHash P (zS "__static_attributes__"), key := Value.str (zS "__static_attributes__") 404, val := Value.ref 127 }] 8 }) ::
  some ttEt ::
  some ({ cls := Value.none, data := Data.fields #[Value.int 66 0, Value.int 4 0, Value.ref 104, Value.int 73 0, Value.int 4 0, Value.ref 111, Value.int 77 0, Value.int 4 0, Value.ref 118, Value.int 82 0, Value.int 4 0, Value.ref 125] }) ::
  some ({ cls := Value.type "code", data := Data.fields #[Value.str (zS "Frame") 358, Value.str (zS "Frame") 359, Value.str (zS "/claim/cut.py") 360, Value.int 64 0, Value.int 0 0, Value.int 0 0, Value.int 0 0, Value.int 0 0, Value.ref 95, Value.bool false, Value.int 181 0, Value.ref 96, Value.none, Value.none, Value.none, Value.none, Value.int 361 0, Value.int 64 0, Value.str (zS "/claim/cut.py") 362] }) ::
  some ({ cls := Value.type "frame", slots := #[some (Value.ref 97), some (Value.ref 3), some (Value.ref 94), none, some (Value.str (zS "emacs.regnodes") 290), none, some (Value.ref 0)] }) ::
  some ttEf ::
  none ::
  some ttEf ::
  none ::
  some ttEf ::
  none ::
  some ttEf ::
  none ::
  some ({ cls := Value.type "super", data := Data.fields #[Value.ref 129, Value.ref 129, Value.ref 129] }) ::
  some ({ cls := Value.type "builtin_function_or_method", data := Data.fields #[Value.builtin "object.__init_subclass__", Value.ref 129] }) ::
  some ttEt ::
  some ({ cls := Value.type "builtin_function_or_method", data := Data.fields #[Value.builtin "type.__prepare__", Value.type "type"] }) ::
  some ({ cls := Value.type "dict", data := Data.dict #[{ hash := PyData.keyHash P (zS "__module__"), key := Value.str (zS "__module__") 419, val := Value.str (zS "emacs.regnodes") 290 }, { hash := PyData.keyHash P (zS "__qualname__"), key := Value.str (zS "__qualname__") 421, val := Value.str (zS "Parsing") 420 }, { hash := PyData.keyHash P (zS "__firstlineno__"), key := Value.str (zS "__firstlineno__") 423, val := Value.int 86 422 }, { hash := PyData.keyHash P (zS "__init__"), key := Value.str (zS "__init__") 431, val := Value.ref 147 }, { hash := PyData.keyHash P (zS "top"), key := Value.str (zS "top") 438, val := Value.ref 154 }, { hash := PyData.keyHash P (zS "sign"), key := Value.str (zS "sign") 445, val := Value.ref 161 }, { hash := PyData.keyHash P (zS "whole"), key := Value.str (zS "whole") 452, val := Value.ref 168 }, { hash := PyData.keyHash P (zS "step"), key := Value.str (zS "step") 461, val := Value.ref 175 }, { hash := PyData.keyHash P (zS "repeated"), key := Value.str (zS "repeated") 472, val := Value.ref 182 }, { hash := PyData.keyHash P (zS "repeat"), key := Value.str (zS "repeat") 483, val := Value.ref 189 }, { hash := PyData.keyHash P (zS "escaped"), key := Value.str (zS "escaped") 492, val := Value.ref 196 }, { hash := PyData.keyHash P (zS "by_syntax"), key := Value.str (zS "by_syntax") 501, val := Value.ref 203 }, { hash := PyData.keyHash P (zS "by_symbol"), key := Value.str (zS "by_symbol") 509, val := Value.ref 210 }, { hash := PyData.keyHash P (zS "back"), key := Value.str (zS "back") 515, val := Value.ref 215 }, { hash := PyData.keyHash P (zS "opened"), key := Value.str (zS "opened") 524, val := Value.ref 222 }, { hash := PyData.keyHash P (zS "closed"), key := Value.str (zS "closed") 533, val := Value.ref 229 }, { hash := PyData.keyHash P (zS "number"), key := Value.str (zS "number") 542, val := Value.ref 236 }, { hash := PyData.keyHash P (zS "bounds"), key := Value.str (zS "bounds") 552, val := Value.ref 243 }, { hash := PyData.keyHash P (zS "counted"), key := Value.str (zS "counted") 562, val := Value.ref 250 }, { hash := PyData.keyHash P (zS "__static_attributes__"), key := Value.str (zS "__static_attributes__") 567, val := Value.ref 251 }] 20 }) ::
  some ttEt ::
  some ({ cls := Value.none, data := Data.fields #[Value.int 88 0, Value.int 4 0, Value.ref 146, Value.int 94 0, Value.int 4 0, Value.ref 153, Value.int 97 0, Value.int 4 0, Value.ref 160, Value.int 103 0, Value.int 4 0, Value.ref 167, Value.int 110 0, Value.int 4 0, Value.ref 174, Value.int 128 0, Value.int 4 0, Value.ref 181, Value.int 141 0, Value.int 4 0, Value.ref 188, Value.int 145 0, Value.int 4 0, Value.ref 195, Value.int 170 0, Value.int 4 0, Value.ref 202, Value.int 177 0, Value.int 4 0, Value.ref 209, Value.int 183 0, Value.int 4 0, Value.ref 214, Value.int 188 0, Value.int 4 0, Value.ref 221, Value.int 204 0, Value.int 4 0, Value.ref 228, Value.int 211 0, Value.int 4 0, Value.ref 235, Value.int 220 0, Value.int 4 0, Value.ref 242, Value.int 234 0, Value.int 4 0, Value.ref 249] }) ::
  some ({ cls := Value.type "code", data := Data.fields #[Value.str (zS "Parsing") 414, Value.str (zS "Parsing") 415, Value.str (zS "/claim/cut.py") 416, Value.int 86 0, Value.int 0 0, Value.int 0 0, Value.int 0 0, Value.int 0 0, Value.ref 137, Value.bool false, Value.int 181 0, Value.ref 138, Value.none, Value.none, Value.none, Value.none, Value.int 417 0, Value.int 86 0, Value.str (zS "/claim/cut.py") 418] }) ::
  some ({ cls := Value.type "frame", slots := #[some (Value.ref 139), some (Value.ref 3), some (Value.ref 136), none, some (Value.str (zS "emacs.regnodes") 290), none, some (Value.ref 0)] }) ::
  some ttEf ::
  none ::
  some ttEf ::
  none ::
  some ttEf ::
  none ::
  some ttEf ::
  none ::
  some ttEf ::
  none ::
  some ttEf ::
  none ::
  some ttEf ::
  none ::
  some ttEf ::
  none ::
  some ttEf ::
  none ::
  some ttEf ::
  none ::
  some ttEf ::
  none ::
  some ttEf ::
  none ::
  some ttEf ::
  none ::
  some ttEf ::
  none ::
  some ttEf ::
  none ::
  some ttEf ::
  none ::
  some ({ cls := Value.type "super", data := Data.fields #[Value.ref 253, Value.ref 253, Value.ref 253] }) ::
  some ({ cls := Value.type "builtin_function_or_method", data := Data.fields #[Value.builtin "object.__init_subclass__", Value.ref 253] }) ::
  some ttEf ::
  none ::
  some ttEf ::
  none ::
  some ttEf ::
  none ::
  some ttEf ::
  none ::
  some ttEf ::
  none ::
  some ttEf ::
  none :: []
noncomputable def ttCut3 (m : Nat) (v : Value) : Obj → Obj
  | ⟨c, d, .dict ⟨e :: es⟩ _, s⟩ => ⟨c, d, .dict ⟨{ e with val := v } :: es.take m⟩ (m + 1), s⟩
  | o => o
noncomputable def ttCut12 (m : Nat) : Obj → Obj
  | ⟨c, d, .fields ⟨es⟩, s⟩ => ⟨c, d, .fields ⟨es.take m⟩, s⟩
  | o => o
/-- the objects behind a part of the top: so many, so many names, so many rows of the code -/
noncomputable def ttCut (n m k : Nat) (v : Value) (P : Params) : List Obj := match ttWeave n 0 (heapK P) (ttRest P) with
  | o0 :: o1 :: o2 :: o3 :: o4 :: o5 :: o6 :: o7 :: o8 :: o9 :: o10 :: o11 :: o12 :: r => o0 :: o1 :: o2 :: ttCut3 m v o3 :: o4 :: o5 :: o6 :: o7 :: o8 :: o9 :: o10 :: o11 :: ttCut12 k o12 :: r
  | l => l
noncomputable def ttStart (P : Params) : List Obj := match ttCut 15 8 0 (Value.str (zS "__main__") 164) P with
  | o0 :: o1 :: _ :: r => o0 :: o1 :: boot_o_2 P :: r
  | l => l
noncomputable def ttIns : BT → Nat → List Obj → BT
  | t, _, [] => t
  | t, i, o :: l => ttIns (t.ins i o) (i + 1) l
noncomputable def ttTree (l : List Obj) : BT := ttIns .nil 0 l
noncomputable def ttLife : Life := {}
noncomputable def ttSt (l : Params → List Obj) (n toks : Nat) (w : World) (os : OsState) : SharedT := ⟨ttTree (l w.params), n, ttLife, Array.mk [], boot_drawn, toks, os⟩
noncomputable def ttEnv : Env := { scope := PW.main.scope, locals := mainNs, globals := mainNs, cells := [], code := .ref 13, frame := some 14 }
noncomputable def ttCode : Code := .body (behindTheImports PW) ttEnv
noncomputable abbrev ttP : Pos := ⟨0, 0, 0, 0⟩
noncomputable def ttHeap (P : Params) : Heap := ⟨⟨ttWeave 296 0 (heapK P) (ttRest P)⟩, ttLife⟩
theorem tt_go_q : @topGo = @PySem.W.Fast.tw15667345088766844465 := PySem.W.Fast.te15667345088766844465
theorem tt_seg_q : @segRunT = @PySem.W.Fast.tw10110043849684766642 := PySem.W.Fast.te10110043849684766642
theorem tt_execs_q : @execs = @PySem.W.Fast.tw12563942051412417395 := PySem.W.Fast.te12563942051412417395
theorem tt_pre : ∀ (w : World) (os : OsState), topGo treeTable PW w 11 (some (.ref 6)) 12 ⟨boot_heap w.params, Array.mk [], boot_drawn, boot_toks, os⟩ (topStub PW) = some ((ttSt ttStart 15 187 w os).abs, ⟨denote treeTable ttCode, ttCode, ttP, [topFrame ttP]⟩) := fun w os => by
  kernel_rfl
noncomputable abbrev ttNodes : Value := .str (zS "emacs.regnodes") 290
noncomputable abbrev ttBody : List Stmt := behindTheImports PW
theorem tt_a : ∀ (w : World) (os : OsState), segRunT treeTable PW w 11 (some (.ref 6)) 1 700 (ttSt ttStart 15 187 w os) (piecesOf (ttBody.take 15) ttEnv ttCode ttP [topFrame ttP]) = some (.next, ttSt (ttCut 62 20 15 ttNodes) 62 292 w os, ttCode, ⟨51, 0, 51, 8⟩) := fun w os => by
  unfold piecesOf
  rw [tt_seg_q, tree_q, tt_execs_q]
  kernel_rfl
noncomputable abbrev ttLaw : Value := .str (zS "law_np0051_01") 583
theorem tt_bf : ∀ (w : World) (os : OsState), segRunT treeTable PW (w.withFollow "special-get-raises" false) 11 (some (.ref 6)) 1 300 (ttSt (ttCut 62 20 15 ttNodes) 62 292 (w.withFollow "special-get-raises" false) os) (piecesOf ((ttBody.drop 15).take 2) ttEnv ttCode ⟨51, 0, 51, 8⟩ [topFrame ttP]) = some (.next, ttSt (ttCut 64 22 15 ttNodes) 64 321 (w.withFollow "special-get-raises" false) os, ttCode, ⟨53, 0, 53, 13⟩) := fun w os => by
  unfold piecesOf
  rw [tt_seg_q, tree_q, tt_execs_q]
  kernel_rfl
theorem tt_bt : ∀ (w : World) (os : OsState), segRunT treeTable PW (w.withFollow "special-get-raises" true) 11 (some (.ref 6)) 1 300 (ttSt (ttCut 62 20 15 ttNodes) 62 292 (w.withFollow "special-get-raises" true) os) (piecesOf ((ttBody.drop 15).take 2) ttEnv ttCode ⟨51, 0, 51, 8⟩ [topFrame ttP]) = some (.next, ttSt (ttCut 64 22 15 ttNodes) 64 321 (w.withFollow "special-get-raises" true) os, ttCode, ⟨53, 0, 53, 13⟩) := fun w os => by
  unfold piecesOf
  rw [tt_seg_q, tree_q, tt_execs_q]
  kernel_rfl
theorem tt_c : ∀ (w : World) (os : OsState), segRunT treeTable PW w 11 (some (.ref 6)) 1 700 (ttSt (ttCut 64 22 15 ttNodes) 64 321 w os) (piecesOf (((ttBody.drop 15).drop 2).take 7) ttEnv ttCode ⟨53, 0, 53, 13⟩ [topFrame ttP]) = some (.next, ttSt (ttCut 134 29 30 ttNodes) 134 412 w os, ttCode, ⟨64, 0, 85, 63⟩) := fun w os => by
  unfold piecesOf
  rw [tt_seg_q, tree_q, tt_execs_q]
  kernel_rfl
theorem tt_d : ∀ (w : World) (os : OsState), segRunT treeTable PW w 11 (some (.ref 6)) 1 900 (ttSt (ttCut 134 29 30 ttNodes) 134 412 w os) (piecesOf ((((ttBody.drop 15).drop 2).drop 7).take 1) ttEnv ttCode ⟨64, 0, 85, 63⟩ [topFrame ttP]) = some (.next, ttSt (ttCut 258 30 33 ttNodes) 258 575 w os, ttCode, ⟨86, 0, 241, 42⟩) := fun w os => by
  unfold piecesOf
  rw [tt_seg_q, tree_q, tt_execs_q]
  kernel_rfl
theorem tt_e : ∀ (w : World) (os : OsState), segRunT treeTable PW w 11 (some (.ref 6)) 1 400 (ttSt (ttCut 258 30 33 ttNodes) 258 575 w os) (piecesOf (((((ttBody.drop 15).drop 2).drop 7).drop 1)) ttEnv ttCode ⟨86, 0, 241, 42⟩ [topFrame ttP]) = some (.next, ttSt (ttCut 296 36 51 ttLaw) 296 626 w os, ttCode, ⟨292, 0, 303, 15⟩) := fun w os => by
  unfold piecesOf
  rw [tt_seg_q, tree_q, tt_execs_q]
  kernel_rfl
theorem tt_f : ∀ (w : World) (os : OsState), topRun treeTable PW w 11 (some (.ref 6)) 2 (ttSt (ttCut 296 36 51 ttLaw) 296 626 w os).abs (restOf [] ttEnv ttCode ⟨292, 0, 303, 15⟩ [topFrame ttP]) = some ⟨ttHeap w.params, Array.mk [], boot_drawn, 626, os⟩ := fun w os => by
  kernel_rfl
noncomputable abbrev ttEnd (w : World) (os : OsState) : Shared := ⟨ttHeap w.params, Array.mk [], boot_drawn, 626, os⟩
theorem tt_looka : ∀ (w : World) (os : OsState), (staticsOk (importedModules PW.main.body) (boot_heap w.params) (ttHeap w.params) && namesBound PW (ttHeap w.params) && gensDone (ttEnd w os) && laidKept (boot_heap w.params) (ttHeap w.params)) = true := fun w os => by
  rw [imp_q]
  kernel_rfl
theorem tt_looko : ∀ (w : World) (os : OsState), Hook.obs HK (ttEnd w os) = Hook.val HK w := fun w os => by kernel_rfl
theorem tt_looks : ∀ (w : World) (os : OsState), openSeen viewQ loose (importedModules PW.main.body) XtA true (ttEnd w os) = openGood viewQ loose := fun w os => by
  rw [imp_q, seen_q]
  kernel_rfl
theorem tt_size : ∀ w : World, ((boot_heap w.params).isNs mainGlobals && (Array.mk [] : Array GenState).size == 0, (boot_heap w.params).objs.size, (boot_heap w.params).nsMap mainGlobals "__annotations__") = (true, 11, some (.ref 6)) := fun w => by kernel_rfl
theorem tt_b : ∀ (w : World) (os : OsState), segRunT treeTable PW w 11 (some (.ref 6)) 1 300 (ttSt (ttCut 62 20 15 ttNodes) 62 292 w os) (piecesOf ((ttBody.drop 15).take 2) ttEnv ttCode ⟨51, 0, 51, 8⟩ [topFrame ttP]) = some (.next, ttSt (ttCut 64 22 15 ttNodes) 64 321 w os, ttCode, ⟨53, 0, 53, 13⟩) := fun w => by
  have e := World.withFollow_self w "special-get-raises"
  cases hf : w.params.followText "special-get-raises" <;> rw [hf] at e
  · have k := tt_bf w
    rw [e] at k
    exact k
  · have k := tt_bt w
    rw [e] at k
    exact k
theorem tt_block (w : World) (s : Shared) : segRun treeTable PW w 11 (some (.ref 6)) 1 1 s (blockOf ttBody ttEnv ttCode ttP [topFrame ttP]) = some (.next, s, ttCode, ttP) := by
  kernel_rfl
theorem tt_run (w : World) (os : OsState) : topRun treeTable PW w 11 (some (.ref 6)) (12 + (1 + (700 + (300 + (700 + (900 + (400 + 2))))))) ⟨boot_heap w.params, Array.mk [], boot_drawn, boot_toks, os⟩ (topStub PW) = some (ttEnd w os) := by
  refine go_top (tt_pre w os) (piece_block (tt_block w _) ?_)
  rw [show restOf (behindTheImports PW) ttEnv ttCode ttP [topFrame ttP] = restOf (ttBody.take 15 ++ ((ttBody.drop 15).take 2 ++ (((ttBody.drop 15).drop 2).take 7 ++ ((((ttBody.drop 15).drop 2).drop 7).take 1 ++ ((((ttBody.drop 15).drop 2).drop 7).drop 1 ++ []))))) ttEnv ttCode ttP [topFrame ttP] by
    rw [List.append_nil, List.take_append_drop, List.take_append_drop, List.take_append_drop, List.take_append_drop]]
  exact piece_app (segRun_of (tt_a w os)) (piece_app (segRun_of (tt_b w os)) (piece_app (segRun_of (tt_c w os)) (piece_app (segRun_of (tt_d w os)) (piece_app (segRun_of (tt_e w os)) (tt_f w os)))))
theorem left : LeftO PW viewQ loose XtA (Hook.obs HK) (Hook.val HK) 4040 :=
  LeftO.of_pieces boot tt_size tt_run (by decide) fun w => funext fun os => Prod.ext (tt_looka w os) (Prod.ext (tt_looks w os) (tt_looko w os))
theorem said_q : @OpenLaw.wellSaid = @PySem.W.Fast.tw9446332074065402090 := PySem.W.Fast.te9446332074065402090
theorem said : OpenLaw.wellSaid PySem.Challenge.rw_np0051_01 = true := by
  rw [said_q]
  unfold PySem.W.Fast.tw9446332074065402090
  repeat' (with_reducible refine look_both ?_ ?_)
  unfold PySem.W.Fast.tw17960256430627541270
  repeat' (with_reducible refine look_both ?_ ?_)
  unfold PySem.W.Fast.tw2436336058641802641
  repeat' (with_reducible refine look_both ?_ ?_)
  unfold PySem.W.Fast.tw12908688711261696721
  repeat' (with_reducible refine look_both ?_ ?_)
  all_goals as_aux_lemma => kernel_rfl
end
section
abbrev PR : Program := PySem.Challenge.pw_np0051_01
noncomputable def LO : List PySem.Str := looseW viewQ [PySem.Str.ofString "PLACES", PySem.Str.ofString "SYMBOL_PLACES"]

abbrev sS (x : String) : PySem.Str := PySem.Str.ofString x

/-- the seven objects: the parser, its dict, its list of frames, the frame on top, its dict, its nodes, its done -/
structure Ad where
  p : Addr
  dp : Addr
  fl : Addr
  f : Addr
  df : Addr
  nl : Addr
  dn : Addr
  c : Addr
  ph : Nat → Int
  pt : Nat → Tok
  fh : Nat → Int
  ft : Nat → Tok

noncomputable abbrev pDict (ph : Nat → Int) (pt : Nat → Tok) (c : Addr) (pl : Int) (t1 : Tok) (fl : Addr) (gr : Int) (t2 : Tok) : Obj :=
  dictOf [⟨ph 0, .str (PySem.Str.ofString "codes") (pt 0), .ref c⟩, ⟨ph 1, .str (PySem.Str.ofString "place") (pt 1), .int pl t1⟩, ⟨ph 2, .str (PySem.Str.ofString "frames") (pt 2), .ref fl⟩, ⟨ph 3, .str (PySem.Str.ofString "groups") (pt 3), .int gr t2⟩] 4
noncomputable abbrev fDict (fh : Nat → Int) (ft : Nat → Tok) (wd : PySem.Str) (t3 : Tok) (nu : Int) (t4 : Tok) (dn nl : Addr) (lo : Bool) : Obj :=
  dictOf [⟨fh 0, .str (PySem.Str.ofString "word") (ft 0), .str wd t3⟩, ⟨fh 1, .str (PySem.Str.ofString "number") (ft 1), .int nu t4⟩, ⟨fh 2, .str (PySem.Str.ofString "done") (ft 2), .ref dn⟩, ⟨fh 3, .str (PySem.Str.ofString "nodes") (ft 3), .ref nl⟩, ⟨fh 4, .str (PySem.Str.ofString "is_loose") (ft 4), .bool lo⟩] 5
abbrev lst (vs : List Value) (n : Nat) : Obj := listOf vs.toArray n
end
section
noncomputable abbrev exBm : List Value := [.type "Exception", .type "BaseException", .type "object"]
noncomputable abbrev exCls : Obj := excClassObj (sS "LispSignal") (sS "LispSignal") 31 30 [.type "Exception"] exBm true [] [] false none none (some (.ref 15)) none (some (.str (sS "LispSignal") 189)) (some (.str (sS "LispSignal") 197)) (some (.bool true)) "Exception.__new__"
theorem k31 (P : Params) : (heapK P).lookup 31 = some exCls := by k_is
theorem k30 (P : Params) : ∃ es ep, (heapK P).lookup 30 = some { cls := .type "dict", data := .dict es ep } ∧ StrKeys es ∧ nsFind es (sS "__init__") = some (.ref 28) ∧ nsFind es (sS "__setattr__") = none ∧ nsFind es (sS "symbol") = none ∧ nsFind es (sS "data") = none ∧ nsFind es (sS "__getattribute__") = none := by
  refine ⟨_, _, by k_is, ?_, by rfl, by rfl, by rfl, by rfl, by rfl⟩
  intro e he
  simp at he
  rcases he with rfl | rfl | rfl | rfl | rfl | rfl <;> exact ⟨_, _, rfl⟩
theorem k28 (P : Params) : ∃ o, (heapK P).lookup 28 = some o ∧ o.cls = .type "function" := ⟨_, by k_is, rfl⟩

noncomputable def ObNs (od : Obj) (m : PySem.Str → Option Value) : Prop := ∃ es ep, od.data = .dict es ep ∧ StrKeys es ∧ UniqKeys es ∧ ∀ name, nsFind es name = m name
noncomputable abbrev excO0 (t : Addr) : Obj := { cls := .ref 31, data := .fields #[.ref t, .none, .none, .none, .bool false, .none] }
noncomputable abbrev excO (t d : Addr) : Obj := { cls := .ref 31, dict := some d, data := .fields #[.ref t, .none, .none, .none, .bool false, .none] }

section
variable {w : World} {A : Around} {E : Value → Shared → Prop} {h : Heap} {g : Array GenState} {d : Drawn} {t : Nat} {os : OsState}
theorem exc_set1 {nm q : PySem.Str} {C N : Addr} {bs : List Value} {sn : List PySem.Str} {sub : List Value} {ab : Bool} {col : Option Bool} {dd : Option Addr} {k0 k1 k2 k3 k5 : Option Value} {B newId sa owner : String} {bm : List Value} {mN : PySem.Str → Option Value} {e : Addr} {o : Obj} {name : PySem.Str} {v : Value} {Q : Unit → Shared → Prop}
    (SF : StoreFacts B bm sa owner) (hC : h.get? C = some (excClassObj nm q C N bs bm true sn sub ab col dd k0 k1 k2 k3 k5 newId)) (hn : h.Ns N mN) (hns : mN "__setattr__" = none) (hna : mN name = none) (hB : typeLookup (.type B) name = pure none)
    (hx : h.get? e = some o) (hc : o.cls = .ref C) (hnc : ∀ c, o.data ≠ .cls c) (hdn : o.dict = none)
    (hq : ∀ h' tk' dd od, h.objs.size ≤ dd → h'.get? e = some { cls := o.cls, dict := some dd, data := o.data, slots := o.slots } → h'.get? dd = some od → ObNs od (fun y => if y = name then some v else none) →
      (∀ b ob, b ≠ e → h.get? b = some ob → h'.get? b = some ob) → Q () ⟨h', g, d, tk', os⟩) :
    wpAny (model PR w) A (setAttr (.ref e) name v) Q E ⟨h, g, d, t, os⟩ := by
  have f3 := SF.slot.bind (.ref e)
  have hpass := SF.passes (.ref e)
  unfold setAttr callSpecial? specialOf
  repeat (any_goals (first | assumption | (with_reducible refine wpAny_loadPart_at hx ?_; rw [hc]) | (with_reducible refine wpAny_typeLookup_exc hC hn SF.mro SF.slot.lookup ?_; rw [hns]) | wp_step))
  refine codeAny_call_builtin SF.slot.plain SF.entry (wpAny_check_sa SF hC hx hc ?_)
  unfold Builtin.«object.__setattr__»
  repeat (first | rw [refuse_eq] | (rw [refuseLoop_ref, hpass]) | (with_reducible refine wpAny_loadPart_at hx ?_; rw [hc]) | with_reducible refine wpAny_mroOf_exc hC ?_ | (with_reducible refine wpAny_typeLookup_exc hC hn SF.mro hB ?_; rw [hna]) | wp_step)
  rw [hdn, if_neg (by simp [typeHasDict])]
  split
  · rename_i q; cases q
  split
  · rename_i c q; exact absurd q (hnc c)
  have hx1 := Heap.get?_push_of_some { cls := .type "dict", data := .dict #[] } hx
  have hxs : e ≠ h.objs.size := Nat.ne_of_lt (Heap.lt_size hx)
  refine wpAny_bind (wpAny_alloc' ?_)
  refine wpAny_bind (wpAny_update' hx1 ?_)
  refine wpAny_pure ?_
  have hfr : ({ cls := o.cls, dict := some h.objs.size, data := o.data, slots := o.slots } : Obj).isFreed = false := by
    have q := (Heap.get?_some_iff.mp hx).2
    obtain ⟨oc, od, odt, osl⟩ := o
    cases odt <;> first | rfl | exact q
  have hx2 := Heap.get?_update_self (fun o : Obj => { cls := o.cls, dict := some h.objs.size, data := o.data, slots := o.slots }) hx1 hfr
  have hgd : ((h.push { cls := .type "dict", data := .dict #[] }).update e fun o => { cls := o.cls, dict := some h.objs.size, data := o.data, slots := o.slots }).get? h.objs.size = some { cls := .type "dict", data := .dict #[] } :=
    (Heap.get?_update_ne _ _ _ _ hxs.symm).trans (Heap.get?_push_at rfl rfl)
  have hkeep : ∀ b ob, b ≠ e → h.get? b = some ob → ((h.push { cls := .type "dict", data := .dict #[] }).update e fun o => { cls := o.cls, dict := some h.objs.size, data := o.data, slots := o.slots }).get? b = some ob := fun b ob hb q =>
    (Heap.get?_update_ne _ _ _ _ hb).trans (Heap.get?_push_of_some _ q)
  generalize ((h.push { cls := .type "dict", data := .dict #[] }).update e fun o => { cls := o.cls, dict := some h.objs.size, data := o.data, slots := o.slots }) = h2 at hx2 hgd hkeep ⊢
  have hnd : h2.Ns h.objs.size (fun _ => none) := ⟨_, #[], _, hgd, rfl, fun e he => absurd he (by simp), fun _ => rfl⟩
  show wpAny _ _ (storeInDict h.objs.size (.str name _) name v) _ _ _
  unfold storeInDict newKeyGuard
  refine wpAny_bind (wpAny_pure (wpAny_bind (wpAny_nsSet1 (Heap.Ns1.of_empty hnd) fun h' hn' hs => ?_)))
  obtain ⟨oD, esD, epD, hoD, hdD, hcD⟩ := hn'.count (Within.cons name v Within.nil)
  refine wpAny_bind (wpAny_lookBehind hoD (by rw [hdD]; exact pastItsLine_dict (Nat.le_trans hcD (by rw [List.length_cons, List.length_nil, sizeLine_eq]; omega))) ?_)
  wp_walk
  obtain ⟨o', es, ep, e1, e2, e3, eu, e4⟩ := hn'
  exact hq h' _ h.objs.size o' (Nat.le_refl _) ((hs.2 e hxs).trans hx2) e1 ⟨es, ep, e2, e3, eu, e4⟩ fun b ob hb q => (hs.2 b (Nat.ne_of_lt (Heap.lt_size q))).trans (hkeep b ob hb q)
end

/-- what the class's own names say -/
structure ExCl (h : Heap) (mN : PySem.Str → Option Value) : Prop where
  cls : h.get? 31 = some exCls
  ns : h.Ns 30 mN
  init : mN (sS "__init__") = some (.ref 28)
  seta : mN (sS "__setattr__") = none
  sym : mN (sS "symbol") = none
  dat : mN (sS "data") = none
  geta : mN (sS "__getattribute__") = none
  fn : ∃ o, h.get? 28 = some o ∧ o.cls = .type "function"
theorem exCl {P : Params} {h : Heap} (X : (heapK P).In h) : ∃ mN, ExCl h mN := by
  obtain ⟨es, ep, e, k, a, b, c, d, g⟩ := k30 P
  obtain ⟨o, ho, hc⟩ := k28 P
  exact ⟨nsFind es, X _ _ (k31 P), ⟨_, es, ep, X _ _ e, rfl, k, fun _ => rfl⟩, a, b, c, d, g, o, X _ _ ho, hc⟩

theorem lk_symbol : typeLookup (.type "Exception") (sS "symbol") = pure none := by rw [typeLookup_type, builtinLookup_eq_fast]; kernel_rfl
theorem lk_data : typeLookup (.type "Exception") (sS "data") = pure none := by rw [typeLookup_type, builtinLookup_eq_fast]; kernel_rfl

theorem fresh_none {h₀ h : Heap} {L : Addr} {m : PySem.Str → Option Value} (F : Fr h₀ L h m) {a : Addr} (ha : h.get? a = none) : a ≠ L ∧ h₀.get? a = none := by
  refine ⟨fun q => ?_, ?_⟩
  · obtain ⟨o, _, _, hL, _⟩ := F.ns
    rw [q, hL] at ha; cases ha
  · cases q : h₀.get? a with
    | none => rfl
    | some o => rw [F.keep _ _ q] at ha; cases ha
theorem none_of_ge {h : Heap} {a : Addr} (ha : h.objs.size ≤ a) : h.get? a = none := by
  cases q : h.get? a with
  | none => rfl
  | some o => exact absurd (Nat.lt_of_lt_of_le (Heap.lt_size q) ha) (Nat.lt_irrefl _)
theorem fresh_of {h₀ h : Heap} {L : Addr} {m : PySem.Str → Option Value} (F : Fr h₀ L h m) {a : Addr} (ha : h.objs.size ≤ a) : a ≠ L ∧ h₀.get? a = none := fresh_none F (none_of_ge ha)

section
variable {w : World} {A : Around} {E : Value → Shared → Prop} {s : Shared} {h₀ : Heap} {L : Addr} {m : PySem.Str → Option Value} {news : List (Addr × Obj)}
theorem exc_setK1 {e ta : Addr} {name : PySem.Str} {v : Value} {Q : Unit → Shared → Prop} (F : Fr h₀ L s.heap m) (X : (heapK w.params).In h₀) (N : News h₀ L s.heap ((e, excO0 ta) :: news))
    (hs : name = sS "symbol" ∨ name = sS "data") (he : ∀ p ∈ news, p.1 ≠ e)
    (hq : ∀ h' tk' dd od, Fr h₀ L h' m → News h₀ L h' ((e, excO ta dd) :: (dd, od) :: news) → ObNs od (fun y => if y = name then some v else none) → (∀ p ∈ (e, excO0 ta) :: news, p.1 < dd) → Q () { s with heap := h', toks := tk' }) :
    wpAny (model PR w) A (setAttr (.ref e) name v) Q E s := by
  obtain ⟨h, g, d, t, os⟩ := s
  obtain ⟨mN, C⟩ := exCl (X.keeps F.keep)
  have ne := N _ (.head _)
  refine exc_set1 (A := A) (o := excO0 ta) PySem.F.store_Exception C.cls C.ns C.seta ?_ ?_ ne.1 rfl (fun c q => nomatch q) rfl fun h' tk' dd od h1 h2 h3 h4 h5 => ?_
  · rcases hs with rfl | rfl
    · exact C.sym
    · exact C.dat
  · rcases hs with rfl | rfl
    · exact lk_symbol
    · exact lk_data
  · obtain ⟨oL, es, ep, hL, r⟩ := F.ns
    have f1 := fresh_of F h1
    refine hq h' tk' dd od ⟨⟨oL, es, ep, h5 _ _ (fun q => ne.2.1 q.symm) hL, r⟩, fun b o q => h5 b o (fun z => ?_) (F.keep b o q), F.above⟩ (fun p hp => ?_) h4 fun p hp => Nat.lt_of_lt_of_le (Heap.lt_size (N p hp).1) h1
    · rw [z, ne.2.2] at q; cases q
    · rcases List.mem_cons.mp hp with rfl | hp
      · exact ⟨h2, ne.2⟩
      rcases List.mem_cons.mp hp with rfl | hp
      · exact ⟨h3, f1⟩
      · exact ⟨h5 _ _ (he p hp) (N p (.tail _ hp)).1, (N p (.tail _ hp)).2⟩

theorem exc_setK2 {e ta dd : Addr} {od : Obj} {name n0 : PySem.Str} {v v0 : Value} {Q : Unit → Shared → Prop} (F : Fr h₀ L s.heap m) (X : (heapK w.params).In h₀) (N : News h₀ L s.heap ((e, excO ta dd) :: (dd, od) :: news))
    (hO : ObNs od (fun y => if y = n0 then some v0 else none))
    (hs : name = sS "symbol" ∨ name = sS "data") (hlt : ∀ p ∈ (e, excO0 ta) :: news, p.1 < dd) (hee : ∀ p ∈ news, p.1 ≠ e)
    (hq : ∀ h' tk' od', Fr h₀ L h' m → News h₀ L h' ((e, excO ta dd) :: (dd, od') :: news) → ObNs od' (fun y => if y = name then some v else if y = n0 then some v0 else none) → Q () { s with heap := h', toks := tk' }) :
    wpAny (model PR w) A (setAttr (.ref e) name v) Q E s := by
  obtain ⟨h, g, d, t, os⟩ := s
  obtain ⟨mN, C⟩ := exCl (X.keeps F.keep)
  have ne := N _ (.head _)
  have nd := N _ (.tail _ (.head _))
  obtain ⟨es, ep, o1, o2, o3, o4⟩ := hO
  have hde : dd ≠ e := Nat.ne_of_gt (hlt _ (.head _))
  have he : ∀ p ∈ news, p.1 ≠ e ∧ p.1 ≠ dd := fun p hp => ⟨hee p hp, Nat.ne_of_lt (hlt _ (.tail _ hp))⟩
  have e31 : e ≠ 31 := fun q => by
    have := X _ _ (k31 w.params)
    rw [← q, ne.2.2] at this; cases this
  have I : h.Inst e 31 (fun y => if y = n0 then some v0 else none) := ⟨_, ne.1, rfl, (fun c q => nomatch q), .inr ⟨dd, rfl, hde, ⟨od, es, ep, nd.1, o1, o2, o3, o4⟩⟩⟩
  have hw : Within (fun y => if y = n0 then some v0 else none) [n0] := fun y hy => by
    by_cases q : y = n0
    · rw [q]; exact .head _
    · exact absurd (if_neg q) hy
  refine store_attr (A := A) PySem.F.store_Exception C.cls C.ns C.seta ?_ ?_ e31 I (fun h' tk' I' h5 h6 => ?_) hw (by rw [sizeLine_eq]; show 1 ≤ _; omega)
  · rcases hs with rfl | rfl
    · exact C.sym
    · exact C.dat
  · rcases hs with rfl | rfl
    · exact lk_symbol
    · exact lk_data
  · have k5 : ∀ b o, b ≠ e → b ≠ dd → h.get? b = some o → h'.get? b = some o := fun b o x y z => h5 b o x (fun o₀ dx p q => by
      rw [ne.1] at p; cases p; cases q; exact y) z
    obtain ⟨o₁, p1, p2, p3, p4, p5⟩ := h6 _ ne.1
    have p6 := p5 dd rfl
    have : o₁ = excO ta dd := by
      obtain ⟨c1, c2, c3, c4⟩ := o₁
      dsimp only at p2 p3 p4 p6
      rw [p2, p3, p4, p6]
    subst this
    obtain ⟨o₂, q1, q2, q3, q4⟩ := I'
    rw [p1] at q1; cases q1
    rcases q4 with ⟨q4, _⟩ | ⟨d', q4, _, od', es', ep', r1, r2, r3, r4, r5⟩
    · cases q4
    cases q4
    obtain ⟨oL, esL, epL, hL, r⟩ := F.ns
    refine hq h' tk' od' ⟨⟨oL, esL, epL, k5 _ _ (fun q => ne.2.1 q.symm) (fun q => nd.2.1 q.symm) hL, r⟩, fun b o q => k5 b o (fun z => ?_) (fun z => ?_) (F.keep b o q), F.above⟩ (fun p hp => ?_) ⟨es', ep', r2, r3, r4, r5⟩
    · rw [z, ne.2.2] at q; cases q
    · rw [z, nd.2.2] at q; cases q
    · rcases List.mem_cons.mp hp with rfl | hp
      · exact ⟨p1, ne.2⟩
      rcases List.mem_cons.mp hp with rfl | hp
      · exact ⟨r1, nd.2⟩
      · exact ⟨k5 _ _ (he p hp).1 (he p hp).2 (N p (.tail _ (.tail _ hp))).1, (N p (.tail _ (.tail _ hp))).2⟩
end
end
section
/-- an exception of the class at 31 whose traceback is begun; its dict is dd; fl: the mark of flight -/
noncomputable def TrD (h B : Heap) (e dd : Addr) (fl : Value) : Prop :=
  ∃ oe vs T oT ts, h.get? e = some oe ∧ oe.cls = .ref 31 ∧ oe.dict = some dd ∧ oe.data = .fields vs ∧ vs[1]? = some (.ref T) ∧ B.get? T = none ∧ T ≠ e ∧ h.get? T = some oT ∧ oT.data = .fields ts ∧ ts[3]? = some fl
noncomputable def NtD (B : Heap) (l : List Env) (e dd : Addr) (fl : Value) (h h' : Heap) : Prop :=
  B.StaysIn h' ∧ h'.FunFrames B l ∧ TrD h' B e dd fl ∧ h.UpToSlots h'

section
variable {M : Model} {A : Around} {E : Value → Shared → Prop} {s : Shared}

theorem entryD {B : Heap} {env : Env} {outer : List Env} {L e dd : Addr} {oe : Obj} {vs : Array Value} {head : Value} {hadNext : Bool} {Q : Unit → Shared → Prop}
    (hfr : A.frames = some (env :: outer)) (hl : s.heap.FunFrames B (env :: outer)) (hf : env.frame = some L)
    (he : s.heap.get? e = some oe) (hkb : B.StaysIn s.heap) (hen : B.get? e = none) (hc : oe.cls = .ref 31) (hdd : oe.dict = some dd) (hd : oe.data = .fields vs) (hsz : 1 < vs.size)
    (h : ∀ h', NtD B (env :: outer) e dd (rawInt L) s.heap h' → Q () { s with heap := h' }) :
    wpAny M A (do let a ← frameOf env; let pl ← entryPlaceOf L hadNext; let b ← EntryCells.newEntry head a .none (rawInt L) .none pl; setField (.ref e) 1 b) Q E s := by
  have hene : e ∉ (env :: outer).filterMap (·.frame) := fun hm => by
    obtain ⟨_, o, ho, hnf⟩ := hl.mem hm
    rw [he] at ho; cases ho; exact hnf vs hd
  refine wpAny_bind (wpAny_frameOf_fun hfr hl hf fun h₁ hs₁ => ?_)
  refine wpAny_bind (wpAny_entryPlaceOf fun pl hpl => ?_)
  unfold EntryCells.newEntry newFields
  refine wpAny_bind (wpAny_newObj_type ?_ (hpl.sizeOk5 _ _ _ _ _))
  have he₁ : h₁.get? e = some oe := (hs₁.2.1 e hene).trans he
  have kb₁ : B.StaysIn h₁ := fun b o hbo => (hs₁.2.1 b fun hm => by rw [(hl.mem hm).1] at hbo; cases hbo).trans (hkb b o hbo)
  generalize hT : ({ cls := .type "traceback", dict := none, data := .fields ([head, .ref L, .none, rawInt L, .none] ++ (if pl.isEmpty then List.replicate 6 Value.none else pl)).toArray } : Obj) = oT
  have hTd : oT.data = .fields ([head, .ref L, .none, rawInt L, .none] ++ (if pl.isEmpty then List.replicate 6 Value.none else pl)).toArray := by rw [← hT]
  have hTf : oT.isFreed = false := Obj.isFreed_of_fields hTd
  have he₂ := Heap.get?_push_of_some (h := h₁) oT he₁
  refine wpAny_setField he₂ hd hsz (h _ ?_)
  have hTe : h₁.objs.size ≠ e := Nat.ne_of_gt (Heap.lt_size he₁)
  have hd₃ := Obj.data_mapFields hd (·.setIfInBounds 1 (Value.ref h₁.objs.size))
  have he₃ := Heap.get?_update_self (Obj.mapFields (·.setIfInBounds 1 (Value.ref h₁.objs.size))) he₂ (Obj.isFreed_of_fields hd₃)
  have hT₃ := (Heap.get?_update_other (h₁.push oT) (Obj.mapFields (·.setIfInBounds 1 (Value.ref h₁.objs.size))) (Ne.symm hTe)).trans (Heap.get?_push_size h₁ hTf)
  have keep : ∀ b o, b ≠ e → h₁.get? b = some o → ((h₁.push oT).update e (Obj.mapFields (·.setIfInBounds 1 (Value.ref h₁.objs.size)))).get? b = some o :=
    fun b o hbe hb => (Heap.get?_update_other _ _ (Ne.symm hbe)).trans (Heap.get?_push_of_some _ hb)
  have nr : ∀ b o, s.heap.get? b = some o → (∀ vs, o.data ≠ .fields vs) → b ≠ e := fun b o hb hnf q => by
    rw [q, he] at hb; cases hb; exact hnf vs hd
  refine ⟨fun b o hbo => keep b o (fun q => by rw [q, hen] at hbo; cases hbo) (kb₁ b o hbo), hl.of_keeps fun b o hb hnf => ?_, ?_, fun b o hb hnf => ?_⟩
  · obtain ⟨sl, hs⟩ := hs₁.2.2 b o hb
    exact ⟨_, keep b _ (nr b o hb hnf) hs, rfl⟩
  · refine ⟨_, _, h₁.objs.size, _, _, he₃, (Obj.cls_mapFields _ _).trans hc, ?_, hd₃, by simp [hsz], kb₁.fresh, hTe, hT₃, hTd, by first | (simp; done) | (rcases hpl with rfl | ⟨_, _, _, _, _, _, _, rfl⟩ <;> simp)⟩
    rw [← hdd]
    obtain ⟨c1, c2, c3, c4⟩ := oe
    cases hd
    rfl
  · obtain ⟨sl, hs⟩ := hs₁.2.2 b o hb
    exact ⟨sl, keep b _ (nr b o hb hnf) hs⟩

theorem flightD {B : Heap} {l : List Env} {e dd : Addr} {fl : Value} {Q : Unit → Shared → Prop}
    (hkb : B.StaysIn s.heap) (hl : s.heap.FunFrames B l) (ht : TrD s.heap B e dd fl)
    (h : ∀ h', NtD B l e dd .none s.heap h' → Q () { s with heap := h' }) : wpAny M A (setFlight (.ref e) none) Q E s := by
  obtain ⟨oe, vs, T, oT, ts, he, hc, hdd, hd, h1, hnT, hTe, hT, hdT, h3⟩ := ht
  have hsz3 : 3 < ts.size := (Array.getElem?_eq_some_iff.mp h3).1
  have other : ∀ b, b ≠ T → (s.heap.update T (Obj.mapFields (·.setIfInBounds 3 ((none : Option Addr).elim Value.none fun f => rawInt f)))).get? b = s.heap.get? b :=
    fun b hb => Heap.get?_update_other _ _ (Ne.symm hb)
  have nr : ∀ b o, s.heap.get? b = some o → (∀ vs, o.data ≠ .fields vs) → b ≠ T := fun b o hb hnf q => by
    rw [q, hT] at hb; cases hb; exact hnf ts hdT
  unfold setFlight
  refine wpAny_bind (wpAny_field he hd h1 ?_)
  rw [if_pos (show (Value.ref T != Value.none) = true from by simp)]
  refine wpAny_setField hT hdT hsz3 (h _ ⟨fun b o hbo => (other b fun q => by rw [q, hnT] at hbo; cases hbo).trans (hkb b o hbo),
    hl.of_keeps fun b o hb hnf => ⟨o, (other b (nr b o hb hnf)).trans hb, rfl⟩, ?_, fun b o hb hnf => ⟨o.slots, (other b (nr b o hb hnf)).trans hb⟩⟩)
  exact ⟨oe, vs, T, _, _, (other e (Ne.symm hTe)).trans he, hc, hdd, hd, h1, hnT, hTe, Heap.get?_update_self _ hT (Obj.isFreed_of_fields (Obj.data_mapFields hdT _)), Obj.data_mapFields hdT _, by simp [hsz3]⟩

theorem noteD {B : Heap} {env : Env} {outer : List Env} {L e dd : Addr} {Q : Unit → Shared → Prop}
    (hfr : A.frames = some (env :: outer)) (hl : s.heap.FunFrames B (env :: outer)) (hf : env.frame = some L) (ht : TrD s.heap B e dd .none) (hkb : B.StaysIn s.heap) (hen : B.get? e = none)
    (h : ∀ h', NtD B (env :: outer) e dd (rawInt L) s.heap h' → Q () { s with heap := h' }) : wpAny M A (noteFrame (.ref e) env) Q E s := by
  obtain ⟨oe, vs, T, oT, ts, he, hc, hdd, hd, h1, hnT, hTe, hT, hdT, h3⟩ := ht
  unfold noteFrame
  simp only [hf]
  refine wpAny_bind (wpAny_field he hd h1 ?_)
  rw [if_pos (show (Value.ref T != Value.none) = true from by simp)]
  refine wpAny_bind (wpAny_field hT hdT h3 ?_)
  rw [if_neg (show ¬ ((Value.none == rawInt L) = true) from by simp [rawInt])]
  refine wpAny_bind (wpAny_setField hT hdT (Array.getElem?_eq_some_iff.mp h3).1 ?_)
  have other : ∀ b, b ≠ T → (s.heap.update T (Obj.mapFields (·.setIfInBounds 3 Value.none))).get? b = s.heap.get? b := fun b hb => Heap.get?_update_other _ _ (Ne.symm hb)
  have nr : ∀ b o, s.heap.get? b = some o → (∀ vs, o.data ≠ .fields vs) → b ≠ T := fun b o hb hnf q => by
    rw [q, hT] at hb; cases hb; exact hnf ts hdT
  refine entryD hfr (hl.of_keeps fun b o hb hnf => ⟨o, (other b (nr b o hb hnf)).trans hb, rfl⟩) hf ((other e (Ne.symm hTe)).trans he)
    (fun b o hbo => (other b fun q => by rw [q, hnT] at hbo; cases hbo).trans (hkb b o hbo)) hen hc hdd hd (Array.getElem?_eq_some_iff.mp h1).1
    fun h' ⟨x1, x2, x3, x4⟩ => h h' ⟨x1, x2, x3, fun b o hb hnf => x4 b o ((other b (nr b o hb hnf)).trans hb) hnf⟩

theorem note0D {B : Heap} {env : Env} {outer : List Env} {L e dd : Addr} {oe : Obj} {vs : Array Value} {Q : Unit → Shared → Prop}
    (hfr : A.frames = some (env :: outer)) (hl : s.heap.FunFrames B (env :: outer)) (hf : env.frame = some L)
    (he : s.heap.get? e = some oe) (hc : oe.cls = .ref 31) (hdd : oe.dict = some dd) (hd : oe.data = .fields vs) (h1 : vs[1]? = some .none) (hkb : B.StaysIn s.heap) (hen : B.get? e = none)
    (h : ∀ h', NtD B (env :: outer) e dd (rawInt L) s.heap h' → Q () { s with heap := h' }) : wpAny M A (noteFrame (.ref e) env) Q E s := by
  unfold noteFrame
  simp only [hf]
  refine wpAny_bind (wpAny_field he hd h1 ?_)
  rw [if_neg (by decide)]
  exact entryD hfr hl hf he hkb hen hc hdd hd (Array.getElem?_eq_some_iff.mp h1).1 h

theorem funFrames_tail {h B : Heap} {env : Env} {outer : List Env} (x : h.FunFrames B (env :: outer)) : h.FunFrames B outer := x.2.2

/-- what flies: the message, in a list, in the exception's dict; G: the heap below, which is kept but for the frames -/
noncomputable def Rz (base G : Heap) (l : List Env) (e : Addr) (msg : PySem.Str) (h : Heap) : Prop :=
  (∃ B dd od dl n tk tk2, base.StaysIn B ∧ (∀ b o, G.get? b = some o → b ∉ l.filterMap (·.frame) → B.get? b = some o) ∧ B.StaysIn h ∧ B.get? e = none ∧ h.FunFrames B l ∧ TrD h B e dd .none ∧
    B.get? dd = some od ∧ ObNs od (fun y => if y = sS "data" then some (.ref dl) else if y = sS "symbol" then some (.str (sS "invalid-regexp") tk2) else none) ∧ B.get? dl = some (lst [.str msg tk] n) ∧
    G.get? e = none ∧ G.get? dd = none ∧ G.get? dl = none ∧ dd ≠ e ∧ dl ≠ e ∧ dl ≠ dd) ∧ G.UpToSlots h

theorem fr_self {g h : Heap} {L : Addr} {m : PySem.Str → Option Value} (F : Fr g L h m) : g.get? L = none := by
  cases q : g.get? L with
  | none => rfl
  | some o => exact absurd (Nat.lt_of_lt_of_le (Heap.lt_size q) F.above) (Nat.lt_irrefl _)
theorem keep_none {g G : Heap} (k : ∀ b o, g.get? b = some o → G.get? b = some o) {b : Addr} (e : G.get? b = none) : g.get? b = none := by
  cases q : g.get? b with
  | none => rfl
  | some o => have := k b o q; rw [e] at this; cases this

/-- a frame is left by what flies through it -/
theorem leave_onD {base g G : Heap} {env : Env} {outer : List Env} {L e : Addr} {m : PySem.Str → Option Value} {msg : PySem.Str} {Q : Unit → Shared → Prop}
    (hfr : A.frames = some (env :: outer)) (hf : env.frame = some L) (F : Fr g L G m) (R : Rz base G (env :: outer) e msg s.heap)
    (hQ : ∀ h', Rz base g outer e msg h' → Q () { s with heap := h' }) : wpAny M A (leaving env (.ref e)) Q E s := by
  obtain ⟨⟨B, dd, od, dl, n, tk, tk2, a1, a0, a2, a3, a4, a5, a7, a8, a9, b1, b2, b3, b4⟩, U⟩ := R
  unfold leaving
  refine wpAny_bind (noteD hfr a4 hf a5 a2 a3 fun h' N1 => ?_)
  refine flightD (s := { s with heap := h' }) N1.1 N1.2.1 N1.2.2.1 fun h2 N2 => ?_
  refine hQ h2 ⟨⟨B, dd, od, dl, n, tk, tk2, a1, fun b o q nm => a0 b o (F.keep b o q) fun hm => ?_, N2.1, a3, funFrames_tail N2.2.1, N2.2.2.1, a7, a8, a9, keep_none F.keep b1, keep_none F.keep b2, keep_none F.keep b3, b4⟩, ((Heap.UpToSlots.of_keeps F.keep).trans (U.trans (N1.2.2.2.trans N2.2.2.2)))⟩
  rw [List.filterMap_cons, hf] at hm
  rcases List.mem_cons.mp hm with z | z
  · rw [z, fr_self F] at q; cases q
  · exact nm z
end
end
section
/-- an exception that the ledger bears, with its dict and its list -/
structure Exq (news : List (Addr × Obj)) (e : Addr) (msg : PySem.Str) : Prop where
  has : ∃ dd od ta dl n tk tk2, (e, excO ta dd) ∈ news ∧ (dd, od) ∈ news ∧ (dl, lst [.str msg tk] n) ∈ news ∧
    ObNs od (fun y => if y = sS "data" then some (.ref dl) else if y = sS "symbol" then some (.str (sS "invalid-regexp") tk2) else none) ∧ dd ≠ e ∧ dl ≠ e ∧ dl ≠ dd

section
variable {M : Model} {A : Around} {E : Value → Shared → Prop} {s : Shared}
theorem leave_firstD {base g : Heap} {env : Env} {outer : List Env} {L e : Addr} {m : PySem.Str → Option Value} {news : List (Addr × Obj)} {msg : PySem.Str} {Q : Unit → Shared → Prop}
    (K : Below A base outer g) (F : Fr g L s.heap m) (N : News g L s.heap news) (hx : Exq news e msg) (hf : env.frame = some L) (hk : env.scope.kind = .function)
    (hQ : ∀ h', Rz base g outer e msg h' → Q () { s with heap := h' }) : wpAny M (A.deeper env) (leaving env (.ref e)) Q E s := by
  obtain ⟨dd, od, ta, dl, n, tk, tk2, m1, m2, m3, hO, d1, d2, d3⟩ := hx.has
  have K' := pushX K F hf hk
  have frs : ∀ b, b ∈ (env :: outer).filterMap (·.frame) → base.get? b = none := fun b hb => (K'.frames.mem hb).1
  have nof : ∀ q ∈ news, q.1 ∉ (env :: outer).filterMap (·.frame) := fun q hq hm => by
    obtain ⟨en, he, hfr⟩ := List.mem_filterMap.mp hm
    rcases List.mem_cons.mp he with rfl | he
    · rw [hf] at hfr
      exact (N q hq).2.1 (Option.some.inj hfr).symm
    · obtain ⟨o, ho, _⟩ := (K.frames.mem (List.mem_filterMap.mpr ⟨en, he, hfr⟩)).2
      rw [(N q hq).2.2] at ho; cases ho
  have nb : ∀ q ∈ news, base.get? q.1 = none := fun q hq => fresh_of_stays K.stays (N q hq).2.2
  have hBh : (hideAll s.heap (e :: (env :: outer).filterMap (·.frame))).StaysIn s.heap := fun b o q => of_hideAll _ q
  have hbB : base.StaysIn (hideAll s.heap (e :: (env :: outer).filterMap (·.frame))) := fun b o q => hideAll_get _ (K'.stays b o q) fun hm => by
    rcases List.mem_cons.mp hm with rfl | hm
    · rw [nb _ m1] at q; cases q
    · rw [frs b hm] at q; cases q
  have get : ∀ q ∈ news, q.1 ≠ e → (hideAll s.heap (e :: (env :: outer).filterMap (·.frame))).get? q.1 = some q.2 := fun q hq hn => hideAll_get _ (N q hq).1 fun hm => by
    rcases List.mem_cons.mp hm with z | hm
    · exact hn z
    · exact nof q hq hm
  have hG : ∀ b o, g.get? b = some o → b ∉ outer.filterMap (·.frame) → (hideAll s.heap (e :: (env :: outer).filterMap (·.frame))).get? b = some o := fun b o q nm => hideAll_get _ (F.keep b o q) fun hm => by
    rcases List.mem_cons.mp hm with z | hm
    · rw [z, (N _ m1).2.2] at q; cases q
    rw [List.filterMap_cons, hf] at hm
    rcases List.mem_cons.mp hm with z | z
    · rw [z, fr_self F] at q; cases q
    · exact nm z
  have hFF : s.heap.FunFrames (hideAll s.heap (e :: (env :: outer).filterMap (·.frame))) (env :: outer) := funFrames_hide K'.frames fun en he a ha => .tail _ (List.mem_filterMap.mpr ⟨en, he, ha⟩)
  have hen : (hideAll s.heap (e :: (env :: outer).filterMap (·.frame))).get? e = none := hideAll_none _ (.head _)
  unfold leaving
  refine wpAny_bind (note0D K'.stack hFF hf (N _ m1).1 rfl rfl rfl (by rfl) hBh hen fun h' N1 => ?_)
  refine flightD (s := { s with heap := h' }) N1.1 N1.2.1 N1.2.2.1 fun h2 N2 => ?_
  exact hQ h2 ⟨⟨_, dd, od, dl, n, tk, tk2, hbB, hG, N2.1, hen, funFrames_tail N2.2.1, N2.2.2.1, get _ m2 d1, hO, get _ m3 d2, (N _ m1).2.2, (N _ m2).2.2, (N _ m3).2.2, d1, d2, d3⟩, (Heap.UpToSlots.of_keeps F.keep).trans (N1.2.2.2.trans N2.2.2.2)⟩

theorem raise_stmtD {env : Env} {nm q : PySem.Str} {C N : Addr} {bs bm : List Value} {hdct : Bool} {sn : List PySem.Str} {sub : List Value} {ab : Bool} {col : Option Bool} {dd : Option Addr} {k0 k1 k2 k3 k5 : Option Value} {newId : String} {x : Sem Value} {Q : Flow → Shared → Prop}
    (hbase : bm.contains (.type "BaseException") = true) (hh : A.handled = none)
    (h : wpAny M A x (fun v s₁ => ∃ e t d, v = .ref e ∧ s₁.heap.get? C = some (excClassObj nm q C N bs bm hdct sn sub ab col dd k0 k1 k2 k3 k5 newId) ∧
      s₁.heap.get? e = some { cls := .ref C, dict := some d, data := .fields #[.ref t, .none, .none, .none, .bool false, .none] } ∧ E (.ref e) s₁) E s) :
    wpAny M A (raiseStmt env (some x) none) Q E s := by
  have hcB : (Value.ref C :: bm).contains (.type "BaseException") = true := by rw [List.contains_cons, hbase, Bool.or_true]
  unfold raiseStmt
  refine wpAny_bind (wpAny_mono h (fun v s₁ h₁ => ?_) fun _ _ x => x)
  obtain ⟨e, t, d, rfl, hC, he, hE⟩ := h₁
  obtain ⟨hp, g, d, tk, os⟩ := s₁
  repeat (first | with_reducible refine wpAny_loadPart_at he ?_ | with_reducible refine wpAny_loadPart_at hC ?_ | (with_reducible refine wpAny_isSubtype_exc hC ?_; rw [hcB]) | wp_step)
  exact wpAny_raiseNew_none hh hE

theorem raise_execD {env : Env} {xe : Expr} {pos : Pos} {Q : Flow → Shared → Prop} (hh : A.handled = none)
    (h : wpAny M A (eval xe env) (fun v s₁ => ∃ e t d, v = .ref e ∧ s₁.heap.get? 31 = some exCls ∧ s₁.heap.get? e = some (excO t d) ∧ E (.ref e) s₁) E s) :
    wpAny M A (exec (.Raise (some xe) none pos) env) Q E s := by
  rw [arm_exec_Raise]
  refine wpAny_bind (wpAny_standAt (raise_stmtD (C := 31) (bm := exBm) (nm := sS "LispSignal") (q := sS "LispSignal") (N := 30) (bs := [.type "Exception"]) (hdct := true) (sn := []) (sub := []) (ab := false) (col := none) (dd := none) (k0 := some (.ref 15)) (k1 := none) (k2 := some (.str (sS "LispSignal") 189)) (k3 := some (.str (sS "LispSignal") 197)) (k5 := some (.bool true)) (newId := "Exception.__new__") (by decide) hh ?_))
  exact wpAny_bind (wpAny_mono h (fun v s₁ hv => wpAny_bind (wpAny_standAt (wpAny_pure hv))) fun _ _ y => y)
end

theorem hx1 {e d : Addr} {o : Obj} {news : List (Addr × Obj)} (hne : ∀ p ∈ news, p.1 ≠ e) (h : ∀ p ∈ (e, o) :: news, p.1 < d) : ∀ p ∈ news, p.1 ≠ e ∧ p.1 ≠ d := fun p hp => ⟨hne p hp, Nat.ne_of_lt (h p (.tail _ hp))⟩
theorem hx2 {e d : Addr} {o : Obj} {news : List (Addr × Obj)} (h : ∀ p ∈ (e, o) :: news, p.1 < d) : d ≠ e := Nat.ne_of_gt (h _ (.head _))
theorem hx3 {a e d : Addr} {o : Obj} {news : List (Addr × Obj)} (h : ∀ p ∈ (a, o) :: news, p.1 ≠ e ∧ p.1 ≠ d) : a ≠ e := (h _ (.head _)).1
theorem hx4 {a e d : Addr} {o : Obj} {news : List (Addr × Obj)} (h : ∀ p ∈ (a, o) :: news, p.1 ≠ e ∧ p.1 ≠ d) : a ≠ d := (h _ (.head _)).2
theorem ddepth_under (A : Around) (v : List Value) : (A.under (.builtin "type.__call__" ⟨.ref 31 :: v, []⟩)).depth = A.depth + 1 := rfl

section
variable {w : World} {mean : ExcName → Option Value} {mg mb : PySem.Str → Option Value} {dp un : Nat} {gd : Option (List Code)} {cn : PySem.Str} {cs : Scope} {a : Addr} {ccd : Value} {cl : List (PySem.Str × Addr)} {outer : List Env} {A₀ : Around} {base h₀ : Heap} {L : Addr} {m : PySem.Str → Option Value} {s : Shared} {Q E : Value → Shared → Prop} {news : List (Addr × Obj)}
theorem rows_at1 : True := by
  k_with "setAttr ref" => ((k_here; first | (refine' exc_setK1 ?k1 ?k2 ?k3 ?k4 ?k5 ?_; (case k1 => k_asm); (case k2 => k_asm); (case k3 => k_asm); (case k4 => first | exact Or.inl rfl | exact Or.inr rfl); (case k5 => assumption); k_whole; intro h'z tk'z dd'z od'z F'z N'z hO'z hlt'z; (try k_sweep)) | (refine' exc_setK2 ?k1 ?k2 ?k3 ?k6 ?k4 ?k5 ?k7 ?_; (case k1 => k_asm); (case k2 => k_asm); (case k3 => k_asm); (case k6 => assumption); (case k4 => first | exact Or.inl rfl | exact Or.inr rfl); (case k5 => assumption); (case k7 => assumption); k_whole; intro h'z tk'z od'z F'z N'z hO'z; (try k_sweep))))
  trivial
theorem exc_made {v1 v2 : Value} 
    (B : Below A₀ base outer h₀) (F : Fr h₀ L s.heap m) (X : (heapK w.params).In h₀) (N : News h₀ L s.heap news) (T : Top viewQ LO mean mg mb h₀) (hk : cs.kind = .function)
    (hdp : dp + 2 < recursionLimit) (hun : un + 16 < cLine)
    (hret : ∀ e dd od ta h' tk', Fr h₀ L h' m → News h₀ L h' ((e, excO ta dd) :: (dd, od) :: news) → ObNs od (fun y => if y = sS "data" then some v2 else if y = sS "symbol" then some v1 else none) → (∀ p ∈ news, p.1 ≠ e ∧ p.1 ≠ dd) → dd ≠ e → Q (.ref e) { s with heap := h', toks := tk' }) :
    wpAny (model PR w) (ktrTop dp un gd cn cs L a ccd cl outer) (call (.ref 31) [v1, v2]) Q E s := by
  obtain ⟨h, g, d, t, os⟩ := s
  obtain ⟨mN, C⟩ := exCl (X.keeps F.keep)
  obtain ⟨o28, h28, c28⟩ := C.fn
  refine wpAny_call_exc_init PySem.F.excBase_Exception C.cls C.ns C.init h28 c28 (fun h' e hm => ?_) (by rw [sizeLine_eq]; show 2 ≤ _; omega)
  obtain ⟨ta, he, hta, htt⟩ := hm.there
  have F1 : Fr h₀ L h' m := F.keeps hm.keeps
  have fe := fresh_none F hm.new
  have N1 : News h₀ L h' ((e, excO0 ta) :: news) := fun p hp => by
    rcases List.mem_cons.mp hp with rfl | hp
    · exact ⟨he, fe⟩
    · exact ⟨hm.keeps _ _ (N p hp).1, (N p hp).2⟩
  have hne : ∀ p ∈ news, p.1 ≠ e := fun p hp q => by
    have := (N p hp).1
    rw [q, hm.new] at this; cases this
  refine wpAny_call ?_
  (k_dflt cell_enter)
  k_steps
  exact hret _ _ _ _ _ _ (by assumption) (by assumption) (by assumption) (hx1 hne (by assumption)) (hx2 (by assumption))
end

section
variable {M : Model} {A : Around} {E : Value → Shared → Prop} {s : Shared}
noncomputable def RaiseEnd (E : Value → Shared → Prop) (v : Value) (s₁ : Shared) : Prop := ∃ e t d, v = .ref e ∧ s₁.heap.get? 31 = some exCls ∧ s₁.heap.get? e = some (excO t d) ∧ E (.ref e) s₁
theorem raiseEnd_ {P : Params} {h₀ : Heap} {L : Addr} {m : PySem.Str → Option Value} {news : List (Addr × Obj)} {e : Addr} {msg : PySem.Str} (F : Fr h₀ L s.heap m) (X : (heapK P).In h₀) (N : News h₀ L s.heap news) (hx : Exq news e msg) (h : E (.ref e) s) : RaiseEnd E (.ref e) s := by
  obtain ⟨dd, od, ta, dl, n, tk, tk2, m1, _⟩ := hx.has
  exact ⟨e, ta, dd, rfl, (X.keeps F.keep) _ _ (k31 P), (N _ m1).1, h⟩
theorem raise_D {env : Env} {xe : Expr} {pos : Pos} {Q : Flow → Shared → Prop} (hh : A.handled = none)
    (h : wpAny M A (eval xe env) (fun v s₁ => RaiseEnd E v s₁) E s) :
    wpAny M A (exec (.Raise (some xe) none pos) env) Q E s := raise_execD hh h
theorem Exq.mono {news news' : List (Addr × Obj)} {e : Addr} {msg : PySem.Str} (x : Exq news e msg) (h : ∀ p ∈ news, p ∈ news') : Exq news' e msg := by
  obtain ⟨dd, od, ta, dl, n, tk, tk2, m1, m2, m3, r⟩ := x.has
  exact ⟨dd, od, ta, dl, n, tk, tk2, h _ m1, h _ m2, h _ m3, r⟩
end

section
variable {w : World} {mean : ExcName → Option Value} {mg mb : PySem.Str → Option Value} {dp un : Nat} {gd : Option (List Code)} {cn : PySem.Str} {cs : Scope} {a : Addr} {ccd : Value} {cl : List (PySem.Str × Addr)} {outer : List Env} {A₀ : Around} {base h₀ : Heap} {L : Addr} {m : PySem.Str → Option Value} {s : Shared} {Q E : Value → Shared → Prop} {news : List (Addr × Obj)}
theorem rows_at2 : True := by
  k_with "call ref" => ((k_here; (with_reducible show wpAny _ _ (call (Value.ref 31) [_, _]) _ _ _); k_dflt (refine' exc_made ?k1 ?k2 ?k3 ?k4 ?k5 ?k6 ?k7 ?k8 ?_; (case k1 => k_asm); (case k2 => k_asm); (case k3 => k_asm); (case k4 => k_asm); (case k5 => k_asm); (case k6 => rfl); (case k7 => ktr_room); (case k8 => ktr_units); k_whole; intro e'z dd'z od'z ta'z h'z tk'z F'z N'z hO'z hne'z hdd'z; (try k_sweep))))
  trivial
theorem bad_made {msg : PySem.Str} {tk0 : Tok}
    (B : Below A₀ base outer h₀) (F : Fr h₀ L s.heap m) (X : (heapK w.params).In h₀) (N : News h₀ L s.heap news) (T : Top viewQ LO mean mg mb h₀) (hk : cs.kind = .function)
    (hdp : dp + 3 < recursionLimit) (hun : un + 24 < cLine)
    (hret : ∀ e news' h' tk', Fr h₀ L h' m → News h₀ L h' news' → (∀ p ∈ news, p ∈ news') → Exq news' e msg → Q (.ref e) { s with heap := h', toks := tk' }) :
    wpAny (model PR w) (ktrTop dp un gd cn cs L a ccd cl outer) (call (.ref 70) [.str msg tk0]) Q E s := by
  refine wpAny_call ?_
  (k_dflt cell_enter)
  k_steps
  exact hret _ _ _ _ (by assumption) (by assumption) (fun p hp => .tail _ (.tail _ (.tail _ hp))) ⟨_, _, _, _, _, _, _, .head _, .tail _ (.head _), .tail _ (.tail _ (.head _)), by assumption, by assumption, hx3 (by assumption), hx4 (by assumption)⟩
end
end
section
noncomputable abbrev Led := List (Addr × Obj)
/-- two addresses are apart -/
noncomputable def Ap (a b : Addr) : Prop := a ≠ b
theorem Ap.ne {a b : Addr} (h : Ap a b) : a ≠ b := h
theorem Ap.swap {a b : Addr} (h : Ap a b) : b ≠ a := fun e => h e.symm
/-- an address that a ledger does not bear -/
noncomputable def Off (rest : Led) (a : Addr) : Prop := ∀ p ∈ rest, p.1 ≠ a
theorem Off.all {rest : Led} {a : Addr} (h : Off rest a) : ∀ p ∈ rest, p.1 ≠ a := h
theorem allLt_all {d : Addr} : ∀ {l : Led}, AllLt d l → ∀ p ∈ l, p.1 < d
  | [], _, _, hp => nomatch hp
  | q :: r, h, p, hp => by
    rcases List.mem_cons.mp hp with rfl | hp
    · exact h.1
    · exact allLt_all h.2 p hp
theorem off_lt {rest : Led} {a : Addr} (h : AllLt a rest) : ∀ p ∈ rest, p.1 ≠ a := fun p hp => Nat.ne_of_lt (allLt_all h p hp)
theorem off_lt2 {rest : Led} {a b : Addr} (h : AllLt a rest) (k : a ≤ b) : ∀ p ∈ rest, p.1 ≠ b := fun p hp => Nat.ne_of_lt (Nat.lt_of_lt_of_le (allLt_all h p hp) k)
theorem allLt_up {a b : Addr} {rest : Led} (h : AllLt a rest) (k : a ≤ b) : AllLt b rest := allLt_of fun p hp => Nat.lt_of_lt_of_le (allLt_all h p hp) k

/-- every entry of the one is an entry of the other -/
noncomputable def InAll (r big : Led) : Prop := ∀ q ∈ r, q ∈ big
theorem InAll.nil {big : Led} : InAll [] big := fun _ h => nomatch h
theorem InAll.cons {q : Addr × Obj} {r big : Led} (m : q ∈ big) (x : InAll r big) : InAll (q :: r) big := fun p hp => by
  rcases List.mem_cons.mp hp with rfl | hp
  · exact m
  · exact x p hp
theorem InAll.skip {q : Addr × Obj} {r big : Led} (x : InAll r big) : InAll r (q :: big) := fun p hp => .tail _ (x p hp)
theorem InAll.refl (r : Led) : InAll r r := fun _ h => h
theorem InAll.two {q1 q2 : Addr × Obj} {big : Led} (m1 : q1 ∈ big) (m2 : q2 ∈ big) : InAll [q1, q2] big := .cons m1 (.cons m2 .nil)
theorem InAll.seven {q1 q2 q3 q4 q5 q6 q7 : Addr × Obj} {r big : Led} (m1 : q1 ∈ big) (m2 : q2 ∈ big) (m3 : q3 ∈ big) (m4 : q4 ∈ big) (m5 : q5 ∈ big) (m6 : q6 ∈ big) (m7 : q7 ∈ big) (x : InAll r big) : InAll (q1 :: q2 :: q3 :: q4 :: q5 :: q6 :: q7 :: r) big :=
  .cons m1 (.cons m2 (.cons m3 (.cons m4 (.cons m5 (.cons m6 (.cons m7 x))))))
theorem InAll.news {h₀ h : Heap} {L : Addr} {r big : Led} (x : InAll r big) (N : News h₀ L h big) : News h₀ L h r := fun p hp => N p (x p hp)

/-- the contract of a def of the text: what it needs of the ledger, what it hands back, what it raises -/
noncomputable def Ctr (w : World) (mean : ExcName → Option Value) (mg mb : PySem.Str → Option Value) (fn : Addr) (args : List Value) (news : Led) (nd nu : Nat) (G : Heap → Prop) (R : Value → Led → Prop) (Er : PySem.Str → Prop) : Prop :=
  ∀ (dp un : Nat) (gd : Option (List Code)) (cn : PySem.Str) (cs : Scope) (a : Addr) (ccd : Value) (cl : List (PySem.Str × Addr)) (outer : List Env) (A₀ : Around) (base h₀ : Heap) (L : Addr) (m : PySem.Str → Option Value) (s : Shared) (Q E : Value → Shared → Prop),
    Below A₀ base outer h₀ → Fr h₀ L s.heap m → (heapK w.params).In h₀ → News h₀ L s.heap news → Top viewQ LO mean mg mb h₀ → cs.kind = .function → dp + nd < recursionLimit → un + nu < cLine → G h₀ →
    (∀ v h' tk' led', Fr h₀ L h' m → News h₀ L h' led' → R v led' → Q v { s with heap := h', toks := tk' }) →
    (∀ e msg g h' tk', Er msg → Fr h₀ L g m → Rz base g (envX cn cs L a ccd cl :: outer) e msg h' → E (.ref e) { s with heap := h', toks := tk' }) →
    wpAny (model PR w) (ktrTop dp un gd cn cs L a ccd cl outer) (call (.ref fn) args) Q E s

section
variable {w : World} {mean : ExcName → Option Value} {mg mb : PySem.Str → Option Value} {fn : Addr} {args : List Value} {news big : Led} {nd nu : Nat} {G : Heap → Prop} {R : Value → Led → Prop} {Er : PySem.Str → Prop}
theorem Ctr.use {dp un : Nat} {gd : Option (List Code)} {cn : PySem.Str} {cs : Scope} {a : Addr} {ccd : Value} {cl : List (PySem.Str × Addr)} {outer : List Env} {A₀ : Around} {base h₀ : Heap} {L : Addr} {m : PySem.Str → Option Value} {s : Shared} {Q E : Value → Shared → Prop}
    (C : Ctr w mean mg mb fn args news nd nu G R Er)
    (B : Below A₀ base outer h₀) (F : Fr h₀ L s.heap m) (X : (heapK w.params).In h₀) (N : News h₀ L s.heap big) (I : InAll news big) (T : Top viewQ LO mean mg mb h₀) (hk : cs.kind = .function) (hd : dp + nd < recursionLimit) (hu : un + nu < cLine) (hG : G h₀)
    (ret : ∀ v h' tk' led', Fr h₀ L h' m → News h₀ L h' led' → R v led' → Q v { s with heap := h', toks := tk' })
    (err : ∀ e msg g h' tk', Er msg → Fr h₀ L g m → Rz base g (envX cn cs L a ccd cl :: outer) e msg h' → E (.ref e) { s with heap := h', toks := tk' }) :
    wpAny (model PR w) (ktrTop dp un gd cn cs L a ccd cl outer) (call (.ref fn) args) Q E s :=
  C dp un gd cn cs a ccd cl outer A₀ base h₀ L m s Q E B F X (I.news N) T hk hd hu hG ret err
theorem Ctr.mono {R' : Value → Led → Prop} {Er' : PySem.Str → Prop} (C : Ctr w mean mg mb fn args news nd nu G R Er) (hR : ∀ v l, R v l → R' v l) (hE : ∀ x, Er x → Er' x) : Ctr w mean mg mb fn args news nd nu G R' Er' :=
  fun dp un gd cn cs a ccd cl outer A₀ base h₀ L m s Q E B F X N T hk hd hu hG ret err => C dp un gd cn cs a ccd cl outer A₀ base h₀ L m s Q E B F X N T hk hd hu hG (fun v h' tk' led' F' N' r => ret v h' tk' led' F' N' (hR v led' r)) fun e msg g h' tk' x F' R' => err e msg g h' tk' (hE msg x) F' R'
end

theorem kl_last_app : ∀ (p : List Value) (y : Value), kl_last (p ++ [y]) = some (p, y)
  | [], _ => rfl
  | x :: p, y => by
    show (match kl_last (p ++ [y]) with | some (p, y) => some (x :: p, y) | none => some ([], x)) = _
    rw [kl_last_app p y]
theorem last_item {prog : Program} {w : World} {A : Around} {E : Value → Shared → Prop} {s : Shared} {value slice : PySem.Expr} {l : Addr} {vs : List Value} {x : Value} {u : Tok} {Q : Value → Shared → Prop}
    (hl : s.heap.IsList l (vs ++ [x]).toArray) (hz : vs.length ≤ 1000) (h : Q x s)
    (hs : subscripted slice false (.ref l) (.int (-1) u) = operate [.ref l, .int (-1) u] (getItem (.ref l) (.int (-1) u))) :
    wpAny (model prog w) A (subscriptTail value slice (.ref l) (.int (-1) u)) Q E s := by
  refine tail_any hl.typeIs PySem.F.slot_list_getitem.lookup (wpAny_getItem_list_neg hl (by decide) ?_ (by decide) ?_ h) hs
  · rw [List.size_toArray, List.length_append]; simp; omega
  · rw [List.size_toArray, List.length_append]
    have : (-1 + ((vs.length + [x].length : Nat) : Int)).toNat = vs.length := by simp; omega
    rw [this]; simp
theorem pop_end {prog : Program} {w : World} {A : Around} {E : Value → Shared → Prop} {s : Shared} {h₀ : Heap} {L D : Addr} {m : PySem.Str → Option Value} {news news' : Led} {p : List Value} {y : Value} {n : Nat} {Q : Value → Shared → Prop}
    (F : Fr h₀ L s.heap m) (N : News h₀ L s.heap news) (U : Upd D (lst (p ++ [y]) n) (lst p (n + 1)) news news') (hz : p.length ≤ 2000) (h : ∀ h', Fr h₀ L h' m → News h₀ L h' news' → Q y { s with heap := h' }) :
    wpAny (model prog w) A (call (.builtin "list.pop") [.ref D]) Q E s :=
  kl_pop F N (p := p) (by rw [List.toList_toArray]; exact kl_last_app p y) U (by simp only [List.toList_toArray, List.length_append, List.length_cons, List.length_nil, PySem.sizeLine_eq]; omega) h
theorem strq {x y : PySem.Str} {t : Tok} (h : x = y) : Value.str x t = Value.str y t := by rw [h]
theorem len_led {prog : Program} {w : World} {A : Around} {E : Value → Shared → Prop} {s : Shared} {l : Addr} {vs : List Value} {Q : Value → Shared → Prop} (hl : s.heap.IsList l vs.toArray) (hz : vs.length ≤ 2000) (h : ∀ t t', Q (.int vs.length t) { s with toks := t' }) :
    wpAny (model prog w) A (call (.builtin "len") [.ref l]) Q E s :=
  len_list hl (by rw [List.size_toArray]; omega) (by rw [List.size_toArray]; exact h _ _)
theorem eq_empty {prog : Program} {w : World} {A : Around} {E : Value → Shared → Prop} {s : Shared} {l b : Addr} {vs : List Value} {Q : Value → Shared → Prop} (hl : s.heap.IsList l vs.toArray) (hb : s.heap.IsList b (List.toArray [])) (hu : A.units < cLine) (h : Q (.bool vs.isEmpty) s) :
    wpAny (model prog w) A (compareOp .Eq (.ref l) (.ref b)) Q E s := by
  cases vs with
  | nil => exact PySem.SeqAt.eq_listAt (e := fun _ => true) hl hb rfl hu (fun j h1 h2 => absurd h1 (by simp)) h
  | cons x r => exact PySem.SeqAt.eq_list_lengthsAt hl hb (by simp) hu h
theorem tuple_led {prog : Program} {w : World} {A : Around} {E : Value → Shared → Prop} {s : Shared} {h₀ : Heap} {L l : Addr} {m : PySem.Str → Option Value} {news : Led} {vs : List Value} {Q : Value → Shared → Prop} (F : Fr h₀ L s.heap m) (N : News h₀ L s.heap news) (hl : s.heap.IsList l vs.toArray) (hz : vs.length ≤ 4000)
    (h : ∀ D h', Fr h₀ L h' m → News h₀ L h' news → Q (.ref D) { s with heap := h' }) : wpAny (model prog w) A (call (.type "tuple") [.ref l]) Q E s :=
  kde_tupleOf (zs := vs) F N hl (by rw [List.size_toArray]; omega) (by simp) fun D h' F' N' _ => h D h' F' fun p hp => N' p (.tail _ hp)
theorem add_led {prog : Program} {w : World} {A : Around} {E : Value → Shared → Prop} {s : Shared} {h₀ : Heap} {L l b : Addr} {m : PySem.Str → Option Value} {news : Led} {vs ws : List Value} {Q : Value → Shared → Prop} (F : Fr h₀ L s.heap m) (N : News h₀ L s.heap news) (hl : s.heap.IsList l vs.toArray) (hb : s.heap.IsList b ws.toArray) (hz : vs.length + ws.length ≤ 4000)
    (h : ∀ D h', Fr h₀ L h' m → News h₀ L h' ((D, lst (vs ++ ws) 0) :: news) → (∀ p ∈ news, p.1 < D) → Q (.ref D) { s with heap := h' }) : wpAny (model prog w) A (binaryOp .Add (.ref l) (.ref b)) Q E s := by
  refine add_arrays F N hl hb (fun h' F' N' => h _ h' F' ?_ fun p hp => Heap.lt_size (N p hp).1) ?_
  · simpa using N'
  · rw [List.size_toArray, List.size_toArray, PySem.sizeLine_eq]; omega
theorem first_item {prog : Program} {w : World} {A : Around} {E : Value → Shared → Prop} {s : Shared} {value slice : PySem.Expr} {l : Addr} {vs : List Value} {u : Tok} {Q : Value → Shared → Prop}
    (hl : s.heap.IsList l vs.toArray) (hz : (vs.length : Int) = 1) (h : ∀ x, Q x s)
    (hs : subscripted slice false (.ref l) (.int 0 u) = operate [.ref l, .int 0 u] (getItem (.ref l) (.int 0 u))) :
    wpAny (model prog w) A (subscriptTail value slice (.ref l) (.int 0 u)) Q E s := by
  rcases vs with _ | ⟨x, r⟩
  · simp at hz
  · exact tail_any hl.typeIs PySem.F.slot_list_getitem.lookup (wpAny_getItem_list hl (by decide) (by decide) (x := x) (by simp) (h x)) hs
theorem append_led {prog : Program} {w : World} {A : Around} {E : Value → Shared → Prop} {s : Shared} {h₀ : Heap} {L l : Addr} {m : PySem.Str → Option Value} {news news' : Led} {vs : List Value} {n : Nat} {v : Value} {Q : Value → Shared → Prop} (F : Fr h₀ L s.heap m) (N : News h₀ L s.heap news) (U : Upd l (lst vs n) (lst (vs ++ [v]) (n + 1)) news news') (hz : vs.length ≤ 4000)
    (h : ∀ h', Fr h₀ L h' m → News h₀ L h' news' → Q .none { s with heap := h' }) : wpAny (model prog w) A (call (.builtin "list.append") [.ref l, v]) Q E s :=
  append_K F N (its := vs.toArray) (by rw [List.push_toArray]; exact U) h (by rw [List.size_toArray, PySem.sizeLine_eq]; omega)
section
variable {w : World} {mean : ExcName → Option Value} {mg mb : PySem.Str → Option Value} {fn : Addr} {args : List Value} {news big : Led} {nd nu : Nat} {G : Heap → Prop} {msg : PySem.Str}
theorem Ctr.useE {dp un : Nat} {gd : Option (List Code)} {cn : PySem.Str} {cs : Scope} {a : Addr} {ccd : Value} {cl : List (PySem.Str × Addr)} {outer : List Env} {A₀ : Around} {base h₀ : Heap} {L : Addr} {m : PySem.Str → Option Value} {s : Shared} {Q E : Value → Shared → Prop}
    (C : Ctr w mean mg mb fn args news nd nu G (fun _ _ => False) (fun x => x = msg))
    (B : Below A₀ base outer h₀) (F : Fr h₀ L s.heap m) (X : (heapK w.params).In h₀) (N : News h₀ L s.heap big) (I : InAll news big) (T : Top viewQ LO mean mg mb h₀) (hk : cs.kind = .function) (hd : dp + nd < recursionLimit) (hu : un + nu < cLine) (hG : G h₀)
    (err : ∀ e g h' tk', Fr h₀ L g m → Rz base g (envX cn cs L a ccd cl :: outer) e msg h' → E (.ref e) { s with heap := h', toks := tk' }) :
    wpAny (model PR w) (ktrTop dp un gd cn cs L a ccd cl outer) (call (.ref fn) args) Q E s :=
  C.use B F X N I T hk hd hu hG (fun _ _ _ _ _ _ q => q.elim) fun e _ g h' tk' q F' R' => err e g h' tk' F' (q ▸ R')
end
theorem ntt {b : Bool} (h : b = false) : ¬ b = true := by rw [h]; exact Bool.false_ne_true
theorem sub_news {h₀ h : Heap} {L : Addr} {r big : Led} (N : News h₀ L h big) (x : InAll r big) : News h₀ L h r := x.news N
theorem off_ne {l : Led} {a b : Addr} {o : Obj} (h : Off l a) (m : (b, o) ∈ l) : b ≠ a := h _ m
theorem off_sub {l big : Led} {a : Addr} (h : Off big a) (i : InAll l big) : Off l a := fun q hq => h q (i q hq)
end
section
/-- what is to come behind a statement, under a name of its own: it keeps the walk's terms small -/
noncomputable def KQ (Q : Flow → Shared → Prop) : Flow → Shared → Prop := Q
structure KSpec (M : Model) (A : Around) (E : Value → Shared → Prop) (rest : List Stmt) (env : Env) (Q Q' : Flow → Shared → Prop) : Prop where
  nx : ∀ s, wpAny M A (execs rest env) Q E s → Q' .next s
  rt : ∀ v s, Q (.ret v) s → Q' (.ret v) s
  bk : ∀ s, Q .brk s → Q' .brk s
  ct : ∀ s, Q .cont s → Q' .cont s
theorem execs_cons_Q {M : Model} {A : Around} {E : Value → Shared → Prop} {s : Shared} {st : Stmt} {rest : List Stmt} {env : Env} {Q : Flow → Shared → Prop}
    (h : ∀ Q', KSpec M A E rest env Q Q' → wpAny M A (exec st env) (KQ Q') E s) : wpAny M A (execs (st :: rest) env) Q E s :=
  wpAny_execs_cons (h _ ⟨fun _ x => x, fun _ _ x => x, fun _ x => x, fun _ x => x⟩)
theorem kq_next {M : Model} {A : Around} {E : Value → Shared → Prop} {s : Shared} {rest : List Stmt} {env : Env} {Q Q' : Flow → Shared → Prop} (k : KSpec M A E rest env Q Q')
    (h : wpAny M A (execs rest env) Q E s) : KQ Q' .next s := k.nx s h
theorem kq_ret {M : Model} {A : Around} {E : Value → Shared → Prop} {s : Shared} {rest : List Stmt} {env : Env} {Q Q' : Flow → Shared → Prop} {v : Value} (k : KSpec M A E rest env Q Q')
    (h : Q (.ret v) s) : KQ Q' (.ret v) s := k.rt v s h
theorem kq_brk {M : Model} {A : Around} {E : Value → Shared → Prop} {s : Shared} {rest : List Stmt} {env : Env} {Q Q' : Flow → Shared → Prop} (k : KSpec M A E rest env Q Q')
    (h : Q .brk s) : KQ Q' .brk s := k.bk s h
theorem kq_cont {M : Model} {A : Around} {E : Value → Shared → Prop} {s : Shared} {rest : List Stmt} {env : Env} {Q Q' : Flow → Shared → Prop} (k : KSpec M A E rest env Q Q')
    (h : Q .cont s) : KQ Q' .cont s := k.ct s h
theorem wp_gen {M : Model} {A : Around} {α : Type} {t : Sem α} {Q : α → Shared → Prop} {E : Value → Shared → Prop} {s : Shared} (h : ∀ Q', Q = Q' → wpAny M A t Q' E s) : wpAny M A t Q E s := h Q rfl
theorem wp_gen2 {M : Model} {A : Around} {α : Type} {t : Sem α} {body : List Stmt} {env : Env} {Q : Flow → Shared → Prop} {E : Value → Shared → Prop} {s : Shared} (h : ∀ Q', Q = Q' → wpAny M A t (fun _ s₂ => wpAny M A (execs body env) Q' E s₂) E s) :
    wpAny M A t (fun _ s₂ => wpAny M A (execs body env) Q E s₂) E s := h Q rfl
/-- the walk's rules for a state that is written out: the state that comes is written out too -/
theorem const_int_mk {M : Model} {A : Around} {E Q : Value → Shared → Prop} {h : Heap} {g : Array GenState} {d : Drawn} {t : Tok} {o : OsState} {i : Int} {k : Nat} {pos : Pos} {env : Env}
    (q : Q (.int i t) ⟨h, g, d, t + 1, o⟩) : wpAny M A (eval (.Constant (.int i) k pos) env) Q E ⟨h, g, d, t, o⟩ := wpAny_Constant_int q
theorem const_str_mk {M : Model} {A : Around} {E Q : Value → Shared → Prop} {h : Heap} {g : Array GenState} {d : Drawn} {t : Tok} {o : OsState} {x : PySem.Str} {k : Nat} {pos : Pos} {env : Env}
    (q : Q (.str x t) ⟨h, g, d, t + 1, o⟩) : wpAny M A (eval (.Constant (.str x) k pos) env) Q E ⟨h, g, d, t, o⟩ := Calls.Constant_str q
theorem add_int_mk {prog : Program} {w : World} {A : Around} {E Q : Value → Shared → Prop} {h : Heap} {g : Array GenState} {d : Drawn} {t u v : Tok} {o : OsState} {a b : Int}
    (q : Q (.int (a + b) t) ⟨h, g, d, t + 1, o⟩) : wpAny (model prog w) A (binaryOp .Add (.int a u) (.int b v)) Q E ⟨h, g, d, t, o⟩ := add_int q
theorem sub_int_mk {prog : Program} {w : World} {A : Around} {E Q : Value → Shared → Prop} {h : Heap} {g : Array GenState} {d : Drawn} {t u v : Tok} {o : OsState} {a b : Int}
    (q : Q (.int (a - b) t) ⟨h, g, d, t + 1, o⟩) : wpAny (model prog w) A (binaryOp .Sub (.int a u) (.int b v)) Q E ⟨h, g, d, t, o⟩ := sub_int q
end
section
theorem k30g (P : Params) : ∃ es ep, (heapK P).lookup 30 = some { cls := .type "dict", data := .dict es ep } ∧ StrKeys es ∧ nsFind es (sS "__getattr__") = none ∧ nsFind es (sS "symbol") = none ∧ nsFind es (sS "data") = none ∧ nsFind es (sS "__getattribute__") = none := by
  refine ⟨_, _, by k_is, ?_, by rfl, by rfl, by rfl, by rfl⟩
  intro e he
  simp at he
  rcases he with rfl | rfl | rfl | rfl | rfl | rfl <;> exact ⟨_, _, rfl⟩
section
variable {w : World} {A : Around} {E : Value → Shared → Prop} {h : Heap} {g : Array GenState} {d : Drawn} {t : Nat} {os : OsState}
theorem exc_check {C N : Addr} {nm q : PySem.Str} {bs bm : List Value} {hdct : Bool} {sn : List PySem.Str} {sub : List Value} {ab : Bool} {col : Option Bool} {dd : Option Addr} {k0 k1 k2 k3 k5 : Option Value} {newId : String} {e : Addr} {o : Obj} {M : Model} {nameV : Value} {Q : Unit → Shared → Prop}
    (hC : h.get? C = some (excClassObj nm q C N bs bm hdct sn sub ab col dd k0 k1 k2 k3 k5 newId)) (hb : bm.contains (.type "BaseException") = true)
    (hx : h.get? e = some o) (hc : o.cls = .ref C) (hq : Q () ⟨h, g, d, t, os⟩) : wpAny M A (checkBuiltinCall "BaseException.__getattribute__" ⟨[.ref e, nameV], []⟩) Q E ⟨h, g, d, t, os⟩ := by
  have hk : builtinKind "BaseException.__getattribute__" = some .slot := by decide +kernel
  have hsplit : splitId "BaseException.__getattribute__" = some ("BaseException", "__getattribute__") := by decide +kernel
  have hcB : (Value.ref C :: bm).contains (.type "BaseException") = true := by rw [List.contains_cons, hb, Bool.or_true]
  have ha := PySem.F.args_bexc_ga (.ref e) nameV
  simp only [checkBuiltinCall, hk, hsplit]
  refine wpAny_bind ?_
  · unfold isInstance
    repeat (first | (with_reducible refine wpAny_loadPart_at hx ?_; rw [hc]) | (with_reducible refine wpAny_isSubtype_exc hC ?_; rw [hcB]) | wp_step)
    exact hq
theorem exc_get0 {C N : Addr} {nm q : PySem.Str} {bs : List Value} {sn : List PySem.Str} {sub : List Value} {ab : Bool} {col : Option Bool} {ddd : Option Addr} {k0 k1 k2 k3 k5 : Option Value} {newId : String} {mN mA : PySem.Str → Option Value} {e dd : Addr} {o od : Obj} {name : PySem.Str} {v : Value} {expr : Bool} {vs : Array Value} {Q : Value → Shared → Prop}
    (hC : h.get? C = some (excClassObj nm q C N bs [.type "Exception", .type "BaseException", .type "object"] true sn sub ab col ddd k0 k1 k2 k3 k5 newId)) (hn : h.Ns N mN) (h1 : mN (sS "__getattribute__") = none) (h2 : mN (sS "__getattr__") = none) (hna : mN name = none) (hB : typeLookup (.type "Exception") name = pure none)
    (hx : h.get? e = some o) (hc : o.cls = .ref C) (hd : o.data = .fields vs) (hdd : o.dict = some dd) (hod : h.get? dd = some od) (hO : ObNs od mA) (hv : mA name = some v) (hh : handedOut v = pure v) (hq : Q v ⟨h, g, d, t + 1, os⟩) :
    wpAny (model PR w) A (getAttr (.ref e) name expr) Q E ⟨h, g, d, t, os⟩ := by
  have FB := PySem.F.attrBase_Exception
  have f3 := FB.ga.bind (.ref e)
  have hx0 : (expr && onTheHeap (Value.builtin "BaseException.__getattribute__")) = false := by cases expr <;> rfl
  have hx2 : (Value.builtin "BaseException.__getattribute__" == Value.builtin "object.__getattribute__") = false := by decide +kernel
  have hx1 : (onTheHeap (Value.ref C) && Value.builtin "BaseException.__getattribute__" == Value.builtin "object.__getattribute__") = false := by rw [hx2]; rfl
  have hns : h.Ns dd mA := by obtain ⟨es, ep, q1, q2, _, q3⟩ := hO; exact ⟨_, es, ep, hod, q1, q2, q3⟩
  unfold getAttr getAttrBy
  repeat (any_goals (first | assumption | (with_reducible refine wpAny_loadPart_at hx ?_; rw [hc]) | (with_reducible refine wpAny_typeLookup_exc hC hn FB.mro FB.ga.lookup ?_; rw [h1]) | (with_reducible refine wpAny_typeLookup_exc hC hn FB.mro FB.noGetattr ?_; rw [h2]) | wp_step))
  refine codeAny_call_builtin FB.ga.plain PySem.F.entry_bexc_ga (exc_check hC (by decide) hx hc ?_)
  unfold Builtin.«object.__getattribute__»
  repeat (any_goals (first | assumption | (with_reducible refine wpAny_loadPart_at hx ?_; rw [hc]) | (with_reducible refine wpAny_typeLookup_exc hC hn FB.mro hB ?_; rw [hna]) | wp_step))
  split
  · rename_i c q; rw [hd] at q; cases q
  unfold instanceDict
  repeat (first | (with_reducible refine wpAny_loadPart_at hx ?_; rw [hc]) | with_reducible refine wpAny_loadPart_at hC ?_ | wp_step)
  rw [hdd]
  repeat (any_goals (first | assumption | (with_reducible refine wpAny_nsGet hns ?_; rw [hv]) | wp_step))
end
section
variable {prog : Program} {A₀ A : Around} {s : Shared} {base h₀ : Heap} {L : Addr} {m : PySem.Str → Option Value} {env : Env} {K : Frag} {p : Program} {loose : List PySem.Str} {mean : ExcName → Option Value} {mg mb : PySem.Str → Option Value} {news : Led}
  {R : Result → Shared → Prop} {name qual : PySem.Str} {params : Arguments} {body : List Stmt} {scope : Scope} {dV kV doc pm cdv ct oc : Value} {an od : Option Addr} {osl : Array (Option Value)} {f : Addr} {args : Args} {binds : List (PySem.Str × Value)} {w : World}
/-- a def is entered in which an exception may be caught: the base may be turned when it is left -/
theorem code_defT (B : Below A₀ base [] h₀) (F : Fr h₀ L s.heap m) (X₀ : K.In h₀) (N : News h₀ L s.heap news) (T : Top p loose mean mg mb h₀) (hA : A.frames = some [env]) (hf : env.frame = some L) (hke : env.scope.kind = .function)
    (ho : K.lookup f = some ⟨oc, od, .func (fnOf name qual params body scope dV kV doc pm an cdv ct), osl⟩) (hcd : codeIn K cdv qual = true) (hroom : A.depth < recursionLimit)
    (hbind : BindsTo s (fnOf name qual params body scope dV kV doc pm an cdv ct) args binds) (hloc : ∀ y ∈ binds, scope.names.lookup y.1 = some .local)
    (h : ∀ g L' h₁, Fr g L' h₁ (fun y => binds.reverse.lookup y) → News g L' h₁ [] → Below A base [env] g → K.In g → Top p loose mean mg mb g → (∀ g', KtsTurn ([env].filterMap (·.frame)) g g' → h₀.StaysIn g') →
      wpAny (model prog w) (A.deeper (envOf qual scope L' f cdv)) (execs body (envOf qual scope L' f cdv))
        (fun fl s' => LeaveS0 ([env].filterMap (·.frame)) h₀ L m g (fun r s' => News h₀ L s'.heap news → R r s') (match fl with | .ret v => v | _ => .none) s')
        (fun e s' => wpAny (model prog w) (A.deeper (envOf qual scope L' f cdv)) (leaving (envOf qual scope L' f cdv) e) (fun _ s'' => R (.error e) s'') (fun e' s'' => R (.error e') s'') s')
        { s with heap := h₁, toks := s.toks + binds.length })
    (hcell : ∀ x ∈ scope.names, x.2 ≠ .cell) (hco : scope.isCoroutine = false) (hgen : scope.isGenerator = false) (hk : scope.kind = .function) : codeAny (model prog w) A (.call (.ref f) args) R s := by
  obtain ⟨FG, BG, st, lv⟩ := groundX (R := R) B F (News.nil (h₀ := h₀) (L := L) (h := s.heap)) hA hf hke
  have X := X₀.keeps F.keep
  have nL₀ : h₀.get? L = none := kts_self F
  have hfs : ∀ b, b ∈ [env].filterMap (·.frame) → b = L := fun b hb => by
    simp only [List.filterMap_cons, hf, List.filterMap_nil, List.mem_singleton] at hb
    exact hb
  have hst : ∀ g', KtsTurn ([env].filterMap (·.frame)) s.heap g' → h₀.StaysIn g' := fun g' T' b o e => T'.other b o (F.keep b o e) fun q => by
    rw [hfs b q, nL₀] at e; cases e
  refine codeAny_call_def (fd := fnOf name qual params body scope dV kV doc pm an cdv ct) (body := body) (binds := binds) hroom (X _ _ ho) rfl (T.nolimit.keeps F.keep) (codeRec_of X hcd) rfl hbind hcell hloc (fun h₁ hns hk₁ => ?_) hco hgen hk
  refine wpAny_mono (h s.heap s.heap.objs.size h₁ ⟨hns, fun b o e => hk₁ b o e, Nat.le_refl _⟩ News.nil BG (X₀.keeps st) (T.keeps st) hst) (fun fl s' hl => ?_) fun _ _ y => y
  obtain ⟨g', L', m', news', T', F', N', k⟩ := hl
  obtain ⟨oL, es, ep, hL, hLd, hLk, hLf⟩ := F.ns
  obtain ⟨sl, hs⟩ := T'.up hL
  refine k ⟨⟨_, es, ep, F'.keep _ _ hs, hLd, hLk, hLf⟩, fun b o e => F'.keep b o (hst g' T' b o e), F.above⟩ (fun p hp => ⟨(N' p hp).1, fun q => ?_, ?_⟩) fun p hp => ⟨F'.keep _ _ (T'.other _ _ (N p hp).1 fun q => (N p hp).2.1 (hfs _ q)), (N p hp).2⟩
  · have := (N' p hp).2.2; rw [q, hs] at this; cases this
  · cases q : h₀.get? p.1 with
    | none => rfl
    | some o =>
      have := (N' p hp).2.2
      rw [hst g' T' _ _ q] at this
      cases this
end
section
variable {prog : Program} {w : World} {A₀ : Around} {E : Value → Shared → Prop} {s' : Shared} {base base0 g h₀ G : Heap} {outer : List Env} {L a e : Addr} {m : PySem.Str → Option Value} {name : PySem.Str} {scope : Scope} {cd : Value}
  {n : PySem.Str} {b₀ : Stmt} {suite : List Stmt} {pos np : Pos} {rest : List ExceptHandler} {Q : Flow → Shared → Prop}
  {p : Program} {loose : List PySem.Str} {mean : ExcName → Option Value} {mg mb : PySem.Str → Option Value} {x : PySem.Str} {msg : PySem.Str} {PP : Params}
theorem caughtD (R : Rz base0 G (envOf name scope L a cd :: outer) e msg s'.heap) (F : Fr g L G m) (K : Below A₀ base outer g) (hst : ∀ g', KtsTurn (outer.filterMap (·.frame)) g g' → h₀.StaysIn g') (X : (heapK PP).In h₀) (T : Top p loose mean mg mb h₀)
    (ex : nsIn (heapK PP) mainGlobals x = some (some (.ref 31)))
    (k : ∀ h' g' tk oe dd od dl n1 tk1 tk2 vs, KtsTurn (outer.filterMap (·.frame)) g g' → Fr g' L h' (fun y => if y = n then some (.ref e) else m y) → News g' L h' [(e, oe), (dd, od), (dl, lst [.str msg tk1] n1)] → oe.cls = .ref 31 → oe.dict = some dd → oe.data = .fields vs →
        ObNs od (fun y => if y = sS "data" then some (.ref dl) else if y = sS "symbol" then some (.str (sS "invalid-regexp") tk2) else none) → Below A₀ base outer g' → (heapK PP).In g' → Top p loose mean mg mb g' →
      wpAny (model prog w) ((A₀.deeper (envOf name scope L a cd)).mark (some (.ref e))) (execs (b₀ :: suite) (envOf name scope L a cd))
        (fun f s₄ => wpAny (model prog w) (A₀.deeper (envOf name scope L a cd)) (do bindName (envOf name scope L a cd) n .none; unbindBehindTheSuite (envOf name scope L a cd) n pos) (fun _ s₅ => Q f s₅) E s₄)
        (AsSuiteRaised (model prog w) ((A₀.deeper (envOf name scope L a cd)).mark (some (.ref e))) (envOf name scope L a cd) n pos (notedBy (model prog w) ((A₀.deeper (envOf name scope L a cd)).mark (some (.ref e))) (envOf name scope L a cd) (cameBackBy (model prog w) (A₀.deeper (envOf name scope L a cd)) (envOf name scope L a cd) E)))
        { s' with heap := h', toks := tk })
    (hk : scope.kind = .function := by rfl) (hlo : (envOf name scope L a cd).kindOf n = some .local := by rfl) (hx : (envOf name scope L a cd).kindOf x = some .globalImplicit := by rfl) (hdb : (x == ("__debug__" : PySem.Str)) = false := by decide) :
    wpAny (model prog w) (A₀.deeper (envOf name scope L a cd)) (noteFrame (.ref e) (envOf name scope L a cd))
      (fun _ s₂ => wpAny (model prog w) (A₀.deeper (envOf name scope L a cd)) (setFlight (.ref e) none) (fun _ s₃ =>
        wpAny (model prog w) (A₀.deeper (envOf name scope L a cd)) (handleBy (.ref e) (envOf name scope L a cd) (.ExceptHandler (some (.Name x np)) (some n) (b₀ :: suite) pos :: rest)) Q E s₃) E s₂) E s' := by
  obtain ⟨⟨B, dd, od, dl, n1, tk1, tk2, a1, a0, a2, a3, a4, a5, a7, a8, a9, b1, b2, b3, b4⟩, U⟩ := R
  have hL : B.get? L = none := by
    obtain ⟨_, ⟨L', _, hf, hn', _⟩, _⟩ := a4
    obtain rfl : L = L' := Option.some.inj hf
    exact hn'
  refine noteD (Around.frames_deeper K.stack) a4 rfl a5 a2 a3 fun h₄ N₄ => ?_
  refine flightD (s := { s' with heap := h₄ }) N₄.1 N₄.2.1 N₄.2.2.1 fun h₅ N₅ => ?_
  have hsm₅ := U.trans (N₄.2.2.2.trans N₅.2.2.2)
  obtain ⟨g₅, T₅, F₅, K₅⟩ := kts_ground K F a0 N₅.1 hsm₅
  have X₅ : (heapK PP).In g₅ := X.keeps (hst _ T₅)
  have P₅ : TopRead p loose mg mb g₅ := topRead_of (T.keeps (hst _ T₅))
  obtain ⟨oe, vs, Tb, oT, ts, c1, c2, c3, c4, _⟩ := id N₅.2.2.1
  have hC₅ := F₅.keep _ _ (X₅ _ _ (k31 PP))
  refine wpAny_handleBy_cons (codeAny_handlers_test (name_K F₅ X₅ P₅ ex ?_ hk hx hdb)) (by intro q; cases q)
  refine wpAny_excMatches_sub_self hC₅ c1 c2 (by decide) (codeAny_handlers_suite_as ?_)
  refine flightD (s := { s' with heap := h₅ }) N₅.1 N₅.2.1 N₅.2.2.1 fun h₆ N₆ => ?_
  obtain ⟨g₆, T₆, F₆, K₆⟩ := kts_ground K F a0 N₆.1 (hsm₅.trans N₆.2.2.2)
  obtain ⟨oe, vs, Tb, oT, ts, c1, c2, c3, c4, _⟩ := N₆.2.2.1
  have X₆ : (heapK PP).In g₆ := X.keeps (hst _ T₆)
  have P₆ : Top p loose mean mg mb g₆ := T.keeps (hst _ T₆)
  have fresh {b : Addr} (q : G.get? b = none) : g₆.get? b = none := T₆.none_ _ (keep_none F.keep q)
  have eL : e ≠ L := fun q => by
    obtain ⟨oL, es, ep, hL6, hLd, _⟩ := F₆.ns
    rw [q, hL6] at c1; cases c1; rw [hLd] at c4; cases c4
  have N₆' : News g₆ L h₆ [(e, oe), (dd, od), (dl, lst [.str msg tk1] n1)] := fun q hq => by
    rcases List.mem_cons.mp hq with rfl | hq
    · exact ⟨c1, eL, fresh b1⟩
    rcases List.mem_cons.mp hq with rfl | hq
    · exact ⟨N₆.1 _ _ a7, (fun z => by have z : dd = L := z; rw [z, hL] at a7; cases a7), fresh b2⟩
    · rw [List.mem_singleton.mp hq]
      exact ⟨N₆.1 _ _ a9, (fun z => by have z : dl = L := z; rw [z, hL] at a9; cases a9), fresh b3⟩
  refine stN F₆ N₆' (fun h₇ F₇ N₇ => ?_) hk hlo
  exact k h₇ g₆ _ oe dd od dl n1 tk1 tk2 vs T₆ F₇ N₇ c2 c3 c4 a8 K₆ X₆ P₆
end
end
section
section
variable {prog : Program} {w : World} {A : Around} {E : Value → Shared → Prop} {s : Shared} {h₀ : Heap} {L : Addr} {m : PySem.Str → Option Value} {env : Env} {news : Led}
/-- a list made of a text's signs, one behind another -/
theorem ListComp_str {elt iter : PySem.Expr} {x : PySem.Str} {px : Pos} {scope : Scope} {cl : List (PySem.Str × Addr)} {pos : Pos} {Q : Value → Shared → Prop} {y : PySem.Str} {t : Tok} (F : Fr h₀ L s.heap m) (N : News h₀ L s.heap news)
    (hh : A.handled = none) (hclos : closureFor scope env = pure cl) (hcell : ∀ y ∈ scope.names, y.2 ≠ .cell) (hkind : scope.kind = .function)
    (hnames : ∀ y ∈ scope.names, y.2 = .local → scope.names.lookup y.1 = some .local) (hx : scope.names.lookup x = some .local) (hsz : y.cps.size ≤ sizeLine) (ha : y.cps.all (· < 128) = true)
    (h : wpAny (model prog w) A (eval iter env) (fun xv s₁ => xv = .str y t ∧ s₁ = s) E s)
    (R : ∀ g, LCg.CompRest prog w A h₀ L m env elt x scope cl { s with heap := g } (fun _ => True) (SignAt y) (LCg.FinE h₀ L m { s with heap := g } Q) y.cps.size 0 [] news)
    (hs : ∀ x, foldedSetIterable iter env x = pure x := by intro _; rfl) :
    wpAny (model prog w) A (eval (.ListComp elt [⟨.Name x px, iter, [], 0⟩] scope pos) env) Q E s := by
  rw [eval_ListComp]
  refine wpAny_comprehension_free (use := none) rfl hs hclos hkind hnames (wpAny_mono h (fun xv s₁ h₁ => ?_) fun _ _ e => e)
  obtain ⟨rfl, rfl⟩ := h₁
  refine wpAny_pyIter_ascii ha ?_
  refine LCg.block_U (Walks.strAscii hh s₁.heap.objs.size y t) hsz (fun i h st => by obtain ⟨o, e, _⟩ := st; exact ⟨o, e⟩)
    (fun i h h' o nw st e e' _ _ _ => by
      obtain ⟨o', q, r⟩ := st
      rw [e] at q
      cases q
      exact ⟨o, e', r⟩) hcell hkind hx ⟨_, Heap.get?_push_size _ rfl, rfl, rfl⟩ (fun b hb => ?_)
    (F.keeps fun _ _ e => Heap.get?_push_of_some _ e) (N.grown fun _ _ e => Heap.get?_push_of_some _ e) (Nat.ne_of_lt F.ns.lt) (next_is_new F) (fun p hp => Nat.ne_of_lt (Heap.lt_size (N p hp).1)) trivial (R _) ?_
  · rw [List.mem_singleton.mp hb]
    show s₁.heap.objs.size < (s₁.heap.push _).objs.size
    rw [Heap.size_push]; exact Nat.lt_succ_self _
  · intro D C h tk m' ys news' F' N' o1 hn hC₀ hD₀ hCL hDL hCD offC fin
    refine ⟨m', hn, fun h'' hs'' => fin D h'' tk (F'.change hs'' hCL hC₀) (fun p hp => ?_) o1⟩
    refine ⟨hs''.extBut _ _ ?_ (N' p hp).1, (N' p hp).2⟩
    rcases List.mem_cons.mp hp with rfl | hp
    · exact Ne.symm hCD
    · exact offC p hp
/-- its turns, by induction -/
theorem comp_ind {elt : PySem.Expr} {x : PySem.Str} {scope : Scope} {cl : List (PySem.Str × Addr)} {S : Led → Prop} {P : Nat → Value → Prop} {Fin : List Value → Led → Prop} {n : Nat} (Inv : Nat → List Value → Led → Prop)
    (turn : ∀ i ys nw v I oI C oC D m₂ h tk (E' : Value → Shared → Prop), i < n → P i v → Inv i ys nw → LCg.NsObj oC m₂ → m₂ x = some v → Fr h₀ L h m → News h₀ L h ((I, oI) :: (C, oC) :: (D, LCg.lst ys) :: nw) → LCg.Off3 I C D nw → ((@Ne Nat I C) ∧ (@Ne Nat I D) ∧ (@Ne Nat C D)) →
      wpAny (model prog w) A (eval elt (compEnvC scope cl C env)) (LCg.CompEnd h₀ L m { s with heap := h, toks := tk } I oI C oC D (LCg.lst ys) S (fun y nw' => Inv (i + 1) (ys ++ [y]) nw')) E' { s with heap := h, toks := tk })
    (fin : ∀ ys nw, Inv n ys nw → Fin ys nw) : ∀ (k i : Nat) (ys : List Value) (nw : Led), i + k = n → Inv i ys nw → LCg.CompRest prog w A h₀ L m env elt x scope cl s S P Fin k i ys nw
  | 0, i, ys, nw, e, hi => LCg.CompRest.zero (fin ys nw (by rw [← e]; exact hi))
  | k + 1, i, ys, nw, e, hi => by
    refine LCg.CompRest.succ ?_
    intro v I oI C oC D m₂ h tk E' hv hC hx F' N' off ne
    refine wpAny_mono (turn i ys nw v I oI C oC D m₂ h tk E' (by omega) hv hi hC hx F' N' off ne) (fun y s₂ hq => ?_) fun _ _ e => e
    obtain ⟨h', tk', nw', e', F'', N'', off', hS, hr⟩ := hq
    exact ⟨h', tk', nw', e', F'', N'', off', hS, comp_ind Inv turn fin k (i + 1) _ nw' (by omega) hr⟩
end
end
section
/-- how a turn of a loop ends -/
noncomputable def ForEnd (h₀ : Heap) (L I : Addr) (oI : Obj) (Jn : (PySem.Str → Option Value) → Led → Prop) (s₁ : Shared) (Q : Flow → Shared → Prop) (f : Flow) (s' : Shared) : Prop :=
  match f with
  | .ret v => Q (.ret v) s'
  | .brk => Q .next s'
  | _ => ∃ h' tk m' l', s' = { s₁ with heap := h', toks := tk } ∧ Fr h₀ L h' m' ∧ News h₀ L h' ((I, oI) :: l') ∧ (∀ p ∈ l', p.1 ≠ I) ∧ Jn m' l'
section
variable {prog : Program} {w : World} {A : Around} {E : Value → Shared → Prop} {s : Shared} {h₀ : Heap} {L : Addr} {m : PySem.Str → Option Value} {env : Env} {led : Led} {x : PySem.Str} {px pos : Pos} {iter : PySem.Expr} {body : List Stmt} {Q : Flow → Shared → Prop}
theorem for_walk {R : Result → Shared → Prop} {I : Addr} {fp : List Addr} {n : Nat} {P : Nat → Value → Prop} {St : Nat → Heap → Prop} {S : Led → Prop} (W : Walks prog w A I fp [I] n P St) (hIo : ∀ i h, St i h → ∃ o, h.get? I = some o)
    (hSt : ∀ i h h' o nw, St i h → h.get? I = some o → h'.get? I = some o → (∀ b o, h₀.get? b = some o → h'.get? b = some o) → News h₀ L h' nw → S nw → St i h')
    (hst : St 0 s.heap) (F : Fr h₀ L s.heap m) (N : News h₀ L s.heap led) (hIL : I ≠ L) (hI₀ : h₀.get? I = none) (off : ∀ p ∈ led, p.1 ≠ I) (hS : S led) (J : Nat → (PySem.Str → Option Value) → Led → Prop) (h0 : J 0 m led)
    (step : ∀ i v m₁ l₁ oI h₁ tk₁, i < n → P i v → J i m₁ l₁ → S l₁ → (∀ p ∈ l₁, p.1 ≠ I) → Fr h₀ L h₁ m₁ → News h₀ L h₁ ((I, oI) :: l₁) →
      wpAny (model prog w) A (assign (.Name x px) env v) (fun _ s₂ => wpAny (model prog w) A (execs body env) (ForEnd h₀ L I oI (fun m' l' => S l' ∧ J (i + 1) m' l') { s with heap := h₁, toks := tk₁ } fun f s' => R (.ok f) s') (notedBy (model prog w) A env fun e s' => R (.error e) s') s₂) (notedBy (model prog w) A env fun e s' => R (.error e) s') { s with heap := h₁, toks := tk₁ })
    (done : ∀ h' tk m' l', Fr h₀ L h' m' → News h₀ L h' l' → J n m' l' → R (.ok .next) { s with heap := h', toks := tk }) :
    codeAny (model prog w) A (.forLoop (.Name x px) (.ref I) body [] env) R s := by
  refine codeAny_forLoop
    (fun k s' => ∃ h' tk m' l' i, s' = { s with heap := h', toks := tk } ∧ St i h' ∧ Fr h₀ L h' m' ∧ News h₀ L h' l' ∧ (∀ p ∈ l', p.1 ≠ I) ∧ S l' ∧ J i m' l' ∧ i ≤ n ∧ k = n + 1 - i) ?_ (n + 1)
    ⟨s.heap, s.toks, m, led, 0, rfl, hst, F, N, off, hS, h0, Nat.zero_le _, rfl⟩
  rintro k s' ⟨h', tk, m', l', i, rfl, hst', F', N', off', hS', hJ, hi, rfl⟩
  have next : ∀ h₁ : Heap, (∀ b o, b ∉ [I] → h'.get? b = some o → h₁.get? b = some o) → Fr h₀ L h₁ m' ∧ News h₀ L h₁ l' := fun h₁ hk₁ =>
    ⟨⟨F'.ns.at' fun o e => hk₁ _ o (by simpa using hIL.symm) e, fun b o e => hk₁ b o (fun q => by rw [List.mem_singleton.mp q, hI₀] at e; cases e) (F'.keep b o e), F'.above⟩, fun p hp => ⟨hk₁ _ _ (by simpa using off' p hp) (N' p hp).1, (N' p hp).2⟩⟩
  by_cases hlt : i < n
  · refine W.item i _ _ _ hlt hst' fun v h₁ tk₁ hP hst₁ hk₁ => ?_
    obtain ⟨F₁, N₁⟩ := next h₁ hk₁
    obtain ⟨oI, hoI⟩ := hIo _ _ hst₁
    have N₂ : News h₀ L h₁ ((I, oI) :: l') := fun p hp => by
      rcases List.mem_cons.mp hp with rfl | hp
      · exact ⟨hoI, hIL, hI₀⟩
      · exact N₁ p hp
    refine wpAny_mono (step i v m' l' oI h₁ tk₁ hlt hP hJ hS' off' F₁ N₂) (fun _ s₂ h₂ => wpAny_mono h₂ (fun f s₃ h₃ => ?_) fun _ _ e => e) fun _ _ e => e
    cases f with
    | ret v => exact h₃
    | brk => exact h₃
    | cont =>
      obtain ⟨h₃', tk₃, m₂, l₂, rfl, F₃, N₃, o₃, s₃, j₃⟩ := h₃
      exact ⟨n + 1 - (i + 1), by omega, h₃', tk₃, m₂, l₂, i + 1, rfl, hSt _ _ _ oI l₂ hst₁ hoI (N₃ _ (.head _)).1 F₃.keep (fun p hp => N₃ p (.tail _ hp)) s₃, F₃, fun p hp => N₃ p (.tail _ hp), o₃, s₃, j₃, hlt, rfl⟩
    | next =>
      obtain ⟨h₃', tk₃, m₂, l₂, rfl, F₃, N₃, o₃, s₃, j₃⟩ := h₃
      exact ⟨n + 1 - (i + 1), by omega, h₃', tk₃, m₂, l₂, i + 1, rfl, hSt _ _ _ oI l₂ hst₁ hoI (N₃ _ (.head _)).1 F₃.keep (fun p hp => N₃ p (.tail _ hp)) s₃, F₃, fun p hp => N₃ p (.tail _ hp), o₃, s₃, j₃, hlt, rfl⟩
  · have hin : i = n := by omega
    subst hin
    refine W.done _ _ _ hst' fun h₁ tk₁ hk₁ => wpAny_execs_nil ?_
    obtain ⟨F₁, N₁⟩ := next h₁ hk₁
    exact done h₁ tk₁ m' l' F₁ N₁ hJ
/-- a loop over a list of the ledger -/
theorem for_list {ax : Addr} {its : List Value} {k : Nat} (hE : PassesOwn (model prog w) A env E) (hh : A.handled = none) (F : Fr h₀ L s.heap m) (N : News h₀ L s.heap led) (hm : (ax, lst its k) ∈ led)
    (hi : wpAny (model prog w) A (eval iter env) (fun xv s₁ => xv = .ref ax ∧ s₁ = s) E s)
    (J : Nat → (PySem.Str → Option Value) → Led → Prop) (h0 : J 0 m led)
    (step : ∀ i v m₁ l₁ I oI h₁ tk₁, its[i]? = some v → J i m₁ l₁ → (ax, lst its k) ∈ l₁ → (∀ p ∈ l₁, p.1 ≠ I) → Fr h₀ L h₁ m₁ → News h₀ L h₁ ((I, oI) :: l₁) →
      wpAny (model prog w) A (assign (.Name x px) env v) (fun _ s₂ => wpAny (model prog w) A (execs body env) (ForEnd h₀ L I oI (fun m' l' => (ax, lst its k) ∈ l' ∧ J (i + 1) m' l') { s with heap := h₁, toks := tk₁ } Q) E s₂) E { s with heap := h₁, toks := tk₁ })
    (done : ∀ h' tk m' l', Fr h₀ L h' m' → News h₀ L h' l' → J its.length m' l' → Q .next { s with heap := h', toks := tk })
    (hs : ∀ x, foldedSetIterable iter env x = pure x := by intro _; rfl) :
    wpAny (model prog w) A (exec (.For (.Name x px) iter body [] pos) env) Q E s := by
  refine wpAny_For (wpAny_mono hi (fun xv s₁ h₁ => ?_) fun _ _ e => e) hs
  obtain ⟨rfl, rfl⟩ := h₁
  have hl : s₁.heap.IsList ax its.toArray := ⟨_, (N _ hm).1, rfl, _, rfl⟩
  have hlt : ax < s₁.heap.objs.size := Heap.lt_size (N _ hm).1
  have up : ∀ b o, s₁.heap.get? b = some o → (s₁.heap.push { cls := .type "list_iterator", data := .fields #[.ref ax, .int 0 0] }).get? b = some o := fun b o e => Heap.get?_push_of_some _ e
  refine wpAny_pyIter_list hl (for_walk (L := L) (led := led) (Walks.list hh s₁.heap.objs.size ax (Nat.ne_of_lt hlt) its.toArray) (S := fun l => (ax, lst its k) ∈ l) (fun i h st => by obtain ⟨o, e, _⟩ := st.1; exact ⟨o, e⟩)
    (fun i h h' o nw st e e' kp N' hS' => LCg.list_st i h h' o nw st e e' kp N' (.inr ⟨_, hS', rfl, _, rfl⟩))
    ⟨⟨_, Heap.get?_push_size _ rfl, rfl, rfl⟩, hl.push _⟩ (F.keeps up) (N.grown up) (Nat.ne_of_lt F.ns.lt).symm (next_is_new F) (fun p hp => Nat.ne_of_lt (Heap.lt_size (N p hp).1)) hm J h0
    (fun i v m₁ l₁ oI h₁ tk₁ _ hP hJ hS' off F₁ N₁ => ?_) fun h' tk m' l' F' N' hJ => done h' tk m' l' F' N' (by rw [List.size_toArray] at hJ; exact hJ))
  exact wpAny_mono (step i v m₁ l₁ _ oI h₁ tk₁ (by simpa using hP) hJ hS' off F₁ N₁) (fun _ _ q => wpAny_passesOwn hE q) hE
/-- a loop over a range from 0 -/
theorem for_range {n : Nat} (hE : PassesOwn (model prog w) A env E) (hh : A.handled = none)
    (hi : wpAny (model prog w) A (eval iter env) (fun xv s₁ => ∃ r b t u v h tk, xv = .ref r ∧ s₁ = { s with heap := h, toks := tk } ∧ IsRange s₁.heap r 0 b 1 t u v ∧ Builtin.Range.small 0 b 1 = true ∧ Builtin.Range.rangeSize 0 b 1 = ((n : Nat) : Int) ∧ Fr h₀ L h m ∧ News h₀ L h led) E s)
    (J : Nat → (PySem.Str → Option Value) → Led → Prop) (h0 : J 0 m led)
    (step : ∀ i t m₁ l₁ I oI h₁ tk₁, i < n → J i m₁ l₁ → (∀ p ∈ l₁, p.1 ≠ I) → Fr h₀ L h₁ m₁ → News h₀ L h₁ ((I, oI) :: l₁) →
      wpAny (model prog w) A (assign (.Name x px) env (.int (0 + (i : Int)) t)) (fun _ s₂ => wpAny (model prog w) A (execs body env) (ForEnd h₀ L I oI (fun m' l' => J (i + 1) m' l') { s with heap := h₁, toks := tk₁ } Q) E s₂) E { s with heap := h₁, toks := tk₁ })
    (done : ∀ h' tk m' l', Fr h₀ L h' m' → News h₀ L h' l' → J n m' l' → Q .next { s with heap := h', toks := tk })
    (hs : ∀ x, foldedSetIterable iter env x = pure x := by intro _; rfl) :
    wpAny (model prog w) A (exec (.For (.Name x px) iter body [] pos) env) Q E s := by
  refine wpAny_For (wpAny_mono hi (fun xv s₁ h₁ => ?_) fun _ _ e => e) hs
  obtain ⟨r, b, t, u, v, h, tk, rfl, rfl, hr, hsm, hn, F, N⟩ := h₁
  refine wpAny_pyIter_range hr hsm (for_walk (L := L) (led := led) (LCg.range_walks hh 0 n) (S := fun _ => True) (fun i h st => ⟨_, st⟩)
    (fun i h h' o nw st e e' kp N' _ => LCg.range_st i h h' o nw st e e' kp N' trivial) (by show IsRangeIter _ _ _ _ _; rw [hn]; simpa using Heap.get?_push_size _ rfl)
    (F.keeps fun _ _ e => Heap.get?_push_of_some _ e) (N.grown fun _ _ e => Heap.get?_push_of_some _ e) (Nat.ne_of_lt F.ns.lt).symm (next_is_new F) (fun p hp => Nat.ne_of_lt (Heap.lt_size (N p hp).1)) trivial J h0
    (fun i v m₁ l₁ oI h₁ tk₁ hi hP hJ _ off F₁ N₁ => ?_) fun h' tk m' l' F' N' hJ => done h' tk m' l' F' N' hJ)
  obtain ⟨t, rfl⟩ := hP
  refine wpAny_mono (step i t m₁ l₁ _ oI h₁ tk₁ hi hJ off F₁ N₁) (fun _ _ q => wpAny_passesOwn hE (wpAny_mono q (fun f s' z => ?_) fun _ _ e => e)) hE
  cases f with
  | ret v => exact z
  | brk => exact z
  | cont => obtain ⟨a1, a2, a3, a4, a5, a6, a7, a8, a9⟩ := z; exact ⟨a1, a2, a3, a4, a5, a6, a7, a8, trivial, a9⟩
  | next => obtain ⟨a1, a2, a3, a4, a5, a6, a7, a8, a9⟩ := z; exact ⟨a1, a2, a3, a4, a5, a6, a7, a8, trivial, a9⟩
end
end
section
section
variable {prog : Program} {w : World} {A₀ A : Around} {s : Shared} {base h₀ : Heap} {outer : List Env} {L : Addr} {m : PySem.Str → Option Value} {env : Env} {K : Frag} {p : Program} {loose : List PySem.Str} {mean : ExcName → Option Value} {mg mb : PySem.Str → Option Value} {news : Led}
  {R : Result → Shared → Prop} {name qual : PySem.Str} {params : Arguments} {body : List Stmt} {scope : Scope} {dV kV doc pm cdv ct oc : Value} {an od : Option Addr} {osl : Array (Option Value)} {f : Addr} {args : Args} {binds : List (PySem.Str × Value)}
/-- a def is entered with all that stands shut, but for a ledger: what is not in the ledger is there, as it was, when the def is left -/
theorem code_defR (B : Below A₀ base outer h₀) (F : Fr h₀ L s.heap m) (X₀ : K.In h₀) (N : News h₀ L s.heap news) (T : Top p loose mean mg mb h₀) (hA : A.frames = some (env :: outer)) (hf : env.frame = some L) (hke : env.scope.kind = .function)
    (ho : K.lookup f = some ⟨oc, od, .func (fnOf name qual params body scope dV kV doc pm an cdv ct), osl⟩) (hcd : codeIn K cdv qual = true) (hroom : A.depth < recursionLimit)
    (hbind : BindsTo s (fnOf name qual params body scope dV kV doc pm an cdv ct) args binds) (hloc : ∀ y ∈ binds, scope.names.lookup y.1 = some .local)
    (h : ∀ g L' h₁, (∀ b o, s.heap.get? b = some o → (∀ p ∈ news, p.1 ≠ b) → g.get? b = some o) → Fr h₀ L g m → Fr g L' h₁ (fun y => binds.reverse.lookup y) → News g L' h₁ news → Below A base (env :: outer) g → K.In g → Top p loose mean mg mb g →
      wpAny (model prog w) (A.deeper (envOf qual scope L' f cdv)) (execs body (envOf qual scope L' f cdv))
        (fun fl s' => LeaveK h₀ L m g (fun r s' => (∀ b o, g.get? b = some o → s'.heap.get? b = some o) → R r s') (match fl with | .ret v => v | _ => .none) s')
        (fun e s' => wpAny (model prog w) (A.deeper (envOf qual scope L' f cdv)) (leaving (envOf qual scope L' f cdv) e) (fun _ s'' => R (.error e) s'') (fun e' s'' => R (.error e') s'') s')
        { s with heap := h₁, toks := s.toks + binds.length })
    (hcell : ∀ x ∈ scope.names, x.2 ≠ .cell) (hco : scope.isCoroutine = false) (hgen : scope.isGenerator = false) (hk : scope.kind = .function) : codeAny (model prog w) A (.call (.ref f) args) R s := by
  obtain ⟨FG, BG, st, lv⟩ := groundX (R := R) B F N hA hf hke
  have X := X₀.keeps F.keep
  refine codeAny_call_def (fd := fnOf name qual params body scope dV kV doc pm an cdv ct) (body := body) (binds := binds) hroom (X _ _ ho) rfl (T.nolimit.keeps F.keep) (codeRec_of X hcd) rfl hbind hcell hloc (fun h₁ hns hk₁ => ?_) hco hgen hk
  refine wpAny_mono (h (hideAll s.heap (List.map (fun x : Addr × Obj => x.fst) news)) s.heap.objs.size h₁ (fun b o e q => hideAll_get _ e fun hm => by
      obtain ⟨p, hp, rfl⟩ := List.mem_map.mp hm
      exact q p hp rfl) FG ⟨hns, fun b o e => hk₁ b o (of_hideAll _ e), Nat.le_of_eq (hideAll_size _ _)⟩
    (fun p hp => ⟨hk₁ _ _ (N p hp).1, Nat.ne_of_lt (Heap.lt_size (N p hp).1), hideAll_none _ (List.mem_map_of_mem hp)⟩) BG (X₀.keeps st) (T.keeps st)) (fun fl s' hl => ?_) fun _ _ y => y
  obtain ⟨L', m', news', F', N', k⟩ := hl
  exact lv _ _ ⟨L', m', news', F', N', fun a b => k a b F'.keep⟩
end
/-- the contract of a def: what it needs of the ledger, what it hands back; the rest of the ledger stays -/
noncomputable def CtrR (w : World) (mean : ExcName → Option Value) (mg mb : PySem.Str → Option Value) (fn : Addr) (args : List Value) (led : Led) (nd nu : Nat) (R : Value → Led → Prop) : Prop :=
  ∀ (dp un : Nat) (gd : Option (List Code)) (cn : PySem.Str) (cs : Scope) (a : Addr) (ccd : Value) (cl : List (PySem.Str × Addr)) (outer : List Env) (A₀ : Around) (base h₀ : Heap) (L : Addr) (m : PySem.Str → Option Value) (s : Shared) (rest : Led) (Q E : Value → Shared → Prop),
    Below A₀ base outer h₀ → Fr h₀ L s.heap m → (heapK w.params).In h₀ → News h₀ L s.heap led → News h₀ L s.heap rest → (∀ p ∈ rest, ∀ q ∈ led, q.1 ≠ p.1) → Top viewQ LO mean mg mb h₀ → cs.kind = .function → dp + nd < recursionLimit → un + nu < cLine →
    (∀ v h' tk' led', Fr h₀ L h' m → News h₀ L h' led' → News h₀ L h' rest → (∀ p ∈ rest, p.1 < s.heap.objs.size) → R v led' → Q v { s with heap := h', toks := tk' }) →
    wpAny (model PR w) (ktrTop dp un gd cn cs L a ccd cl outer) (call (.ref fn) args) Q E s
theorem rest_keeps {h₀ g h h' : Heap} {L : Addr} {led rest : Led} (hg : ∀ b o, h.get? b = some o → (∀ p ∈ led, p.1 ≠ b) → g.get? b = some o) (N : News h₀ L h rest) (off : ∀ p ∈ rest, ∀ q ∈ led, q.1 ≠ p.1) (kp : ∀ b o, g.get? b = some o → h'.get? b = some o) : News h₀ L h' rest :=
  fun p hp => ⟨kp _ _ (hg _ _ (N p hp).1 (off p hp)), (N p hp).2⟩
theorem rest_lt {h₀ h : Heap} {L : Addr} {rest : Led} (N : News h₀ L h rest) : ∀ p ∈ rest, p.1 < h.objs.size := fun p hp => Heap.lt_size (N p hp).1
end
section
section
variable {w : World} {mean : ExcName → Option Value} {mg mb : PySem.Str → Option Value} {fn : Addr} {args : List Value} {led big : Led} {nd nu : Nat} {R : Value → Led → Prop}
theorem CtrR.use {dp un : Nat} {gd : Option (List Code)} {cn : PySem.Str} {cs : Scope} {a : Addr} {ccd : Value} {cl : List (PySem.Str × Addr)} {outer : List Env} {A₀ : Around} {base h₀ : Heap} {L : Addr} {m : PySem.Str → Option Value} {s : Shared} {Q E : Value → Shared → Prop}
    (C : CtrR w mean mg mb fn args led nd nu R) (rest : Led)
    (B : Below A₀ base outer h₀) (F : Fr h₀ L s.heap m) (X : (heapK w.params).In h₀) (N : News h₀ L s.heap big) (I1 : InAll led big) (I2 : InAll rest big) (off : ∀ p ∈ rest, ∀ q ∈ led, q.1 ≠ p.1) (T : Top viewQ LO mean mg mb h₀) (hk : cs.kind = .function) (hd : dp + nd < recursionLimit) (hu : un + nu < cLine)
    (ret : ∀ v h' tk' led', Fr h₀ L h' m → News h₀ L h' (led' ++ rest) → (∀ p ∈ rest, p.1 < s.heap.objs.size) → R v led' → Q v { s with heap := h', toks := tk' }) :
    wpAny (model PR w) (ktrTop dp un gd cn cs L a ccd cl outer) (call (.ref fn) args) Q E s :=
  C dp un gd cn cs a ccd cl outer A₀ base h₀ L m s rest Q E B F X (I1.news N) (I2.news N) off T hk hd hu fun v h' tk' led' F' N' NR lt r => ret v h' tk' led' F' (fun p hp => (List.mem_append.mp hp).elim (N' p) (NR p)) lt r
end
theorem for_range3 {prog : Program} {w : World} {A : Around} {E : Value → Shared → Prop} {s : Shared} {h₀ : Heap} {L : Addr} {m : PySem.Str → Option Value} {env : Env} {led : Led} {x : PySem.Str} {px pos : Pos} {iter : PySem.Expr} {body : List Stmt} {Q : Flow → Shared → Prop} (n : Nat) (F : Fr h₀ L s.heap m) (N : News h₀ L s.heap led) (hE : PassesOwn (model prog w) A env E) (hh : A.handled = none)
    (hi : wpAny (model prog w) A (eval iter env) (fun xv s₁ => ∃ r b t u v h tk, xv = .ref r ∧ s₁ = { s with heap := h, toks := tk } ∧ IsRange s₁.heap r 0 b 1 t u v ∧ Builtin.Range.small 0 b 1 = true ∧ Builtin.Range.rangeSize 0 b 1 = ((n : Nat) : Int) ∧ Fr h₀ L h m ∧ News h₀ L h led) E s)
    (J : Nat → (PySem.Str → Option Value) → Led → Prop) (h0 : J 0 m led)
    (step : ∀ i t m₁ l₁ I oI h₁ tk₁, i < n → J i m₁ l₁ → (∀ p ∈ l₁, p.1 ≠ I) → Fr h₀ L h₁ m₁ → News h₀ L h₁ ((I, oI) :: l₁) →
      wpAny (model prog w) A (assign (.Name x px) env (.int (0 + (i : Int)) t)) (fun _ s₂ => wpAny (model prog w) A (execs body env) (ForEnd h₀ L I oI (fun m' l' => J (i + 1) m' l') { s with heap := h₁, toks := tk₁ } Q) E s₂) E { s with heap := h₁, toks := tk₁ })
    (done : ∀ h' tk m' l', Fr h₀ L h' m' → News h₀ L h' l' → J n m' l' → Q .next { s with heap := h', toks := tk })
    (hs : ∀ x, foldedSetIterable iter env x = pure x := by intro _; rfl) :
    wpAny (model prog w) A (exec (.For (.Name x px) iter body [] pos) env) Q E s := for_range hE hh hi J h0 step done hs
end
section
theorem rows_at3 : True := by
  k_with_none
  k_with "m:k_ne" => ((refine neN ?_; (try dsimp only); first | exact Ap.ne (by assumption) | exact Ap.swap (by assumption) | exact off_ne (by assumption) (by k_mem) | exact (off_ne (by assumption) (by k_mem)).symm | omega))
  k_with "m:k_all" => (first | exact Off.all (by assumption) | exact off_lt (by first | assumption | simp only [*]))
  k_with "m:size_fits" => ((simp only [List.size_toArray, PySem.sizeLine_eq]; omega))
  k_with "subscriptTail" => ((k_here; (with_reducible show wpAny _ _ (subscriptTail _ _ (Value.ref _) (Value.int (-1) _)) _ _ _); (with_unfolding_all refine' last_item ?k1 ?k2 ?_ ?k3; (case k1 => first | is_list | exact News.isList (by k_asm) (by k_mem)); (case k2 => assumption); (case k3 => with_unfolding_all rfl); k_whole)))
  k_with "exec Raise some none" => ((k_here; refine raise_D rfl ?_))
  k_with "call ref" => ((k_here; (with_reducible show wpAny _ _ (call (Value.ref 70) [Value.str _ _]) _ _ _); k_dflt (refine' bad_made ?k1 ?k2 ?k3 ?k4 ?k5 ?k6 ?k7 ?k8 ?_; (case k1 => k_asm); (case k2 => k_asm); (case k3 => k_asm); (case k4 => k_asm); (case k5 => k_asm); (case k6 => rfl); (case k7 => ktr_room); (case k8 => ktr_units); k_whole; intro e'z news'z h'z tk'z F'z N'z hin'z hX'z; (try k_sweep))))
  k_with "RaiseEnd" => ((k_here; refine raiseEnd_ (by k_asm) (by k_asm) (by k_asm) (by assumption) ?_))
  k_with "leaving ref" => ((k_here; first | (refine' leave_firstD ?k1 ?k2 ?k3 ?k4 ?k5 ?k6 ?_; (case k4 => assumption); (case k1 => assumption); (case k2 => assumption); (case k3 => k_asm); (case k5 => exact rfl); (case k6 => exact rfl); k_whole; intro h'z R'z; (try dsimp only at R'z ⊢)) | (refine' leave_onD ?k1 ?k2 ?kF ?k3 ?_; (case k3 => assumption); (case k1 => exact rfl); (case k2 => exact rfl); (case kF => assumption); k_whole; intro h'z R'z; (try dsimp only at R'z ⊢))))
  k_with "m:is_list" => (exact News.isList (by k_asm) (by k_mem))
  k_with "call builtin:len" => ((k_here; (with_reducible show wpAny _ _ (call (Value.builtin "len") [Value.ref _]) _ _ _); k_dflt (refine' len_led ?k1 ?k2 ?_; (case k1 => exact News.isList (by k_asm) (by k_mem)); (case k2 => ((try simp only [List.length_append, List.length_cons, List.length_nil] at *); omega)); intro t'z t2'z)))
  k_with "compareOp Eq ref ref" => ((k_here; (with_reducible show wpAny _ _ (compareOp CmpOp.Eq (Value.ref _) (Value.ref _)) _ _ _); k_dflt (refine' eq_empty ?k1 ?k2 ?k3 ?_; (case k1 => exact News.isList (by k_asm) (by k_mem)); (case k2 => exact News.isList (by k_asm) (by k_mem)); (case k3 => ktr_units))))
  k_with "call type:tuple" => ((k_here; (with_reducible show wpAny _ _ (call (Value.type _) [Value.ref _]) _ _ _); k_dflt (refine' tuple_led ?k1 ?k2 ?k3 ?k4 ?_; (case k1 => k_asm); (case k2 => k_asm); (case k3 => exact News.isList (by k_asm) (by k_mem)); (case k4 => ((try simp only [List.length_append, List.length_cons, List.length_nil] at *); omega)); k_whole; intro l'z h'z F'z N'z; (try k_sweep))))
  k_with "binaryOp Add ref ref" => ((k_here; (with_reducible show wpAny _ _ (binaryOp _ (Value.ref _) (Value.ref _)) _ _ _); k_dflt (refine' add_led ?k1 ?k2 ?k3 ?k5 ?k4 ?_; (case k1 => k_asm); (case k2 => k_asm); (case k3 => exact News.isList (by k_asm) (by k_mem)); (case k5 => exact News.isList (by k_asm) (by k_mem)); (case k4 => ((try simp only [List.length_append, List.length_cons, List.length_nil] at *); omega)); k_whole; intro l'z h'z F'z N'z l1; (try k_lt l1); (try k_sweep))))
  k_with "subscriptTail" => ((k_here; (with_reducible show wpAny _ _ (subscriptTail _ _ (Value.ref _) (Value.int 0 _)) _ _ _); (with_unfolding_all refine' first_item ?k1 ?k2 ?_ ?k3; (case k1 => exact News.isList (by k_asm) (by k_mem)); (case k2 => omega); (case k3 => with_unfolding_all rfl); k_whole; intro x'z)))
  k_with "call builtin:list.append" => ((k_here; (with_reducible show wpAny _ _ (call (Value.builtin _) [Value.ref _, _]) _ _ _); k_dflt (refine' append_led ?k1 ?k2 ?k3 ?k4 ?_; (case k1 => k_asm); (case k2 => k_asm); (case k3 => k_upd); (case k4 => ((try simp only [List.length_append, List.length_cons, List.length_nil] at *); omega)); k_whole); intro h'z F'z N'z; (try k_sweep)))
  k_with "ite" => ((k_closed; k_dflt (first | refine ite_pos (by decide +kernel) ?_ | refine ite_neg (by decide +kernel) ?_)))
  k_with "ite" => ((k_here; first | refine ite_pos (by with_reducible assumption) ?_ | refine ite_neg (ntt (by with_reducible assumption)) ?_))
  k_with "m:ktn_open" => (((repeat (refine InAll.cons (by k_mem) ?_)); (repeat (refine InAll.skip ?_)); exact InAll.refl _))
  k_with "call builtin:list.pop" => ((k_here; (with_reducible show wpAny _ _ (call (Value.builtin _) [Value.ref _]) _ _ _); k_dflt (refine' pop_end ?k1 ?k2 ?k3 ?k4 ?_; (case k1 => k_asm); (case k2 => k_asm); (case k3 => k_upd); (case k4 => ((try simp only [List.length_append, List.length_cons, List.length_nil] at *); omega)); k_whole); intro h'z F'z N'z; (try k_sweep)))
  k_with "eval Constant int" => ((k_here; refine const_int_mk ?_))
  k_with "eval Constant str" => ((k_here; refine const_str_mk ?_))
  k_with "binaryOp Add int int" => ((k_here; refine add_int_mk ?_))
  k_with "binaryOp Sub int int" => ((k_here; refine sub_int_mk ?_))
  trivial
/-- the sign at a place of the codes, or the empty text -/
noncomputable def sgAt (ns : List Int) (i : Int) : PySem.Str := if i < (ns.length : Int) then ⟨#[(ns.getD i.toNat 0).toNat]⟩ else ⟨#[]⟩
theorem sgAt_in {ns : List Int} {i : Int} (h : i < (ns.length : Int)) : sgAt ns i = ⟨#[(ns.getD i.toNat 0).toNat]⟩ := if_pos h
theorem sgAt_out {ns : List Int} {i : Int} (h : ¬ i < (ns.length : Int)) : sgAt ns i = ⟨#[]⟩ := if_neg h
noncomputable abbrev Asc (ns : List Int) : Prop := ∀ i : Nat, 0 ≤ ns.getD i 0 ∧ ns.getD i 0 < 128
theorem chr_own {w : World} {A : Around} {E : Value → Shared → Prop} {s : Shared} {ns : List Int} {i : Nat} {t : Tok} {Q : Value → Shared → Prop} (hch : Asc ns) (h : Q (.str ⟨#[(ns.getD i 0).toNat]⟩ s.toks) { s with toks := s.toks + 1 }) :
    wpAny (model PR w) A (call (.builtin "chr") [.int (ns.getD i 0) t]) Q E s :=
  chr_of_range (hch i).1 (Int.le_trans (Int.le_of_lt (hch i).2) (by decide)) h
theorem rows_at4 : True := by
  k_with "call builtin:chr" => ((k_here; refine chr_own (by assumption) ?_))
  trivial

variable {w : World} {mean : ExcName → Option Value} {mg mb : PySem.Str → Option Value} {p dp fl f df nl dn c : Addr} {ph fh : Nat → Int} {pt ft : Nat → Tok} {pl gr nu : Int} {t1 t2 t3 t4 : Tok} {wd : PySem.Str} {lo : Bool} {fs nodes ds : List Value} {n1 n2 n3 : Nat} {vs : List Value} {ns : List Int} {rest : Led}

noncomputable abbrev led7 (p dp fl f df nl dn c : Addr) (ph fh : Nat → Int) (pt ft : Nat → Tok) (pl gr nu : Int) (t1 t2 t3 t4 : Tok) (wd : PySem.Str) (lo : Bool) (fs nodes ds : List Value) (n1 n2 n3 : Nat) (rest : Led) : Led :=
  (p, instObj 253 dp) :: (dp, pDict ph pt c pl t1 fl gr t2) :: (fl, lst (fs ++ [.ref f]) n1) :: (f, instObj 129 df) :: (df, fDict fh ft wd t3 nu t4 dn nl lo) :: (nl, lst nodes n2) :: (dn, lst ds n3) :: rest
structure Dj (p dp fl f df nl dn : Addr) (rest : Led) : Prop where
  a1 : Ap p dp
  a2 : Ap p fl
  a3 : Ap p f
  a4 : Ap p df
  a5 : Ap p nl
  a6 : Ap p dn
  a7 : Ap dp fl
  a8 : Ap dp f
  a9 : Ap dp df
  b1 : Ap dp nl
  b2 : Ap dp dn
  b3 : Ap fl f
  b4 : Ap fl df
  b5 : Ap fl nl
  b6 : Ap fl dn
  b7 : Ap f df
  b8 : Ap f nl
  b9 : Ap f dn
  c1 : Ap df nl
  c2 : Ap df dn
  c3 : Ap nl dn
  r1 : Off rest p
  r2 : Off rest dp
  r3 : Off rest fl
  r4 : Off rest f
  r5 : Off rest df
  r6 : Off rest nl
  r7 : Off rest dn

theorem top_c {news : Led} (m1 : (p, instObj 253 dp) ∈ news) (m2 : (dp, pDict ph pt c pl t1 fl gr t2) ∈ news) (m3 : (fl, lst (fs ++ [.ref f]) n1) ∈ news) (hz : fs.length ≤ 1000) :
    Ctr w mean mg mb 154 [.ref p] news 2 20 (fun _ => True) (fun v led' => v = .ref f ∧ led' = news) (fun _ => False) := by
  intro dp' un gd cn cs a ccd cl outer A₀ base h₀ L m s Q E B F X N T hk hdp hun hG hret herr
  refine wpAny_call ?_
  (k_dflt cell_enter)
  k_steps
  exact hret _ _ _ _ (by assumption) (by assumption) ⟨rfl, rfl⟩

theorem sign_at_c {news : Led} {sg : PySem.Str} {i : Int} {ti : Tok} (hi : IntsAre vs ns) (h0 : 0 ≤ i) (hz : ns.length ≤ 1000) (hch : Asc ns) (hs : sgAt ns i = sg) :
    Ctr w mean mg mb 77 [.ref c, .int i ti] news 2 20 (fun h₀ => h₀.IsList c vs.toArray) (fun v led' => ∃ tk, v = .str sg tk ∧ led' = news) (fun _ => False) := by
  intro dp' un gd cn cs a ccd cl outer A₀ base h₀ L m s Q E B F X N T hk hdp hun hG hret herr
  refine wpAny_call ?_
  (k_dflt cell_enter)
  have hG' := Fr.lst (by assumption) hG
  k_steps
  · exact hret _ _ _ _ (by assumption) (by assumption) ⟨_, strq (by rw [← hs, sgAt_in (by assumption)]), rfl⟩
  · exact hret _ _ _ _ (by assumption) (by assumption) ⟨_, strq (by rw [← hs, sgAt_out (by omega)]; rfl), rfl⟩

theorem sign_c {sg : PySem.Str} (dj : Dj p dp fl f df nl dn rest) (hi : IntsAre vs ns) (h0 : 0 ≤ pl) (hz : ns.length ≤ 1000) (hch : Asc ns) (hlt : pl < (ns.length : Int)) (hs : sgAt ns pl = sg) :
    Ctr w mean mg mb 161 [.ref p] (led7 p dp fl f df nl dn c ph fh pt ft pl gr nu t1 t2 t3 t4 wd lo fs nodes ds n1 n2 n3 rest) 2 20 (fun h₀ => h₀.IsList c vs.toArray)
      (fun v led' => ∃ tk tk', v = .str sg tk ∧ led' = led7 p dp fl f df nl dn c ph fh pt ft (pl + 1) gr nu tk' t2 t3 t4 wd lo fs nodes ds n1 n2 n3 rest) (fun _ => False) := by
  intro dp' un gd cn cs a ccd cl outer A₀ base h₀ L m s Q E B F X N T hk hdp hun hG hret herr
  obtain ⟨d1, d2, d3, d4, d5, d6, d7, d8, d9, e1, e2, e3, e4, e5, e6, e7, e8, e9, g1, g2, g3, r1, r2, r3, r4, r5, r6, r7⟩ := dj
  refine wpAny_call ?_
  (k_dflt cell_enter)
  have hG' := Fr.lst (by assumption) hG
  k_steps
  have e : pl + 1 - 1 = pl := by omega
  rw [e]
  exact hret _ _ _ _ (by assumption) (by assumption) ⟨_, _, strq (by rw [← hs, sgAt_in hlt]), rfl⟩

theorem sign_e (hi : IntsAre vs ns) (h0 : 0 ≤ pl) (hz : ns.length ≤ 1000) (hlt : ¬ pl < (ns.length : Int)) :
    Ctr w mean mg mb 161 [.ref p] [(p, instObj 253 dp), (dp, pDict ph pt c pl t1 fl gr t2)] 6 100 (fun h₀ => h₀.IsList c vs.toArray)
      (fun _ _ => False) (fun msg => msg = sS "Trailing backslash") := by
  intro dp' un gd cn cs a ccd cl outer A₀ base h₀ L m s Q E B F X N T hk hdp hun hG hret herr
  refine wpAny_call ?_
  (k_dflt cell_enter)
  have hG' := Fr.lst (by assumption) hG
  k_steps
  exact herr _ _ _ _ _ rfl (by assumption) (by assumption)

theorem put_c {v : Value} (dj : Dj p dp fl f df nl dn rest) (hz : nodes.length ≤ 1000) :
    Ctr w mean mg mb 112 [.ref f, v] (led7 p dp fl f df nl dn c ph fh pt ft pl gr nu t1 t2 t3 t4 wd lo fs nodes ds n1 n2 n3 rest) 2 20 (fun _ => True)
      (fun r led' => r = .none ∧ ∃ n2', led' = led7 p dp fl f df nl dn c ph fh pt ft pl gr nu t1 t2 t3 t4 wd false fs (nodes ++ [v]) ds n1 n2' n3 rest) (fun _ => False) := by
  intro dp' un gd cn cs a ccd cl outer A₀ base h₀ L m s Q E B F X N T hk hdp hun hG hret herr
  obtain ⟨d1, d2, d3, d4, d5, d6, d7, d8, d9, e1, e2, e3, e4, e5, e6, e7, e8, e9, g1, g2, g3, r1, r2, r3, r4, r5, r6, r7⟩ := dj
  refine wpAny_call ?_
  (k_dflt cell_enter)
  k_steps
  exact hret _ _ _ _ (by assumption) (by assumption) ⟨rfl, n2 + 1, rfl⟩
end
section
variable {w : World} {mean : ExcName → Option Value} {mg mb : PySem.Str → Option Value} {p dp fl f df nl dn c : Addr} {ph fh : Nat → Int} {pt ft : Nat → Tok} {pl gr nu : Int} {t1 t2 t3 t4 : Tok} {wd : PySem.Str} {lo : Bool} {fs nodes ds : List Value} {n1 n2 n3 : Nat} {vs : List Value} {ns : List Int} {rest : Led}
theorem rows_at5 : True := by
  k_with_none
  k_with "m:k_ne" => ((refine neN ?_; (try dsimp only); first | exact Ap.ne (by assumption) | exact Ap.swap (by assumption) | exact off_ne (by assumption) (by k_mem) | exact (off_ne (by assumption) (by k_mem)).symm | omega))
  k_with "m:k_all" => (first | exact Off.all (by assumption) | exact off_lt (by first | assumption | simp only [*]))
  k_with "m:size_fits" => ((simp only [List.size_toArray, PySem.sizeLine_eq]; omega))
  k_with "subscriptTail" => ((k_here; (with_reducible show wpAny _ _ (subscriptTail _ _ (Value.ref _) (Value.int (-1) _)) _ _ _); (with_unfolding_all refine' last_item ?k1 ?k2 ?_ ?k3; (case k1 => first | is_list | exact News.isList (by k_asm) (by k_mem)); (case k2 => assumption); (case k3 => with_unfolding_all rfl); k_whole)))
  k_with "exec Raise some none" => ((k_here; refine raise_D rfl ?_))
  k_with "call ref" => ((k_here; (with_reducible show wpAny _ _ (call (Value.ref 70) [Value.str _ _]) _ _ _); k_dflt (refine' bad_made ?k1 ?k2 ?k3 ?k4 ?k5 ?k6 ?k7 ?k8 ?_; (case k1 => k_asm); (case k2 => k_asm); (case k3 => k_asm); (case k4 => k_asm); (case k5 => k_asm); (case k6 => rfl); (case k7 => ktr_room); (case k8 => ktr_units); k_whole; intro e'z news'z h'z tk'z F'z N'z hin'z hX'z; (try k_sweep))))
  k_with "RaiseEnd" => ((k_here; refine raiseEnd_ (by k_asm) (by k_asm) (by k_asm) (by assumption) ?_))
  k_with "leaving ref" => ((k_here; first | (refine' leave_firstD ?k1 ?k2 ?k3 ?k4 ?k5 ?k6 ?_; (case k4 => assumption); (case k1 => assumption); (case k2 => assumption); (case k3 => k_asm); (case k5 => exact rfl); (case k6 => exact rfl); k_whole; intro h'z R'z; (try dsimp only at R'z ⊢)) | (refine' leave_onD ?k1 ?k2 ?kF ?k3 ?_; (case k3 => assumption); (case k1 => exact rfl); (case k2 => exact rfl); (case kF => assumption); k_whole; intro h'z R'z; (try dsimp only at R'z ⊢))))
  k_with "m:is_list" => (exact News.isList (by k_asm) (by k_mem))
  k_with "call builtin:len" => ((k_here; (with_reducible show wpAny _ _ (call (Value.builtin "len") [Value.ref _]) _ _ _); k_dflt (refine' len_led ?k1 ?k2 ?_; (case k1 => exact News.isList (by k_asm) (by k_mem)); (case k2 => ((try simp only [List.length_append, List.length_cons, List.length_nil] at *); omega)); intro t'z t2'z)))
  k_with "compareOp Eq ref ref" => ((k_here; (with_reducible show wpAny _ _ (compareOp CmpOp.Eq (Value.ref _) (Value.ref _)) _ _ _); k_dflt (refine' eq_empty ?k1 ?k2 ?k3 ?_; (case k1 => exact News.isList (by k_asm) (by k_mem)); (case k2 => exact News.isList (by k_asm) (by k_mem)); (case k3 => ktr_units))))
  k_with "call type:tuple" => ((k_here; (with_reducible show wpAny _ _ (call (Value.type _) [Value.ref _]) _ _ _); k_dflt (refine' tuple_led ?k1 ?k2 ?k3 ?k4 ?_; (case k1 => k_asm); (case k2 => k_asm); (case k3 => exact News.isList (by k_asm) (by k_mem)); (case k4 => ((try simp only [List.length_append, List.length_cons, List.length_nil] at *); omega)); k_whole; intro l'z h'z F'z N'z; (try k_sweep))))
  k_with "binaryOp Add ref ref" => ((k_here; (with_reducible show wpAny _ _ (binaryOp _ (Value.ref _) (Value.ref _)) _ _ _); k_dflt (refine' add_led ?k1 ?k2 ?k3 ?k5 ?k4 ?_; (case k1 => k_asm); (case k2 => k_asm); (case k3 => exact News.isList (by k_asm) (by k_mem)); (case k5 => exact News.isList (by k_asm) (by k_mem)); (case k4 => ((try simp only [List.length_append, List.length_cons, List.length_nil] at *); omega)); k_whole; intro l'z h'z F'z N'z l1; (try k_lt l1); (try k_sweep))))
  k_with "subscriptTail" => ((k_here; (with_reducible show wpAny _ _ (subscriptTail _ _ (Value.ref _) (Value.int 0 _)) _ _ _); (with_unfolding_all refine' first_item ?k1 ?k2 ?_ ?k3; (case k1 => exact News.isList (by k_asm) (by k_mem)); (case k2 => omega); (case k3 => with_unfolding_all rfl); k_whole; intro x'z)))
  k_with "call builtin:list.append" => ((k_here; (with_reducible show wpAny _ _ (call (Value.builtin _) [Value.ref _, _]) _ _ _); k_dflt (refine' append_led ?k1 ?k2 ?k3 ?k4 ?_; (case k1 => k_asm); (case k2 => k_asm); (case k3 => k_upd); (case k4 => ((try simp only [List.length_append, List.length_cons, List.length_nil] at *); omega)); k_whole); intro h'z F'z N'z; (try k_sweep)))
  k_with "ite" => ((k_closed; k_dflt (first | refine ite_pos (by decide +kernel) ?_ | refine ite_neg (by decide +kernel) ?_)))
  k_with "ite" => ((k_here; first | refine ite_pos (by with_reducible assumption) ?_ | refine ite_neg (ntt (by with_reducible assumption)) ?_))
  k_with "m:ktn_open" => (((repeat (refine InAll.cons (by k_mem) ?_)); (repeat (refine InAll.skip ?_)); exact InAll.refl _))
  k_with "call builtin:list.pop" => ((k_here; (with_reducible show wpAny _ _ (call (Value.builtin _) [Value.ref _]) _ _ _); k_dflt (refine' pop_end ?k1 ?k2 ?k3 ?k4 ?_; (case k1 => k_asm); (case k2 => k_asm); (case k3 => k_upd); (case k4 => ((try simp only [List.length_append, List.length_cons, List.length_nil] at *); omega)); k_whole); intro h'z F'z N'z; (try k_sweep)))
  k_with "eval Constant int" => ((k_here; refine const_int_mk ?_))
  k_with "eval Constant str" => ((k_here; refine const_str_mk ?_))
  k_with "binaryOp Add int int" => ((k_here; refine add_int_mk ?_))
  k_with "binaryOp Sub int int" => ((k_here; refine sub_int_mk ?_))
  k_with "m:ktr_rel" => (first | exact InAll.refl _ | exact InAll.two (by k_mem) (by k_mem) | (refine InAll.skip ?_; ktr_rel) | (refine' InAll.seven ?a1 ?a2 ?a3 ?a4 ?a5 ?a6 ?a7 ?a8; (case a1 => k_mem); (case a2 => k_mem); (case a3 => k_mem); (case a4 => k_mem); (case a5 => k_mem); (case a6 => k_mem); (case a7 => k_mem); (case a8 => ((repeat (apply InAll.skip)); exact InAll.refl _))))
  k_with "call ref" => ((k_here; (with_reducible show wpAny _ _ (call (Value.ref 154) [_]) _ _ _); k_dflt (refine' Ctr.use (top_c ?m1 ?m2 ?m3 ?z) ?kB ?kF ?kX ?kN ?kI ?kT ?kk ?kd ?ku ?kG ?_ ?ke; (case kB => k_asm); (case kF => k_asm); (case kX => k_asm); (case kN => k_asm); (case kI => ktr_rel); (case m1 => k_mem); (case m2 => k_mem); (case m3 => k_mem); (case z => assumption); (case kT => k_asm); (case kk => exact rfl); (case kd => ktr_room); (case ku => ktr_units); (case kG => trivial); (case ke => (intro _ _ _ _ _ q; exact q.elim)); (intro v'z h'z tk'z led'z F'z N'z q'z; obtain ⟨e1'z, e2'z⟩ := q'z; subst e1'z e2'z; (try k_sweep)))))
  k_with "call ref" => ((k_here; (with_reducible show wpAny _ _ (call (Value.ref 77) [_, _]) _ _ _); k_dflt (refine' Ctr.use (sign_at_c ?m1 ?m2 ?m3 ?m4 ?z) ?kB ?kF ?kX ?kN ?kI ?kT ?kk ?kd ?ku ?kG ?_ ?ke; (case kB => k_asm); (case kF => k_asm); (case kX => k_asm); (case kN => k_asm); (case kI => ktr_rel); (case m1 => assumption); (case m2 => omega); (case m3 => assumption); (case m4 => assumption); (case z => first | assumption | (simp only [Int.add_assoc, Int.reduceAdd]; assumption)); (case kT => k_asm); (case kk => exact rfl); (case kd => ktr_room); (case ku => ktr_units); (case kG => assumption); (case ke => (intro _ _ _ _ _ q; exact q.elim)); (intro v'z h'z tk'z led'z F'z N'z q'z; obtain ⟨tk2'z, e1'z, e2'z⟩ := q'z; subst e1'z e2'z; (try k_sweep)))))
  k_with "call ref" => ((k_here; (with_reducible show wpAny _ _ (call _ (_ ++ _)) _ _ _); dsimp only [List.nil_append, List.cons_append]; walk_at "call ref"))
  trivial
theorem is_esc_t {news : Led} {i : Int} {ti ts : Tok} (hi : IntsAre vs ns) (h0 : 0 ≤ i) (hz : ns.length ≤ 1000) (hch : Asc ns) (hs : sgAt ns i = sS "\\") (hs1 : sgAt ns (i + 1) = sS "}") :
    Ctr w mean mg mb 84 [.ref c, .int i ti, .str (sS "}") ts] news 4 40 (fun h₀ => h₀.IsList c vs.toArray) (fun v led' => v = .bool true ∧ led' = news) (fun _ => False) := by
  intro dp' un gd cn cs a ccd cl outer A₀ base h₀ L m s Q E B F X N T hk hdp hun hG hret herr
  refine wpAny_call ?_
  (k_dflt cell_enter)
  have hG' := Fr.lst (by assumption) hG
  k_steps
  exact hret _ _ _ _ (by assumption) (by assumption) ⟨congrArg Value.bool (by decide +kernel), rfl⟩

theorem is_esc_f {news : Led} {i : Int} {ti ts : Tok} (hi : IntsAre vs ns) (h0 : 0 ≤ i) (hz : ns.length ≤ 1000) (hch : Asc ns) (hs : sgAt ns i = sS "x") :
    Ctr w mean mg mb 84 [.ref c, .int i ti, .str (sS "}") ts] news 4 40 (fun h₀ => h₀.IsList c vs.toArray) (fun v led' => v = .bool false ∧ led' = news) (fun _ => False) := by
  intro dp' un gd cn cs a ccd cl outer A₀ base h₀ L m s Q E B F X N T hk hdp hun hG hret herr
  refine wpAny_call ?_
  (k_dflt cell_enter)
  have hG' := Fr.lst (by assumption) hG
  k_steps
  exact hret _ _ _ _ (by assumption) (by assumption) ⟨congrArg Value.bool (by decide +kernel), rfl⟩

theorem joined_c (hz : nodes.length ≤ 1000) :
    Ctr w mean mg mb 91 [.ref nl] ((nl, lst nodes n2) :: rest) 2 20 (fun _ => True) (fun _ led' => led' = rest) (fun _ => False) := by
  intro dp' un gd cn cs a ccd cl outer A₀ base h₀ L m s Q E B F X N T hk hdp hun hG hret herr
  refine wpAny_call ?_
  (k_dflt cell_enter)
  k_steps
  all_goals (refine hret _ _ _ _ (by assumption) (InAll.news ?_ (by assumption)) rfl)
  all_goals ktr_rel

noncomputable abbrev frLed (f df nl dn : Addr) (fh : Nat → Int) (ft : Nat → Tok) (nu : Int) (t3 t4 : Tok) (wd : PySem.Str) (lo : Bool) (nodes ds : List Value) (n2 n3 : Nat) (rest : Led) : Led :=
  (f, instObj 129 df) :: (df, fDict fh ft wd t3 nu t4 dn nl lo) :: (nl, lst nodes n2) :: (dn, lst ds n3) :: rest
theorem mk_end {h₀ h : Heap} {L x d l1 l2 : Addr} {a0 a1 a2 a3 a4 : Int} {b0 b1 b2 b3 b4 : Tok} {m1 m2 : Nat} (N : News h₀ L h ((l2, lst [] m2) :: (l1, lst [] m1) :: (x, instObj 129 d) :: (d, dictOf [⟨a0, .str (PySem.Str.ofString "word") b0, .str wd t3⟩, ⟨a1, .str (PySem.Str.ofString "number") b1, .int nu t4⟩, ⟨a2, .str (PySem.Str.ofString "done") b2, .ref l1⟩, ⟨a3, .str (PySem.Str.ofString "nodes") b3, .ref l2⟩, ⟨a4, .str (PySem.Str.ofString "is_loose") b4, .bool true⟩] 5) :: rest))
    (e1 : ∀ p ∈ rest, p.1 < d) (e2 : d < x) (e3 : x < l1 ∧ d < l1 ∧ AllLt l1 rest) (e4 : l1 < l2 ∧ x < l2 ∧ d < l2 ∧ AllLt l2 rest) :
    ∃ led', News h₀ L h led' ∧ ∃ f df nl dn fh ft n2 n3, Value.ref x = .ref f ∧ led' = frLed f df nl dn fh ft nu t3 t4 wd true [] [] n2 n3 rest ∧ (Ap f df ∧ Ap f nl ∧ Ap f dn ∧ Ap df nl ∧ Ap df dn ∧ Ap nl dn) ∧ Off rest f ∧ Off rest df ∧ Off rest nl ∧ Off rest dn := by
  refine ⟨_, ?_, x, d, l2, l1, (fun i => match i with | 0 => a0 | 1 => a1 | 2 => a2 | 3 => a3 | _ => a4), (fun i => match i with | 0 => b0 | 1 => b1 | 2 => b2 | 3 => b3 | _ => b4), m2, m1, rfl, rfl, ⟨Nat.ne_of_gt e2, Nat.ne_of_lt e4.2.1, Nat.ne_of_lt e3.1, Nat.ne_of_lt e4.2.2.1, Nat.ne_of_lt e3.2.1, Nat.ne_of_gt e4.1⟩,
    fun p hp => Nat.ne_of_lt (Nat.lt_trans (e1 p hp) e2), fun p hp => Nat.ne_of_lt (e1 p hp), off_lt e4.2.2.2, off_lt e3.2.2⟩
  intro p hp
  simp only [List.mem_cons] at hp
  rcases hp with rfl | rfl | rfl | rfl | hp
  · exact N _ (.tail _ (.tail _ (.head _)))
  · exact N _ (.tail _ (.tail _ (.tail _ (.head _))))
  · exact N _ (.head _)
  · exact N _ (.tail _ (.head _))
  · exact N _ (.tail _ (.tail _ (.tail _ (.tail _ hp))))
/-- a frame is made -/
theorem mk_c : Ctr w mean mg mb 129 [.str wd t3, .int nu t4] rest 4 40 (fun _ => True)
    (fun v led' => ∃ f df nl dn fh ft n2 n3, v = .ref f ∧ led' = frLed f df nl dn fh ft nu t3 t4 wd true [] [] n2 n3 rest ∧ (Ap f df ∧ Ap f nl ∧ Ap f dn ∧ Ap df nl ∧ Ap df dn ∧ Ap nl dn) ∧ Off rest f ∧ Off rest df ∧ Off rest nl ∧ Off rest dn) (fun _ => False) := by
  intro dp' un gd cn cs a ccd cl outer A₀ base h₀ L m s Q E B F X N T hk hdp hun hG hret herr
  (k_dflt (refine' call_cls ?k1 ?k2 ?k3 ?k4 ?k5 ?k6 ?_; (case k1 => k_asm); (case k2 => k_asm); (case k3 => k_asm); (case k4 => k_is); (case k5 => k_is); (case k6 => k_is); k_whole; intro x' d' h' F' N' l1 l2; (try k_lt l1); (try k_lt2 l2); (try k_sweep); cell_enter))
  k_steps
  obtain ⟨led', N9, r⟩ := mk_end (by assumption) (by assumption) (by assumption) (by assumption) (by assumption)
  exact hret _ _ _ _ (by assumption) N9 r
end
section
variable {w : World} {mean : ExcName → Option Value} {mg mb : PySem.Str → Option Value} {p dp fl f df nl dn c : Addr} {ph fh : Nat → Int} {pt ft : Nat → Tok} {pl gr nu : Int} {t1 t2 t3 t4 : Tok} {wd : PySem.Str} {lo : Bool} {fs nodes ds : List Value} {n1 n2 n3 : Nat} {vs : List Value} {ns : List Int} {rest : Led}
theorem rows_at6 : True := by
  k_with_none
  k_with "m:k_ne" => ((refine neN ?_; (try dsimp only); first | exact Ap.ne (by assumption) | exact Ap.swap (by assumption) | exact off_ne (by assumption) (by k_mem) | exact (off_ne (by assumption) (by k_mem)).symm | omega))
  k_with "m:k_all" => (first | exact Off.all (by assumption) | exact off_lt (by first | assumption | simp only [*]))
  k_with "m:size_fits" => ((simp only [List.size_toArray, PySem.sizeLine_eq]; omega))
  k_with "subscriptTail" => ((k_here; (with_reducible show wpAny _ _ (subscriptTail _ _ (Value.ref _) (Value.int (-1) _)) _ _ _); (with_unfolding_all refine' last_item ?k1 ?k2 ?_ ?k3; (case k1 => first | is_list | exact News.isList (by k_asm) (by k_mem)); (case k2 => assumption); (case k3 => with_unfolding_all rfl); k_whole)))
  k_with "exec Raise some none" => ((k_here; refine raise_D rfl ?_))
  k_with "call ref" => ((k_here; (with_reducible show wpAny _ _ (call (Value.ref 70) [Value.str _ _]) _ _ _); k_dflt (refine' bad_made ?k1 ?k2 ?k3 ?k4 ?k5 ?k6 ?k7 ?k8 ?_; (case k1 => k_asm); (case k2 => k_asm); (case k3 => k_asm); (case k4 => k_asm); (case k5 => k_asm); (case k6 => rfl); (case k7 => ktr_room); (case k8 => ktr_units); k_whole; intro e'z news'z h'z tk'z F'z N'z hin'z hX'z; (try k_sweep))))
  k_with "RaiseEnd" => ((k_here; refine raiseEnd_ (by k_asm) (by k_asm) (by k_asm) (by assumption) ?_))
  k_with "leaving ref" => ((k_here; first | (refine' leave_firstD ?k1 ?k2 ?k3 ?k4 ?k5 ?k6 ?_; (case k4 => assumption); (case k1 => assumption); (case k2 => assumption); (case k3 => k_asm); (case k5 => exact rfl); (case k6 => exact rfl); k_whole; intro h'z R'z; (try dsimp only at R'z ⊢)) | (refine' leave_onD ?k1 ?k2 ?kF ?k3 ?_; (case k3 => assumption); (case k1 => exact rfl); (case k2 => exact rfl); (case kF => assumption); k_whole; intro h'z R'z; (try dsimp only at R'z ⊢))))
  k_with "m:is_list" => (exact News.isList (by k_asm) (by k_mem))
  k_with "call builtin:len" => ((k_here; (with_reducible show wpAny _ _ (call (Value.builtin "len") [Value.ref _]) _ _ _); k_dflt (refine' len_led ?k1 ?k2 ?_; (case k1 => exact News.isList (by k_asm) (by k_mem)); (case k2 => ((try simp only [List.length_append, List.length_cons, List.length_nil] at *); omega)); intro t'z t2'z)))
  k_with "compareOp Eq ref ref" => ((k_here; (with_reducible show wpAny _ _ (compareOp CmpOp.Eq (Value.ref _) (Value.ref _)) _ _ _); k_dflt (refine' eq_empty ?k1 ?k2 ?k3 ?_; (case k1 => exact News.isList (by k_asm) (by k_mem)); (case k2 => exact News.isList (by k_asm) (by k_mem)); (case k3 => ktr_units))))
  k_with "call type:tuple" => ((k_here; (with_reducible show wpAny _ _ (call (Value.type _) [Value.ref _]) _ _ _); k_dflt (refine' tuple_led ?k1 ?k2 ?k3 ?k4 ?_; (case k1 => k_asm); (case k2 => k_asm); (case k3 => exact News.isList (by k_asm) (by k_mem)); (case k4 => ((try simp only [List.length_append, List.length_cons, List.length_nil] at *); omega)); k_whole; intro l'z h'z F'z N'z; (try k_sweep))))
  k_with "binaryOp Add ref ref" => ((k_here; (with_reducible show wpAny _ _ (binaryOp _ (Value.ref _) (Value.ref _)) _ _ _); k_dflt (refine' add_led ?k1 ?k2 ?k3 ?k5 ?k4 ?_; (case k1 => k_asm); (case k2 => k_asm); (case k3 => exact News.isList (by k_asm) (by k_mem)); (case k5 => exact News.isList (by k_asm) (by k_mem)); (case k4 => ((try simp only [List.length_append, List.length_cons, List.length_nil] at *); omega)); k_whole; intro l'z h'z F'z N'z l1; (try k_lt l1); (try k_sweep))))
  k_with "subscriptTail" => ((k_here; (with_reducible show wpAny _ _ (subscriptTail _ _ (Value.ref _) (Value.int 0 _)) _ _ _); (with_unfolding_all refine' first_item ?k1 ?k2 ?_ ?k3; (case k1 => exact News.isList (by k_asm) (by k_mem)); (case k2 => omega); (case k3 => with_unfolding_all rfl); k_whole; intro x'z)))
  k_with "call builtin:list.append" => ((k_here; (with_reducible show wpAny _ _ (call (Value.builtin _) [Value.ref _, _]) _ _ _); k_dflt (refine' append_led ?k1 ?k2 ?k3 ?k4 ?_; (case k1 => k_asm); (case k2 => k_asm); (case k3 => k_upd); (case k4 => ((try simp only [List.length_append, List.length_cons, List.length_nil] at *); omega)); k_whole); intro h'z F'z N'z; (try k_sweep)))
  k_with "ite" => ((k_closed; k_dflt (first | refine ite_pos (by decide +kernel) ?_ | refine ite_neg (by decide +kernel) ?_)))
  k_with "ite" => ((k_here; first | refine ite_pos (by with_reducible assumption) ?_ | refine ite_neg (ntt (by with_reducible assumption)) ?_))
  k_with "m:ktn_open" => (((repeat (refine InAll.cons (by k_mem) ?_)); (repeat (refine InAll.skip ?_)); exact InAll.refl _))
  k_with "call builtin:list.pop" => ((k_here; (with_reducible show wpAny _ _ (call (Value.builtin _) [Value.ref _]) _ _ _); k_dflt (refine' pop_end ?k1 ?k2 ?k3 ?k4 ?_; (case k1 => k_asm); (case k2 => k_asm); (case k3 => k_upd); (case k4 => ((try simp only [List.length_append, List.length_cons, List.length_nil] at *); omega)); k_whole); intro h'z F'z N'z; (try k_sweep)))
  k_with "eval Constant int" => ((k_here; refine const_int_mk ?_))
  k_with "eval Constant str" => ((k_here; refine const_str_mk ?_))
  k_with "binaryOp Add int int" => ((k_here; refine add_int_mk ?_))
  k_with "binaryOp Sub int int" => ((k_here; refine sub_int_mk ?_))
  k_with "m:ktr_rel" => (first | exact InAll.refl _ | exact InAll.two (by k_mem) (by k_mem) | (refine InAll.skip ?_; ktr_rel) | (refine' InAll.seven ?a1 ?a2 ?a3 ?a4 ?a5 ?a6 ?a7 ?a8; (case a1 => k_mem); (case a2 => k_mem); (case a3 => k_mem); (case a4 => k_mem); (case a5 => k_mem); (case a6 => k_mem); (case a7 => k_mem); (case a8 => ((repeat (apply InAll.skip)); exact InAll.refl _))))
  k_with "call ref" => ((k_here; (with_reducible show wpAny _ _ (call (Value.ref 154) [_]) _ _ _); k_dflt (refine' Ctr.use (top_c ?m1 ?m2 ?m3 ?z) ?kB ?kF ?kX ?kN ?kI ?kT ?kk ?kd ?ku ?kG ?_ ?ke; (case kB => k_asm); (case kF => k_asm); (case kX => k_asm); (case kN => k_asm); (case kI => ktr_rel); (case m1 => k_mem); (case m2 => k_mem); (case m3 => k_mem); (case z => assumption); (case kT => k_asm); (case kk => exact rfl); (case kd => ktr_room); (case ku => ktr_units); (case kG => trivial); (case ke => (intro _ _ _ _ _ q; exact q.elim)); (intro v'z h'z tk'z led'z F'z N'z q'z; obtain ⟨e1'z, e2'z⟩ := q'z; subst e1'z e2'z; (try k_sweep)))))
  k_with "call ref" => ((k_here; (with_reducible show wpAny _ _ (call (Value.ref 77) [_, _]) _ _ _); k_dflt (refine' Ctr.use (sign_at_c ?m1 ?m2 ?m3 ?m4 ?z) ?kB ?kF ?kX ?kN ?kI ?kT ?kk ?kd ?ku ?kG ?_ ?ke; (case kB => k_asm); (case kF => k_asm); (case kX => k_asm); (case kN => k_asm); (case kI => ktr_rel); (case m1 => assumption); (case m2 => omega); (case m3 => assumption); (case m4 => assumption); (case z => first | assumption | (simp only [Int.add_assoc, Int.reduceAdd]; assumption)); (case kT => k_asm); (case kk => exact rfl); (case kd => ktr_room); (case ku => ktr_units); (case kG => assumption); (case ke => (intro _ _ _ _ _ q; exact q.elim)); (intro v'z h'z tk'z led'z F'z N'z q'z; obtain ⟨tk2'z, e1'z, e2'z⟩ := q'z; subst e1'z e2'z; (try k_sweep)))))
  k_with "call ref" => ((k_here; (with_reducible show wpAny _ _ (call (Value.ref 91) [_]) _ _ _); k_dflt (refine' Ctr.use (joined_c ?z) ?kB ?kF ?kX ?kN ?kI ?kT ?kk ?kd ?ku ?kG ?_ ?ke; (case kB => k_asm); (case kF => k_asm); (case kX => k_asm); (case kN => k_asm); (case kI => exact InAll.cons (by k_mem) (InAll.refl _)); (case z => assumption); (case kT => k_asm); (case kk => exact rfl); (case kd => ktr_room); (case ku => ktr_units); (case kG => trivial); (case ke => (intro _ _ _ _ _ q; exact q.elim)); (intro v'z h'z tk'z led'z F'z N'z e2'z; subst e2'z; (try k_sweep)))))
  k_with "call ref" => ((k_here; (with_reducible show wpAny _ _ (call _ (_ ++ _)) _ _ _); dsimp only [List.nil_append, List.cons_append]; walk_at "call ref"))
  trivial
theorem Dj.newNl {l : Addr} (j : Dj p dp fl f df nl dn rest) (k : p < l ∧ dp < l ∧ fl < l ∧ f < l ∧ df < l ∧ nl < l ∧ dn < l ∧ AllLt l rest) : Dj p dp fl f df l dn rest :=
  { j with a5 := Nat.ne_of_lt k.1, b1 := Nat.ne_of_lt k.2.1, b5 := Nat.ne_of_lt k.2.2.1, b8 := Nat.ne_of_lt k.2.2.2.1, c1 := Nat.ne_of_lt k.2.2.2.2.1, c3 := Nat.ne_of_gt k.2.2.2.2.2.2.1, r6 := off_lt k.2.2.2.2.2.2.2 }
theorem part_c (dj : Dj p dp fl f df nl dn rest) (hz : nodes.length ≤ 1000) (hz2 : ds.length ≤ 1000) :
    Ctr w mean mg mb 119 [.ref f] (led7 p dp fl f df nl dn c ph fh pt ft pl gr nu t1 t2 t3 t4 wd lo fs nodes ds n1 n2 n3 rest) 4 60 (fun _ => True)
      (fun r led' => r = .none ∧ ∃ nl' n2' n3' ds', Dj p dp fl f df nl' dn rest ∧ ds'.length = ds.length + 1 ∧ led' = led7 p dp fl f df nl' dn c ph fh pt ft pl gr nu t1 t2 t3 t4 wd true fs [] ds' n1 n2' n3' rest) (fun _ => False) := by
  intro dp' un gd cn cs a ccd cl outer A₀ base h₀ L m s Q E B F X N T hk hdp hun hG hret herr
  have dj' := dj
  obtain ⟨d1, d2, d3, d4, d5, d6, d7, d8, d9, e1, e2, e3, e4, e5, e6, e7, e8, e9, g1, g2, g3, r1, r2, r3, r4, r5, r6, r7⟩ := dj'
  refine wpAny_call ?_
  (k_dflt cell_enter)
  k_steps
  refine' hret _ _ _ (led7 p dp fl f df _ dn c ph fh pt ft pl gr nu t1 t2 t3 t4 wd true fs [] _ n1 _ _ rest) ?fr (InAll.news ?ii ?nw) ⟨rfl, _, _, _, _, ?dj, ?len, rfl⟩
  case fr => assumption
  case nw => assumption
  case ii => ktr_rel
  case dj => exact Dj.newNl dj (by assumption)
  case len => simp

/-- what a frame's own node is: none of our business; the ledger stands -/
theorem node_c (hz : nodes.length ≤ 1000) (hz2 : ds.length ≤ 1000) :
    Ctr w mean mg mb 126 [.ref f] (frLed f df nl dn fh ft nu t3 t4 wd lo nodes ds n2 n3 rest) 4 80 (fun _ => True) (fun _ led' => led' = rest) (fun _ => False) := by
  intro dp' un gd cn cs a ccd cl outer A₀ base h₀ L m s Q E B F X N T hk hdp hun hG hret herr
  refine wpAny_call ?_
  (k_dflt cell_enter)
  k_steps
  all_goals (refine hret _ _ _ _ (by assumption) (InAll.news ?_ (by assumption)) rfl)
  all_goals ktr_rel
end
section
variable {w : World} {mean : ExcName → Option Value} {mg mb : PySem.Str → Option Value} {p dp fl f df nl dn c : Addr} {ph fh : Nat → Int} {pt ft : Nat → Tok} {pl gr nu : Int} {t1 t2 t3 t4 : Tok} {wd : PySem.Str} {lo : Bool} {fs nodes ds : List Value} {n1 n2 n3 : Nat} {vs : List Value} {ns : List Int} {rest : Led}
theorem rows_at7 : True := by
  k_with_none
  k_with "m:k_ne" => ((refine neN ?_; (try dsimp only); first | exact Ap.ne (by assumption) | exact Ap.swap (by assumption) | exact off_ne (by assumption) (by k_mem) | exact (off_ne (by assumption) (by k_mem)).symm | omega))
  k_with "m:k_all" => (first | exact Off.all (by assumption) | exact off_lt (by first | assumption | simp only [*]))
  k_with "m:size_fits" => ((simp only [List.size_toArray, PySem.sizeLine_eq]; omega))
  k_with "subscriptTail" => ((k_here; (with_reducible show wpAny _ _ (subscriptTail _ _ (Value.ref _) (Value.int (-1) _)) _ _ _); (with_unfolding_all refine' last_item ?k1 ?k2 ?_ ?k3; (case k1 => first | is_list | exact News.isList (by k_asm) (by k_mem)); (case k2 => assumption); (case k3 => with_unfolding_all rfl); k_whole)))
  k_with "exec Raise some none" => ((k_here; refine raise_D rfl ?_))
  k_with "call ref" => ((k_here; (with_reducible show wpAny _ _ (call (Value.ref 70) [Value.str _ _]) _ _ _); k_dflt (refine' bad_made ?k1 ?k2 ?k3 ?k4 ?k5 ?k6 ?k7 ?k8 ?_; (case k1 => k_asm); (case k2 => k_asm); (case k3 => k_asm); (case k4 => k_asm); (case k5 => k_asm); (case k6 => rfl); (case k7 => ktr_room); (case k8 => ktr_units); k_whole; intro e'z news'z h'z tk'z F'z N'z hin'z hX'z; (try k_sweep))))
  k_with "RaiseEnd" => ((k_here; refine raiseEnd_ (by k_asm) (by k_asm) (by k_asm) (by assumption) ?_))
  k_with "leaving ref" => ((k_here; first | (refine' leave_firstD ?k1 ?k2 ?k3 ?k4 ?k5 ?k6 ?_; (case k4 => assumption); (case k1 => assumption); (case k2 => assumption); (case k3 => k_asm); (case k5 => exact rfl); (case k6 => exact rfl); k_whole; intro h'z R'z; (try dsimp only at R'z ⊢)) | (refine' leave_onD ?k1 ?k2 ?kF ?k3 ?_; (case k3 => assumption); (case k1 => exact rfl); (case k2 => exact rfl); (case kF => assumption); k_whole; intro h'z R'z; (try dsimp only at R'z ⊢))))
  k_with "m:is_list" => (exact News.isList (by k_asm) (by k_mem))
  k_with "call builtin:len" => ((k_here; (with_reducible show wpAny _ _ (call (Value.builtin "len") [Value.ref _]) _ _ _); k_dflt (refine' len_led ?k1 ?k2 ?_; (case k1 => exact News.isList (by k_asm) (by k_mem)); (case k2 => ((try simp only [List.length_append, List.length_cons, List.length_nil] at *); omega)); intro t'z t2'z)))
  k_with "compareOp Eq ref ref" => ((k_here; (with_reducible show wpAny _ _ (compareOp CmpOp.Eq (Value.ref _) (Value.ref _)) _ _ _); k_dflt (refine' eq_empty ?k1 ?k2 ?k3 ?_; (case k1 => exact News.isList (by k_asm) (by k_mem)); (case k2 => exact News.isList (by k_asm) (by k_mem)); (case k3 => ktr_units))))
  k_with "call type:tuple" => ((k_here; (with_reducible show wpAny _ _ (call (Value.type _) [Value.ref _]) _ _ _); k_dflt (refine' tuple_led ?k1 ?k2 ?k3 ?k4 ?_; (case k1 => k_asm); (case k2 => k_asm); (case k3 => exact News.isList (by k_asm) (by k_mem)); (case k4 => ((try simp only [List.length_append, List.length_cons, List.length_nil] at *); omega)); k_whole; intro l'z h'z F'z N'z; (try k_sweep))))
  k_with "binaryOp Add ref ref" => ((k_here; (with_reducible show wpAny _ _ (binaryOp _ (Value.ref _) (Value.ref _)) _ _ _); k_dflt (refine' add_led ?k1 ?k2 ?k3 ?k5 ?k4 ?_; (case k1 => k_asm); (case k2 => k_asm); (case k3 => exact News.isList (by k_asm) (by k_mem)); (case k5 => exact News.isList (by k_asm) (by k_mem)); (case k4 => ((try simp only [List.length_append, List.length_cons, List.length_nil] at *); omega)); k_whole; intro l'z h'z F'z N'z l1; (try k_lt l1); (try k_sweep))))
  k_with "subscriptTail" => ((k_here; (with_reducible show wpAny _ _ (subscriptTail _ _ (Value.ref _) (Value.int 0 _)) _ _ _); (with_unfolding_all refine' first_item ?k1 ?k2 ?_ ?k3; (case k1 => exact News.isList (by k_asm) (by k_mem)); (case k2 => omega); (case k3 => with_unfolding_all rfl); k_whole; intro x'z)))
  k_with "call builtin:list.append" => ((k_here; (with_reducible show wpAny _ _ (call (Value.builtin _) [Value.ref _, _]) _ _ _); k_dflt (refine' append_led ?k1 ?k2 ?k3 ?k4 ?_; (case k1 => k_asm); (case k2 => k_asm); (case k3 => k_upd); (case k4 => ((try simp only [List.length_append, List.length_cons, List.length_nil] at *); omega)); k_whole); intro h'z F'z N'z; (try k_sweep)))
  k_with "ite" => ((k_closed; k_dflt (first | refine ite_pos (by decide +kernel) ?_ | refine ite_neg (by decide +kernel) ?_)))
  k_with "ite" => ((k_here; first | refine ite_pos (by with_reducible assumption) ?_ | refine ite_neg (ntt (by with_reducible assumption)) ?_))
  k_with "m:ktn_open" => (((repeat (refine InAll.cons (by k_mem) ?_)); (repeat (refine InAll.skip ?_)); exact InAll.refl _))
  k_with "call builtin:list.pop" => ((k_here; (with_reducible show wpAny _ _ (call (Value.builtin _) [Value.ref _]) _ _ _); k_dflt (refine' pop_end ?k1 ?k2 ?k3 ?k4 ?_; (case k1 => k_asm); (case k2 => k_asm); (case k3 => k_upd); (case k4 => ((try simp only [List.length_append, List.length_cons, List.length_nil] at *); omega)); k_whole); intro h'z F'z N'z; (try k_sweep)))
  k_with "eval Constant int" => ((k_here; refine const_int_mk ?_))
  k_with "eval Constant str" => ((k_here; refine const_str_mk ?_))
  k_with "binaryOp Add int int" => ((k_here; refine add_int_mk ?_))
  k_with "binaryOp Sub int int" => ((k_here; refine sub_int_mk ?_))
  k_with "exec While" => ((k_here; k_dflt (refine whl_start 100 ?_)))
  k_with "exec While BoolOp" => ((k_here; k_dflt (refine whl_start 100 ?_)))
  k_with "exec While BoolOp cons nil" => ((k_here; k_dflt (refine whl_start 100 ?_)))
  k_with "m:ktr_rel" => (first | exact InAll.refl _ | exact InAll.two (by k_mem) (by k_mem) | (refine InAll.skip ?_; ktr_rel) | (refine' InAll.seven ?a1 ?a2 ?a3 ?a4 ?a5 ?a6 ?a7 ?a8; (case a1 => k_mem); (case a2 => k_mem); (case a3 => k_mem); (case a4 => k_mem); (case a5 => k_mem); (case a6 => k_mem); (case a7 => k_mem); (case a8 => ((repeat (apply InAll.skip)); exact InAll.refl _))))
  k_with "call ref" => ((k_here; (with_reducible show wpAny _ _ (call (Value.ref 154) [_]) _ _ _); k_dflt (refine' Ctr.use (top_c ?m1 ?m2 ?m3 ?z) ?kB ?kF ?kX ?kN ?kI ?kT ?kk ?kd ?ku ?kG ?_ ?ke; (case kB => k_asm); (case kF => k_asm); (case kX => k_asm); (case kN => k_asm); (case kI => ktr_rel); (case m1 => k_mem); (case m2 => k_mem); (case m3 => k_mem); (case z => assumption); (case kT => k_asm); (case kk => exact rfl); (case kd => ktr_room); (case ku => ktr_units); (case kG => trivial); (case ke => (intro _ _ _ _ _ q; exact q.elim)); (intro v'z h'z tk'z led'z F'z N'z q'z; obtain ⟨e1'z, e2'z⟩ := q'z; subst e1'z e2'z; (try k_sweep)))))
  k_with "call ref" => ((k_here; (with_reducible show wpAny _ _ (call (Value.ref 77) [_, _]) _ _ _); k_dflt (refine' Ctr.use (sign_at_c ?m1 ?m2 ?m3 ?m4 ?z) ?kB ?kF ?kX ?kN ?kI ?kT ?kk ?kd ?ku ?kG ?_ ?ke; (case kB => k_asm); (case kF => k_asm); (case kX => k_asm); (case kN => k_asm); (case kI => ktr_rel); (case m1 => assumption); (case m2 => omega); (case m3 => assumption); (case m4 => assumption); (case z => first | assumption | (simp only [Int.add_assoc, Int.reduceAdd]; assumption)); (case kT => k_asm); (case kk => exact rfl); (case kd => ktr_room); (case ku => ktr_units); (case kG => assumption); (case ke => (intro _ _ _ _ _ q; exact q.elim)); (intro v'z h'z tk'z led'z F'z N'z q'z; obtain ⟨tk2'z, e1'z, e2'z⟩ := q'z; subst e1'z e2'z; (try k_sweep)))))
  k_with "call ref" => ((k_here; (with_reducible show wpAny _ _ (call _ (_ ++ _)) _ _ _); dsimp only [List.nil_append, List.cons_append]; walk_at "call ref"))
  trivial
theorem repeat_c {nd : List Value} {x : Value} {least most : Int} {ta tb : Tok} {gb : Bool} (dj : Dj p dp fl f df nl dn rest) (hz : nd.length ≤ 1000) (hzf : fs.length ≤ 1000) :
    Ctr w mean mg mb 189 [.ref p, .int least ta, .int most tb, .bool gb] (led7 p dp fl f df nl dn c ph fh pt ft pl gr nu t1 t2 t3 t4 wd lo fs (nd ++ [x]) ds n1 n2 n3 rest) 4 60 (fun _ => True)
      (fun r led' => r = .none ∧ ∃ y n2', led' = led7 p dp fl f df nl dn c ph fh pt ft pl gr nu t1 t2 t3 t4 wd lo fs (nd ++ [y]) ds n1 n2' n3 rest) (fun _ => False) := by
  intro dp' un gd cn cs a ccd cl outer A₀ base h₀ L m s Q E B F X N T hk hdp hun hG hret herr
  obtain ⟨d1, d2, d3, d4, d5, d6, d7, d8, d9, e1, e2, e3, e4, e5, e6, e7, e8, e9, g1, g2, g3, r1, r2, r3, r4, r5, r6, r7⟩ := dj
  refine wpAny_call ?_
  (k_dflt cell_enter)
  k_steps
  refine' hret _ _ _ (led7 p dp fl f df nl dn c ph fh pt ft pl gr nu t1 t2 t3 t4 wd lo fs (nd ++ [_]) ds n1 _ n3 rest) ?_ (sub_news ?_ ?_) ⟨rfl, _, _, rfl⟩ <;> first | (show News _ _ _ _; assumption) | (show Fr _ _ _ _; assumption) | (show InAll _ _; ktn_open) | skip
noncomputable abbrev tup2 (a b : Value) : Obj := { cls := .type "tuple", data := .seq #[a, b] }
theorem number_c0 {sg : PySem.Str} (hsg : sg = sS ":" ∨ sg = sS "x") (hi : IntsAre vs ns) (h0 : 0 ≤ pl) (hz : ns.length ≤ 1000) (hch : Asc ns) (hs : sgAt ns pl = sg) :
    Ctr w mean mg mb 236 [.ref p] (led7 p dp fl f df nl dn c ph fh pt ft pl gr nu t1 t2 t3 t4 wd lo fs nodes ds n1 n2 n3 rest) 4 60 (fun h₀ => h₀.IsList c vs.toArray)
      (fun v led' => ∃ t tk, v = .ref t ∧ AllLt t (led7 p dp fl f df nl dn c ph fh pt ft pl gr nu t1 t2 t3 t4 wd lo fs nodes ds n1 n2 n3 rest) ∧ led' = (t, tup2 (.int 0 tk) (.bool false)) :: led7 p dp fl f df nl dn c ph fh pt ft pl gr nu t1 t2 t3 t4 wd lo fs nodes ds n1 n2 n3 rest) (fun _ => False) := by
  intro dp' un gd cn cs a ccd cl outer A₀ base h₀ L m s Q E B F X N T hk hdp hun hG hret herr
  rcases hsg with rfl | rfl
  all_goals (refine wpAny_call ?_; (k_dflt cell_enter); (have hG' := Fr.lst (by assumption) hG); k_steps)
  all_goals (refine' hret _ _ _ ((_, tup2 (.int 0 _) (.bool false)) :: led7 p dp fl f df nl dn c ph fh pt ft pl gr nu t1 t2 t3 t4 wd lo fs nodes ds n1 n2 n3 rest) ?_ (sub_news ?_ ?_) ⟨_, _, rfl, ?_, rfl⟩ <;> first | (show News _ _ _ _; assumption) | (show Fr _ _ _ _; assumption) | (show InAll _ _; ktn_open) | (show AllLt _ _; refine ⟨?_, ?_, ?_, ?_, ?_, ?_, ?_, ?_⟩ <;> first | omega | (simp only [*])) | skip)
theorem sgAt_digit {ns : List Int} {i d : Int} (h : i < (ns.length : Int)) (e : ns.getD i.toNat 0 = 48 + d) : sgAt ns i = ⟨#[(48 + d).toNat]⟩ := by rw [sgAt_in h, e]
theorem digit_in {d : Int} (h0 : 0 ≤ d) (h9 : d ≤ 9) : (!(Builtin.Str.occurrences (PySem.Str.ofString "0123456789") ⟨#[(48 + d).toNat]⟩ 0 (PySem.Str.ofString "0123456789").length 1).isEmpty) = true := by
  have : d = 0 ∨ d = 1 ∨ d = 2 ∨ d = 3 ∨ d = 4 ∨ d = 5 ∨ d = 6 ∨ d = 7 ∨ d = 8 ∨ d = 9 := by omega
  rcases this with rfl | rfl | rfl | rfl | rfl | rfl | rfl | rfl | rfl | rfl <;> decide +kernel

noncomputable abbrev isDig (sg : PySem.Str) : Bool := !(Builtin.Str.occurrences (PySem.Str.ofString "0123456789") sg 0 (PySem.Str.ofString "0123456789").length 1).isEmpty
noncomputable def HoldMk4 : Prop := True
noncomputable def HoldN4 (p : Prop) : Prop := p
theorem holdN4_ {p : Prop} (h : HoldN4 p) : p := h
theorem rows_at8 : True := by
  k_with "call ref" => ((k_here; (with_reducible show wpAny _ _ (call (Value.ref 77) [_, Value.int (_ + 1) _]) _ _ _); (have mk9 : HoldMk4 := by with_reducible assumption); clear mk9; refine holdN4_ ?_))
  trivial
theorem number_c1 {d : Int} {sg : PySem.Str} (h0 : 0 ≤ pl) (hd0 : 0 ≤ d) (hd9 : d ≤ 9) (hlt : pl < (ns.length : Int)) (hd : ns.getD pl.toNat 0 = 48 + d) (hsg : sg = sS "" ∨ ((sg != PySem.Str.ofString "") = true ∧ isDig sg = false)) (dj : Dj p dp fl f df nl dn rest) (hi : IntsAre vs ns) (hz : ns.length ≤ 1000) (hch : Asc ns) (hs : sgAt ns (pl + 1) = sg) :
    Ctr w mean mg mb 236 [.ref p] (led7 p dp fl f df nl dn c ph fh pt ft pl gr nu t1 t2 t3 t4 wd lo fs nodes ds n1 n2 n3 rest) 4 60 (fun h₀ => h₀.IsList c vs.toArray)
      (fun v led' => ∃ t tk tk', v = .ref t ∧ AllLt t (led7 p dp fl f df nl dn c ph fh pt ft (pl + 1) gr nu tk' t2 t3 t4 wd lo fs nodes ds n1 n2 n3 rest) ∧ led' = (t, tup2 (.int d tk) (.bool true)) :: led7 p dp fl f df nl dn c ph fh pt ft (pl + 1) gr nu tk' t2 t3 t4 wd lo fs nodes ds n1 n2 n3 rest) (fun _ => False) := by
  intro dp' un gd cn cs a ccd cl outer A₀ base h₀ L m s Q E B F X N T hk hdp hun hG hret herr
  obtain ⟨d1, d2, d3, d4, d5, d6, d7, d8, d9, e1, e2, e3, e4, e5, e6, e7, e8, e9, g1, g2, g3, r1, r2, r3, r4, r5, r6, r7⟩ := dj
  have hs0 : sgAt ns pl = ⟨#[(48 + d).toNat]⟩ := sgAt_digit hlt hd
  have hin := digit_in hd0 hd9
  have hne : ((⟨#[(48 + d).toNat]⟩ : PySem.Str) != PySem.Str.ofString "") = true := by
    rw [bne_iff_ne]
    intro q
    have := congrArg (fun x : PySem.Str => x.cps.size) q
    simp at this
    exact absurd this (by decide +kernel)
  have mk : HoldMk4 := trivial
  refine wpAny_call ?_
  (k_dflt cell_enter)
  have hG' := Fr.lst (by assumption) hG
  k_steps
  unfold HoldN4
  clear mk
  rcases hsg with rfl | ⟨hn1, hn2⟩
  all_goals k_steps
  all_goals (have hv : 0 * 10 + ns.getD pl.toNat 0 - 48 = d := by omega)
  all_goals (rename News _ _ _ _ => N9; rw [hv] at N9)
  all_goals (refine' hret _ _ _ ((_, tup2 (.int d _) (.bool true)) :: led7 p dp fl f df nl dn c ph fh pt ft (pl + 1) gr nu _ t2 t3 t4 wd lo fs nodes ds n1 n2 n3 rest) ?_ (sub_news ?_ ?_) ⟨_, _, _, rfl, ?_, rfl⟩ <;> first | (show News _ _ _ _; assumption) | (show Fr _ _ _ _; assumption) | (show InAll _ _; ktn_open) | (show AllLt _ _; refine ⟨?_, ?_, ?_, ?_, ?_, ?_, ?_, ?_⟩ <;> first | omega | (simp only [*])) | skip)
end
section
variable {w : World} {mean : ExcName → Option Value} {mg mb : PySem.Str → Option Value} {p dp fl f df nl dn c : Addr} {ph fh : Nat → Int} {pt ft : Nat → Tok} {pl gr nu : Int} {t1 t2 t3 t4 : Tok} {wd : PySem.Str} {lo : Bool} {fs nodes ds : List Value} {n1 n2 n3 : Nat} {vs : List Value} {ns : List Int} {rest : Led}
theorem rows_at9 : True := by
  k_with_none
  k_with "m:k_ne" => ((refine neN ?_; (try dsimp only); first | exact Ap.ne (by assumption) | exact Ap.swap (by assumption) | exact off_ne (by assumption) (by k_mem) | exact (off_ne (by assumption) (by k_mem)).symm | omega))
  k_with "m:k_all" => (first | exact Off.all (by assumption) | exact off_lt (by first | assumption | simp only [*]))
  k_with "m:size_fits" => ((simp only [List.size_toArray, PySem.sizeLine_eq]; omega))
  k_with "subscriptTail" => ((k_here; (with_reducible show wpAny _ _ (subscriptTail _ _ (Value.ref _) (Value.int (-1) _)) _ _ _); (with_unfolding_all refine' last_item ?k1 ?k2 ?_ ?k3; (case k1 => first | is_list | exact News.isList (by k_asm) (by k_mem)); (case k2 => assumption); (case k3 => with_unfolding_all rfl); k_whole)))
  k_with "exec Raise some none" => ((k_here; refine raise_D rfl ?_))
  k_with "call ref" => ((k_here; (with_reducible show wpAny _ _ (call (Value.ref 70) [Value.str _ _]) _ _ _); k_dflt (refine' bad_made ?k1 ?k2 ?k3 ?k4 ?k5 ?k6 ?k7 ?k8 ?_; (case k1 => k_asm); (case k2 => k_asm); (case k3 => k_asm); (case k4 => k_asm); (case k5 => k_asm); (case k6 => rfl); (case k7 => ktr_room); (case k8 => ktr_units); k_whole; intro e'z news'z h'z tk'z F'z N'z hin'z hX'z; (try k_sweep))))
  k_with "RaiseEnd" => ((k_here; refine raiseEnd_ (by k_asm) (by k_asm) (by k_asm) (by assumption) ?_))
  k_with "leaving ref" => ((k_here; first | (refine' leave_firstD ?k1 ?k2 ?k3 ?k4 ?k5 ?k6 ?_; (case k4 => assumption); (case k1 => assumption); (case k2 => assumption); (case k3 => k_asm); (case k5 => exact rfl); (case k6 => exact rfl); k_whole; intro h'z R'z; (try dsimp only at R'z ⊢)) | (refine' leave_onD ?k1 ?k2 ?kF ?k3 ?_; (case k3 => assumption); (case k1 => exact rfl); (case k2 => exact rfl); (case kF => assumption); k_whole; intro h'z R'z; (try dsimp only at R'z ⊢))))
  k_with "m:is_list" => (exact News.isList (by k_asm) (by k_mem))
  k_with "call builtin:len" => ((k_here; (with_reducible show wpAny _ _ (call (Value.builtin "len") [Value.ref _]) _ _ _); k_dflt (refine' len_led ?k1 ?k2 ?_; (case k1 => exact News.isList (by k_asm) (by k_mem)); (case k2 => ((try simp only [List.length_append, List.length_cons, List.length_nil] at *); omega)); intro t'z t2'z)))
  k_with "compareOp Eq ref ref" => ((k_here; (with_reducible show wpAny _ _ (compareOp CmpOp.Eq (Value.ref _) (Value.ref _)) _ _ _); k_dflt (refine' eq_empty ?k1 ?k2 ?k3 ?_; (case k1 => exact News.isList (by k_asm) (by k_mem)); (case k2 => exact News.isList (by k_asm) (by k_mem)); (case k3 => ktr_units))))
  k_with "call type:tuple" => ((k_here; (with_reducible show wpAny _ _ (call (Value.type _) [Value.ref _]) _ _ _); k_dflt (refine' tuple_led ?k1 ?k2 ?k3 ?k4 ?_; (case k1 => k_asm); (case k2 => k_asm); (case k3 => exact News.isList (by k_asm) (by k_mem)); (case k4 => ((try simp only [List.length_append, List.length_cons, List.length_nil] at *); omega)); k_whole; intro l'z h'z F'z N'z; (try k_sweep))))
  k_with "binaryOp Add ref ref" => ((k_here; (with_reducible show wpAny _ _ (binaryOp _ (Value.ref _) (Value.ref _)) _ _ _); k_dflt (refine' add_led ?k1 ?k2 ?k3 ?k5 ?k4 ?_; (case k1 => k_asm); (case k2 => k_asm); (case k3 => exact News.isList (by k_asm) (by k_mem)); (case k5 => exact News.isList (by k_asm) (by k_mem)); (case k4 => ((try simp only [List.length_append, List.length_cons, List.length_nil] at *); omega)); k_whole; intro l'z h'z F'z N'z l1; (try k_lt l1); (try k_sweep))))
  k_with "subscriptTail" => ((k_here; (with_reducible show wpAny _ _ (subscriptTail _ _ (Value.ref _) (Value.int 0 _)) _ _ _); (with_unfolding_all refine' first_item ?k1 ?k2 ?_ ?k3; (case k1 => exact News.isList (by k_asm) (by k_mem)); (case k2 => omega); (case k3 => with_unfolding_all rfl); k_whole; intro x'z)))
  k_with "call builtin:list.append" => ((k_here; (with_reducible show wpAny _ _ (call (Value.builtin _) [Value.ref _, _]) _ _ _); k_dflt (refine' append_led ?k1 ?k2 ?k3 ?k4 ?_; (case k1 => k_asm); (case k2 => k_asm); (case k3 => k_upd); (case k4 => ((try simp only [List.length_append, List.length_cons, List.length_nil] at *); omega)); k_whole); intro h'z F'z N'z; (try k_sweep)))
  k_with "ite" => ((k_closed; k_dflt (first | refine ite_pos (by decide +kernel) ?_ | refine ite_neg (by decide +kernel) ?_)))
  k_with "ite" => ((k_here; first | refine ite_pos (by with_reducible assumption) ?_ | refine ite_neg (ntt (by with_reducible assumption)) ?_))
  k_with "m:ktn_open" => (((repeat (refine InAll.cons (by k_mem) ?_)); (repeat (refine InAll.skip ?_)); exact InAll.refl _))
  k_with "call builtin:list.pop" => ((k_here; (with_reducible show wpAny _ _ (call (Value.builtin _) [Value.ref _]) _ _ _); k_dflt (refine' pop_end ?k1 ?k2 ?k3 ?k4 ?_; (case k1 => k_asm); (case k2 => k_asm); (case k3 => k_upd); (case k4 => ((try simp only [List.length_append, List.length_cons, List.length_nil] at *); omega)); k_whole); intro h'z F'z N'z; (try k_sweep)))
  k_with "eval Constant int" => ((k_here; refine const_int_mk ?_))
  k_with "eval Constant str" => ((k_here; refine const_str_mk ?_))
  k_with "binaryOp Add int int" => ((k_here; refine add_int_mk ?_))
  k_with "binaryOp Sub int int" => ((k_here; refine sub_int_mk ?_))
  k_with "m:ktr_rel" => (first | exact InAll.refl _ | exact InAll.two (by k_mem) (by k_mem) | (refine InAll.skip ?_; ktr_rel) | (refine' InAll.seven ?a1 ?a2 ?a3 ?a4 ?a5 ?a6 ?a7 ?a8; (case a1 => k_mem); (case a2 => k_mem); (case a3 => k_mem); (case a4 => k_mem); (case a5 => k_mem); (case a6 => k_mem); (case a7 => k_mem); (case a8 => ((repeat (apply InAll.skip)); exact InAll.refl _))))
  k_with "call ref" => ((k_here; (with_reducible show wpAny _ _ (call (Value.ref 154) [_]) _ _ _); k_dflt (refine' Ctr.use (top_c ?m1 ?m2 ?m3 ?z) ?kB ?kF ?kX ?kN ?kI ?kT ?kk ?kd ?ku ?kG ?_ ?ke; (case kB => k_asm); (case kF => k_asm); (case kX => k_asm); (case kN => k_asm); (case kI => ktr_rel); (case m1 => k_mem); (case m2 => k_mem); (case m3 => k_mem); (case z => assumption); (case kT => k_asm); (case kk => exact rfl); (case kd => ktr_room); (case ku => ktr_units); (case kG => trivial); (case ke => (intro _ _ _ _ _ q; exact q.elim)); (intro v'z h'z tk'z led'z F'z N'z q'z; obtain ⟨e1'z, e2'z⟩ := q'z; subst e1'z e2'z; (try k_sweep)))))
  k_with "call ref" => ((k_here; (with_reducible show wpAny _ _ (call (Value.ref 77) [_, _]) _ _ _); k_dflt (refine' Ctr.use (sign_at_c ?m1 ?m2 ?m3 ?m4 ?z) ?kB ?kF ?kX ?kN ?kI ?kT ?kk ?kd ?ku ?kG ?_ ?ke; (case kB => k_asm); (case kF => k_asm); (case kX => k_asm); (case kN => k_asm); (case kI => ktr_rel); (case m1 => assumption); (case m2 => omega); (case m3 => assumption); (case m4 => assumption); (case z => first | assumption | (simp only [Int.add_assoc, Int.reduceAdd]; assumption)); (case kT => k_asm); (case kk => exact rfl); (case kd => ktr_room); (case ku => ktr_units); (case kG => assumption); (case ke => (intro _ _ _ _ _ q; exact q.elim)); (intro v'z h'z tk'z led'z F'z N'z q'z; obtain ⟨tk2'z, e1'z, e2'z⟩ := q'z; subst e1'z e2'z; (try k_sweep)))))
  k_with "call ref" => ((k_here; (with_reducible show wpAny _ _ (call (Value.ref 84) [_, _, _]) _ _ _); k_dflt (refine' Ctr.use (is_esc_t ?m1 ?m2 ?m3 ?m4 ?m5 ?m6) ?kB ?kF ?kX ?kN ?kI ?kT ?kk ?kd ?ku ?kG ?_ ?ke; (case kB => k_asm); (case kF => k_asm); (case kX => k_asm); (case kN => k_asm); (case kI => ktr_rel); (case m1 => assumption); (case m2 => omega); (case m3 => assumption); (case m4 => assumption); (case m5 => first | assumption | (simp only [Int.add_assoc, Int.reduceAdd]; assumption)); (case m6 => first | assumption | (simp only [Int.add_assoc, Int.reduceAdd]; assumption)); (case kT => k_asm); (case kk => exact rfl); (case kd => ktr_room); (case ku => ktr_units); (case kG => assumption); (case ke => (intro _ _ _ _ _ q; exact q.elim)); (intro v'z h'z tk'z led'z F'z N'z q'z; obtain ⟨e1'z, e2'z⟩ := q'z; subst e1'z e2'z; (try k_sweep)))))
  k_with "call ref" => ((k_here; (with_reducible show wpAny _ _ (call (Value.ref 84) [_, _, _]) _ _ _); k_dflt (refine' Ctr.use (is_esc_f ?m1 ?m2 ?m3 ?m4 ?m5) ?kB ?kF ?kX ?kN ?kI ?kT ?kk ?kd ?ku ?kG ?_ ?ke; (case kB => k_asm); (case kF => k_asm); (case kX => k_asm); (case kN => k_asm); (case kI => ktr_rel); (case m1 => assumption); (case m2 => omega); (case m3 => assumption); (case m4 => assumption); (case m5 => first | assumption | (simp only [Int.add_assoc, Int.reduceAdd]; assumption)); (case kT => k_asm); (case kk => exact rfl); (case kd => ktr_room); (case ku => ktr_units); (case kG => assumption); (case ke => (intro _ _ _ _ _ q; exact q.elim)); (intro v'z h'z tk'z led'z F'z N'z q'z; obtain ⟨e1'z, e2'z⟩ := q'z; subst e1'z e2'z; (try k_sweep)))))
  k_with "call ref" => ((k_here; (with_reducible show wpAny _ _ (call (Value.ref 236) [_]) _ _ _); k_dflt (refine' Ctr.use (number_c1 ?m1 ?m2 ?m3 ?m4 ?m5 ?m6 ?j ?m7 ?m8 ?m9 ?mz) ?kB ?kF ?kX ?kN ?kI ?kT ?kk ?kd ?ku ?kG ?_ ?ke; (case kB => k_asm); (case kF => k_asm); (case kX => k_asm); (case kN => k_asm); (case kI => ktr_rel); (case m5 => first | assumption | (simp only [Int.add_assoc, Int.reduceAdd]; assumption)); (case mz => first | assumption | (simp only [Int.add_assoc, Int.reduceAdd]; assumption)); (case m1 => omega); (case m2 => first | assumption | decide | omega); (case m3 => first | assumption | decide | omega); (case m4 => first | assumption | omega); (case m6 => first | exact Or.inl rfl | exact Or.inr ⟨by decide +kernel, by decide +kernel⟩); (case j => assumption); (case m7 => assumption); (case m8 => assumption); (case m9 => assumption); (case kT => k_asm); (case kk => exact rfl); (case kd => ktr_room); (case ku => ktr_units); (case kG => assumption); (case ke => (intro _ _ _ _ _ q; exact q.elim)); (intro v'z h'z tk'z led'z F'z N'z q'z; obtain ⟨t'z, tk2'z, tk3'z, e1'z, lt'z, e2'z⟩ := q'z; subst e1'z e2'z; (simp only [AllLt, and_true] at lt'z); (try k_sweep)))))
  k_with "call ref" => ((k_here; (with_reducible show wpAny _ _ (call _ (_ ++ _)) _ _ _); dsimp only [List.nil_append, List.cons_append]; walk_at "call ref"))
  trivial
/-- what stands behind «\{»: bounds that are read -/
inductive BndOk (ns : List Int) (pl : Int) : Int → Int → Int → Prop
  | two (d1 d2 : Int) (a1 : 0 ≤ d1) (a2 : d1 ≤ 9) (a3 : 0 ≤ d2) (a4 : d2 ≤ 9) (a5 : d1 ≤ d2) (lt : pl + 4 < (ns.length : Int)) (c0 : ns.getD pl.toNat 0 = 48 + d1) (s1 : sgAt ns (pl + 1) = sS ",") (c2 : ns.getD (pl + 2).toNat 0 = 48 + d2) (s3 : sgAt ns (pl + 3) = sS "\\") (s4 : sgAt ns (pl + 4) = sS "}") : BndOk ns pl d1 d2 5
  | one (d1 : Int) (a1 : 0 ≤ d1) (a2 : d1 ≤ 9) (lt : pl + 2 < (ns.length : Int)) (c0 : ns.getD pl.toNat 0 = 48 + d1) (s1 : sgAt ns (pl + 1) = sS "\\") (s2 : sgAt ns (pl + 2) = sS "}") : BndOk ns pl d1 d1 3
/-- bounds that are refused, with the words -/
inductive BndEr (ns : List Int) (pl : Int) : PySem.Str → Prop
  | two (d1 d2 : Int) (a1 : 0 ≤ d1) (a2 : d1 ≤ 9) (a3 : 0 ≤ d2) (a4 : d2 ≤ 9) (a5 : d2 < d1) (lt : pl + 4 < (ns.length : Int)) (c0 : ns.getD pl.toNat 0 = 48 + d1) (s1 : sgAt ns (pl + 1) = sS ",") (c2 : ns.getD (pl + 2).toNat 0 = 48 + d2) (s3 : sgAt ns (pl + 3) = sS "\\") (s4 : sgAt ns (pl + 4) = sS "}") : BndEr ns pl (sS "Invalid content of \\{\\}")
  | unm (d1 : Int) (a1 : 0 ≤ d1) (a2 : d1 ≤ 9) (lt : pl < (ns.length : Int)) (ge : ¬ pl + 1 < (ns.length : Int)) (c0 : ns.getD pl.toNat 0 = 48 + d1) (s1 : sgAt ns (pl + 1) = sS "") : BndEr ns pl (sS "Unmatched \\{")
  | badx (d1 : Int) (a1 : 0 ≤ d1) (a2 : d1 ≤ 9) (lt : pl + 1 < (ns.length : Int)) (c0 : ns.getD pl.toNat 0 = 48 + d1) (s1 : sgAt ns (pl + 1) = sS "x") : BndEr ns pl (sS "Invalid content of \\{\\}")

theorem bounds_c {least most k : Int} (hb : BndOk ns pl least most k) (h0 : 0 ≤ pl) (dj : Dj p dp fl f df nl dn rest) (hi : IntsAre vs ns) (hz : ns.length ≤ 1000) (hch : Asc ns) :
    Ctr w mean mg mb 243 [.ref p] (led7 p dp fl f df nl dn c ph fh pt ft pl gr nu t1 t2 t3 t4 wd lo fs nodes ds n1 n2 n3 rest) 8 120 (fun h₀ => h₀.IsList c vs.toArray)
      (fun v led' => ∃ t tk tk1 tk2, v = .ref t ∧ AllLt t (led7 p dp fl f df nl dn c ph fh pt ft (pl + k) gr nu tk2 t2 t3 t4 wd lo fs nodes ds n1 n2 n3 rest) ∧ led' = (t, tup2 (.int least tk) (.int most tk1)) :: led7 p dp fl f df nl dn c ph fh pt ft (pl + k) gr nu tk2 t2 t3 t4 wd lo fs nodes ds n1 n2 n3 rest) (fun _ => False) := by
  intro dp' un gd cn cs a ccd cl outer A₀ base h₀ L m s Q E B F X N T hk hdp hun hG hret herr
  have dj' := dj
  obtain ⟨d1, d2, d3, d4, d5, d6, d7, d8, d9, e1, e2, e3, e4, e5, e6, e7, e8, e9, g1, g2, g3, r1, r2, r3, r4, r5, r6, r7⟩ := dj'
  cases hb
  all_goals (refine wpAny_call ?_; (k_dflt cell_enter); (have hG' := Fr.lst (by assumption) hG); k_steps)
  all_goals (refine' hret _ _ _ ((_, tup2 (.int _ _) (.int _ _)) :: led7 p dp fl f df nl dn c ph fh pt ft (pl + _) gr nu _ t2 t3 t4 wd lo fs nodes ds n1 n2 n3 rest) ?_ (sub_news ?_ ?_) ⟨_, _, _, _, rfl, ?_, rfl⟩ <;> first | (show News _ _ _ _; assumption) | (show Fr _ _ _ _; assumption) | (show InAll _ _; (simp only [Int.add_assoc, Int.reduceAdd]); ktn_open) | (show AllLt _ _; refine ⟨?_, ?_, ?_, ?_, ?_, ?_, ?_, ?_⟩ <;> first | omega | (simp only [*])) | skip)

theorem bounds_e {msg : PySem.Str} (hb : BndEr ns pl msg) (h0 : 0 ≤ pl) (dj : Dj p dp fl f df nl dn rest) (hi : IntsAre vs ns) (hz : ns.length ≤ 1000) (hch : Asc ns) :
    Ctr w mean mg mb 243 [.ref p] (led7 p dp fl f df nl dn c ph fh pt ft pl gr nu t1 t2 t3 t4 wd lo fs nodes ds n1 n2 n3 rest) 8 200 (fun h₀ => h₀.IsList c vs.toArray)
      (fun _ _ => False) (fun x => x = msg) := by
  intro dp' un gd cn cs a ccd cl outer A₀ base h₀ L m s Q E B F X N T hk hdp hun hG hret herr
  have dj' := dj
  obtain ⟨d1, d2, d3, d4, d5, d6, d7, d8, d9, e1, e2, e3, e4, e5, e6, e7, e8, e9, g1, g2, g3, r1, r2, r3, r4, r5, r6, r7⟩ := dj'
  cases hb
  all_goals (refine wpAny_call ?_; (k_dflt cell_enter); (have hG' := Fr.lst (by assumption) hG); k_steps)
  all_goals exact herr _ _ _ _ _ rfl (by assumption) (by assumption)
end
section
variable {w : World} {mean : ExcName → Option Value} {mg mb : PySem.Str → Option Value} {p dp fl f df nl dn c : Addr} {ph fh : Nat → Int} {pt ft : Nat → Tok} {pl gr nu : Int} {t1 t2 t3 t4 : Tok} {wd : PySem.Str} {lo : Bool} {fs nodes ds : List Value} {n1 n2 n3 : Nat} {vs : List Value} {ns : List Int} {rest : Led}
theorem rows_at10 : True := by
  k_with_none
  k_with "m:k_ne" => ((refine neN ?_; (try dsimp only); first | exact Ap.ne (by assumption) | exact Ap.swap (by assumption) | exact off_ne (by assumption) (by k_mem) | exact (off_ne (by assumption) (by k_mem)).symm | omega))
  k_with "m:k_all" => (first | exact Off.all (by assumption) | exact off_lt (by first | assumption | simp only [*]))
  k_with "m:size_fits" => ((simp only [List.size_toArray, PySem.sizeLine_eq]; omega))
  k_with "subscriptTail" => ((k_here; (with_reducible show wpAny _ _ (subscriptTail _ _ (Value.ref _) (Value.int (-1) _)) _ _ _); (with_unfolding_all refine' last_item ?k1 ?k2 ?_ ?k3; (case k1 => first | is_list | exact News.isList (by k_asm) (by k_mem)); (case k2 => assumption); (case k3 => with_unfolding_all rfl); k_whole)))
  k_with "exec Raise some none" => ((k_here; refine raise_D rfl ?_))
  k_with "call ref" => ((k_here; (with_reducible show wpAny _ _ (call (Value.ref 70) [Value.str _ _]) _ _ _); k_dflt (refine' bad_made ?k1 ?k2 ?k3 ?k4 ?k5 ?k6 ?k7 ?k8 ?_; (case k1 => k_asm); (case k2 => k_asm); (case k3 => k_asm); (case k4 => k_asm); (case k5 => k_asm); (case k6 => rfl); (case k7 => ktr_room); (case k8 => ktr_units); k_whole; intro e'z news'z h'z tk'z F'z N'z hin'z hX'z; (try k_sweep))))
  k_with "RaiseEnd" => ((k_here; refine raiseEnd_ (by k_asm) (by k_asm) (by k_asm) (by assumption) ?_))
  k_with "leaving ref" => ((k_here; first | (refine' leave_firstD ?k1 ?k2 ?k3 ?k4 ?k5 ?k6 ?_; (case k4 => assumption); (case k1 => assumption); (case k2 => assumption); (case k3 => k_asm); (case k5 => exact rfl); (case k6 => exact rfl); k_whole; intro h'z R'z; (try dsimp only at R'z ⊢)) | (refine' leave_onD ?k1 ?k2 ?kF ?k3 ?_; (case k3 => assumption); (case k1 => exact rfl); (case k2 => exact rfl); (case kF => assumption); k_whole; intro h'z R'z; (try dsimp only at R'z ⊢))))
  k_with "m:is_list" => (exact News.isList (by k_asm) (by k_mem))
  k_with "call builtin:len" => ((k_here; (with_reducible show wpAny _ _ (call (Value.builtin "len") [Value.ref _]) _ _ _); k_dflt (refine' len_led ?k1 ?k2 ?_; (case k1 => exact News.isList (by k_asm) (by k_mem)); (case k2 => ((try simp only [List.length_append, List.length_cons, List.length_nil] at *); omega)); intro t'z t2'z)))
  k_with "compareOp Eq ref ref" => ((k_here; (with_reducible show wpAny _ _ (compareOp CmpOp.Eq (Value.ref _) (Value.ref _)) _ _ _); k_dflt (refine' eq_empty ?k1 ?k2 ?k3 ?_; (case k1 => exact News.isList (by k_asm) (by k_mem)); (case k2 => exact News.isList (by k_asm) (by k_mem)); (case k3 => ktr_units))))
  k_with "call type:tuple" => ((k_here; (with_reducible show wpAny _ _ (call (Value.type _) [Value.ref _]) _ _ _); k_dflt (refine' tuple_led ?k1 ?k2 ?k3 ?k4 ?_; (case k1 => k_asm); (case k2 => k_asm); (case k3 => exact News.isList (by k_asm) (by k_mem)); (case k4 => ((try simp only [List.length_append, List.length_cons, List.length_nil] at *); omega)); k_whole; intro l'z h'z F'z N'z; (try k_sweep))))
  k_with "binaryOp Add ref ref" => ((k_here; (with_reducible show wpAny _ _ (binaryOp _ (Value.ref _) (Value.ref _)) _ _ _); k_dflt (refine' add_led ?k1 ?k2 ?k3 ?k5 ?k4 ?_; (case k1 => k_asm); (case k2 => k_asm); (case k3 => exact News.isList (by k_asm) (by k_mem)); (case k5 => exact News.isList (by k_asm) (by k_mem)); (case k4 => ((try simp only [List.length_append, List.length_cons, List.length_nil] at *); omega)); k_whole; intro l'z h'z F'z N'z l1; (try k_lt l1); (try k_sweep))))
  k_with "subscriptTail" => ((k_here; (with_reducible show wpAny _ _ (subscriptTail _ _ (Value.ref _) (Value.int 0 _)) _ _ _); (with_unfolding_all refine' first_item ?k1 ?k2 ?_ ?k3; (case k1 => exact News.isList (by k_asm) (by k_mem)); (case k2 => omega); (case k3 => with_unfolding_all rfl); k_whole; intro x'z)))
  k_with "call builtin:list.append" => ((k_here; (with_reducible show wpAny _ _ (call (Value.builtin _) [Value.ref _, _]) _ _ _); k_dflt (refine' append_led ?k1 ?k2 ?k3 ?k4 ?_; (case k1 => k_asm); (case k2 => k_asm); (case k3 => k_upd); (case k4 => ((try simp only [List.length_append, List.length_cons, List.length_nil] at *); omega)); k_whole); intro h'z F'z N'z; (try k_sweep)))
  k_with "ite" => ((k_closed; k_dflt (first | refine ite_pos (by decide +kernel) ?_ | refine ite_neg (by decide +kernel) ?_)))
  k_with "ite" => ((k_here; first | refine ite_pos (by with_reducible assumption) ?_ | refine ite_neg (ntt (by with_reducible assumption)) ?_))
  k_with "m:ktn_open" => (((repeat (refine InAll.cons (by k_mem) ?_)); (repeat (refine InAll.skip ?_)); exact InAll.refl _))
  k_with "call builtin:list.pop" => ((k_here; (with_reducible show wpAny _ _ (call (Value.builtin _) [Value.ref _]) _ _ _); k_dflt (refine' pop_end ?k1 ?k2 ?k3 ?k4 ?_; (case k1 => k_asm); (case k2 => k_asm); (case k3 => k_upd); (case k4 => ((try simp only [List.length_append, List.length_cons, List.length_nil] at *); omega)); k_whole); intro h'z F'z N'z; (try k_sweep)))
  k_with "eval Constant int" => ((k_here; refine const_int_mk ?_))
  k_with "eval Constant str" => ((k_here; refine const_str_mk ?_))
  k_with "binaryOp Add int int" => ((k_here; refine add_int_mk ?_))
  k_with "binaryOp Sub int int" => ((k_here; refine sub_int_mk ?_))
  k_with "m:ktr_rel" => (first | exact InAll.refl _ | exact InAll.two (by k_mem) (by k_mem) | (refine InAll.skip ?_; ktr_rel) | (refine' InAll.seven ?a1 ?a2 ?a3 ?a4 ?a5 ?a6 ?a7 ?a8; (case a1 => k_mem); (case a2 => k_mem); (case a3 => k_mem); (case a4 => k_mem); (case a5 => k_mem); (case a6 => k_mem); (case a7 => k_mem); (case a8 => ((repeat (apply InAll.skip)); exact InAll.refl _))))
  k_with "call ref" => ((k_here; (with_reducible show wpAny _ _ (call (Value.ref 154) [_]) _ _ _); k_dflt (refine' Ctr.use (top_c ?m1 ?m2 ?m3 ?z) ?kB ?kF ?kX ?kN ?kI ?kT ?kk ?kd ?ku ?kG ?_ ?ke; (case kB => k_asm); (case kF => k_asm); (case kX => k_asm); (case kN => k_asm); (case kI => ktr_rel); (case m1 => k_mem); (case m2 => k_mem); (case m3 => k_mem); (case z => assumption); (case kT => k_asm); (case kk => exact rfl); (case kd => ktr_room); (case ku => ktr_units); (case kG => trivial); (case ke => (intro _ _ _ _ _ q; exact q.elim)); (intro v'z h'z tk'z led'z F'z N'z q'z; obtain ⟨e1'z, e2'z⟩ := q'z; subst e1'z e2'z; (try k_sweep)))))
  k_with "call ref" => ((k_here; (with_reducible show wpAny _ _ (call (Value.ref 112) [_, _]) _ _ _); k_dflt (refine' Ctr.use (put_c ?j ?z) ?kB ?kF ?kX ?kN ?kI ?kT ?kk ?kd ?ku ?kG ?_ ?ke; (case kB => k_asm); (case kF => k_asm); (case kX => k_asm); (case kN => k_asm); (case kI => ktr_rel); (case j => assumption); (case z => first | assumption | omega); (case kT => k_asm); (case kk => exact rfl); (case kd => ktr_room); (case ku => ktr_units); (case kG => trivial); (case ke => (intro _ _ _ _ _ q; exact q.elim)); (intro v'z h'z tk'z led'z F'z N'z q'z; obtain ⟨e1'z, n2'z, e2'z⟩ := q'z; subst e1'z e2'z; (try k_sweep)))))
  k_with "call ref" => ((k_here; (with_reducible show wpAny _ _ (call (Value.ref 189) [_, _, _, _]) _ _ _); k_dflt (refine' Ctr.use (repeat_c ?j ?z ?z2) ?kB ?kF ?kX ?kN ?kI ?kT ?kk ?kd ?ku ?kG ?_ ?ke; (case kB => k_asm); (case kF => k_asm); (case kX => k_asm); (case kN => k_asm); (case kI => ktr_rel); (case j => assumption); (case z => assumption); (case z2 => assumption); (case kT => k_asm); (case kk => exact rfl); (case kd => ktr_room); (case ku => ktr_units); (case kG => trivial); (case ke => (intro _ _ _ _ _ q; exact q.elim)); (intro v'z h'z tk'z led'z F'z N'z q'z; obtain ⟨e1'z, y'z, n2'z, e2'z⟩ := q'z; subst e1'z e2'z; (try k_sweep)))))
  k_with "call ref" => ((k_here; (with_reducible show wpAny _ _ (call (Value.ref 243) [_]) _ _ _); k_dflt (refine' Ctr.use (bounds_c ?b ?m1 ?j ?m2 ?m3 ?m4) ?kB ?kF ?kX ?kN ?kI ?kT ?kk ?kd ?ku ?kG ?_ ?ke; (case kB => k_asm); (case kF => k_asm); (case kX => k_asm); (case kN => k_asm); (case kI => ktr_rel); (case b => assumption); (case m1 => omega); (case j => assumption); (case m2 => assumption); (case m3 => assumption); (case m4 => assumption); (case kT => k_asm); (case kk => exact rfl); (case kd => ktr_room); (case ku => ktr_units); (case kG => assumption); (case ke => (intro _ _ _ _ _ q; exact q.elim)); (intro v'z h'z tk'z led'z F'z N'z q'z; obtain ⟨t'z, tk2'z, tk3'z, tk4'z, e1'z, lt'z, e2'z⟩ := q'z; subst e1'z e2'z; (simp only [AllLt, and_true] at lt'z); (try k_sweep)))))
  k_with "call ref" => ((k_here; (with_reducible show wpAny _ _ (call (Value.ref 243) [_]) _ _ _); k_dflt (refine' Ctr.useE (bounds_e ?b ?m1 ?j ?m2 ?m3 ?m4) ?kB ?kF ?kX ?kN ?kI ?kT ?kk ?kd ?ku ?kG ?_; (case kB => k_asm); (case kF => k_asm); (case kX => k_asm); (case kN => k_asm); (case kI => ktr_rel); (case b => assumption); (case m1 => omega); (case j => assumption); (case m2 => assumption); (case m3 => assumption); (case m4 => assumption); (case kT => k_asm); (case kk => exact rfl); (case kd => ktr_room); (case ku => ktr_units); (case kG => assumption); k_whole; intro e'z g'z h'z tk'z FG'z R'z; (try dsimp only at R'z ⊢))))
  k_with "call ref" => ((k_here; (with_reducible show wpAny _ _ (call _ (_ ++ _)) _ _ _); dsimp only [List.nil_append, List.cons_append]; walk_at "call ref"))
  trivial
/-- all addresses of a ledger differ -/
noncomputable def Dd (l : Led) : Prop := l.Pairwise fun a b => a.1 ≠ b.1
theorem Dj.of {o1 o2 o3 o4 o5 o6 o7 : Obj} (d : Dd ((p, o1) :: (dp, o2) :: (fl, o3) :: (f, o4) :: (df, o5) :: (nl, o6) :: (dn, o7) :: rest)) : Dj p dp fl f df nl dn rest := by
  simp only [Dd, List.pairwise_cons, List.mem_cons, forall_eq_or_imp] at d
  obtain ⟨⟨a1, a2, a3, a4, a5, a6, r1⟩, ⟨a7, a8, a9, b1, b2, r2⟩, ⟨b3, b4, b5, b6, r3⟩, ⟨b7, b8, b9, r4⟩, ⟨c1, c2, r5⟩, ⟨c3, r6⟩, r7, _⟩ := d
  exact ⟨a1, a2, a3, a4, a5, a6, a7, a8, a9, b1, b2, b3, b4, b5, b6, b7, b8, b9, c1, c2, c3, fun q hq => Ne.symm (r1 q hq), fun q hq => Ne.symm (r2 q hq), fun q hq => Ne.symm (r3 q hq), fun q hq => Ne.symm (r4 q hq), fun q hq => Ne.symm (r5 q hq), fun q hq => Ne.symm (r6 q hq), fun q hq => Ne.symm (r7 q hq)⟩
theorem counted_l {least most k : Int} (hb : BndOk ns pl least most k) (h0 : 0 ≤ pl) (dj : Dj p dp fl f df nl dn rest) (hi : IntsAre vs ns) (hz : ns.length ≤ 1000) (hch : Asc ns) (hzf : fs.length ≤ 1000) (hzn : nodes.length ≤ 1000) :
    Ctr w mean mg mb 250 [.ref p] (led7 p dp fl f df nl dn c ph fh pt ft pl gr nu t1 t2 t3 t4 wd true fs nodes ds n1 n2 n3 rest) 10 200 (fun h₀ => h₀.IsList c vs.toArray)
      (fun r led' => r = .none ∧ ∃ v n2' tk, led' = led7 p dp fl f df nl dn c ph fh pt ft pl gr nu tk t2 t3 t4 wd false fs (nodes ++ [v]) ds n1 n2' n3 rest) (fun _ => False) := by
  intro dp' un gd cn cs a ccd cl outer A₀ base h₀ L m s Q E B F X N T hk hdp hun hG hret herr
  have dj' := dj
  obtain ⟨d1, d2, d3, d4, d5, d6, d7, d8, d9, e1, e2, e3, e4, e5, e6, e7, e8, e9, g1, g2, g3, r1, r2, r3, r4, r5, r6, r7⟩ := dj'
  refine wpAny_call ?_
  (k_dflt cell_enter)
  have hG' := Fr.lst (by assumption) hG
  k_steps
  exact hret _ _ _ _ (by assumption) (by assumption) ⟨rfl, _, _, _, rfl⟩
theorem counted_t {least most k : Int} {nd : List Value} {x : Value} (hb : BndOk ns pl least most k) (h0 : 0 ≤ pl) (dj : Dj p dp fl f df nl dn rest) (hi : IntsAre vs ns) (hz : ns.length ≤ 1000) (hch : Asc ns) (hzf : fs.length ≤ 1000) (hzn : nd.length ≤ 1000) :
    Ctr w mean mg mb 250 [.ref p] (led7 p dp fl f df nl dn c ph fh pt ft pl gr nu t1 t2 t3 t4 wd false fs (nd ++ [x]) ds n1 n2 n3 rest) 10 200 (fun h₀ => h₀.IsList c vs.toArray)
      (fun r led' => r = .none ∧ ∃ y n2' tk, led' = led7 p dp fl f df nl dn c ph fh pt ft (pl + k) gr nu tk t2 t3 t4 wd false fs (nd ++ [y]) ds n1 n2' n3 rest) (fun _ => False) := by
  intro dp' un gd cn cs a ccd cl outer A₀ base h₀ L m s Q E B F X N T hk hdp hun hG hret herr
  have dj' := dj
  obtain ⟨d1, d2, d3, d4, d5, d6, d7, d8, d9, e1, e2, e3, e4, e5, e6, e7, e8, e9, g1, g2, g3, r1, r2, r3, r4, r5, r6, r7⟩ := dj'
  refine wpAny_call ?_
  (k_dflt cell_enter)
  have hG' := Fr.lst (by assumption) hG
  k_steps
  exact hret _ _ _ _ (by assumption) (by assumption) ⟨rfl, _, _, _, rfl⟩
theorem counted_e {msg : PySem.Str} (hb : BndEr ns pl msg) (h0 : 0 ≤ pl) (dj : Dj p dp fl f df nl dn rest) (hi : IntsAre vs ns) (hz : ns.length ≤ 1000) (hch : Asc ns) :
    Ctr w mean mg mb 250 [.ref p] (led7 p dp fl f df nl dn c ph fh pt ft pl gr nu t1 t2 t3 t4 wd lo fs nodes ds n1 n2 n3 rest) 10 300 (fun h₀ => h₀.IsList c vs.toArray)
      (fun _ _ => False) (fun x => x = msg) := by
  intro dp' un gd cn cs a ccd cl outer A₀ base h₀ L m s Q E B F X N T hk hdp hun hG hret herr
  refine wpAny_call ?_
  (k_dflt cell_enter)
  have hG' := Fr.lst (by assumption) hG
  k_steps
  exact herr _ _ _ _ _ rfl (by assumption) (by assumption)
end
section
variable {w : World} {mean : ExcName → Option Value} {mg mb : PySem.Str → Option Value} {p dp fl f df nl dn c : Addr} {ph fh : Nat → Int} {pt ft : Nat → Tok} {pl gr nu : Int} {t1 t2 t3 t4 : Tok} {wd : PySem.Str} {lo : Bool} {fs nodes ds : List Value} {n1 n2 n3 : Nat} {vs : List Value} {ns : List Int} {rest : Led}
theorem rows_at11 : True := by
  k_with_none
  k_with "m:k_ne" => ((refine neN ?_; (try dsimp only); first | exact Ap.ne (by assumption) | exact Ap.swap (by assumption) | exact off_ne (by assumption) (by k_mem) | exact (off_ne (by assumption) (by k_mem)).symm | omega))
  k_with "m:k_all" => (first | exact Off.all (by assumption) | exact off_lt (by first | assumption | simp only [*]))
  k_with "m:size_fits" => ((simp only [List.size_toArray, PySem.sizeLine_eq]; omega))
  k_with "subscriptTail" => ((k_here; (with_reducible show wpAny _ _ (subscriptTail _ _ (Value.ref _) (Value.int (-1) _)) _ _ _); (with_unfolding_all refine' last_item ?k1 ?k2 ?_ ?k3; (case k1 => first | is_list | exact News.isList (by k_asm) (by k_mem)); (case k2 => assumption); (case k3 => with_unfolding_all rfl); k_whole)))
  k_with "exec Raise some none" => ((k_here; refine raise_D rfl ?_))
  k_with "call ref" => ((k_here; (with_reducible show wpAny _ _ (call (Value.ref 70) [Value.str _ _]) _ _ _); k_dflt (refine' bad_made ?k1 ?k2 ?k3 ?k4 ?k5 ?k6 ?k7 ?k8 ?_; (case k1 => k_asm); (case k2 => k_asm); (case k3 => k_asm); (case k4 => k_asm); (case k5 => k_asm); (case k6 => rfl); (case k7 => ktr_room); (case k8 => ktr_units); k_whole; intro e'z news'z h'z tk'z F'z N'z hin'z hX'z; (try k_sweep))))
  k_with "RaiseEnd" => ((k_here; refine raiseEnd_ (by k_asm) (by k_asm) (by k_asm) (by assumption) ?_))
  k_with "leaving ref" => ((k_here; first | (refine' leave_firstD ?k1 ?k2 ?k3 ?k4 ?k5 ?k6 ?_; (case k4 => assumption); (case k1 => assumption); (case k2 => assumption); (case k3 => k_asm); (case k5 => exact rfl); (case k6 => exact rfl); k_whole; intro h'z R'z; (try dsimp only at R'z ⊢)) | (refine' leave_onD ?k1 ?k2 ?kF ?k3 ?_; (case k3 => assumption); (case k1 => exact rfl); (case k2 => exact rfl); (case kF => assumption); k_whole; intro h'z R'z; (try dsimp only at R'z ⊢))))
  k_with "m:is_list" => (exact News.isList (by k_asm) (by k_mem))
  k_with "call builtin:len" => ((k_here; (with_reducible show wpAny _ _ (call (Value.builtin "len") [Value.ref _]) _ _ _); k_dflt (refine' len_led ?k1 ?k2 ?_; (case k1 => exact News.isList (by k_asm) (by k_mem)); (case k2 => ((try simp only [List.length_append, List.length_cons, List.length_nil] at *); omega)); intro t'z t2'z)))
  k_with "compareOp Eq ref ref" => ((k_here; (with_reducible show wpAny _ _ (compareOp CmpOp.Eq (Value.ref _) (Value.ref _)) _ _ _); k_dflt (refine' eq_empty ?k1 ?k2 ?k3 ?_; (case k1 => exact News.isList (by k_asm) (by k_mem)); (case k2 => exact News.isList (by k_asm) (by k_mem)); (case k3 => ktr_units))))
  k_with "call type:tuple" => ((k_here; (with_reducible show wpAny _ _ (call (Value.type _) [Value.ref _]) _ _ _); k_dflt (refine' tuple_led ?k1 ?k2 ?k3 ?k4 ?_; (case k1 => k_asm); (case k2 => k_asm); (case k3 => exact News.isList (by k_asm) (by k_mem)); (case k4 => ((try simp only [List.length_append, List.length_cons, List.length_nil] at *); omega)); k_whole; intro l'z h'z F'z N'z; (try k_sweep))))
  k_with "binaryOp Add ref ref" => ((k_here; (with_reducible show wpAny _ _ (binaryOp _ (Value.ref _) (Value.ref _)) _ _ _); k_dflt (refine' add_led ?k1 ?k2 ?k3 ?k5 ?k4 ?_; (case k1 => k_asm); (case k2 => k_asm); (case k3 => exact News.isList (by k_asm) (by k_mem)); (case k5 => exact News.isList (by k_asm) (by k_mem)); (case k4 => ((try simp only [List.length_append, List.length_cons, List.length_nil] at *); omega)); k_whole; intro l'z h'z F'z N'z l1; (try k_lt l1); (try k_sweep))))
  k_with "subscriptTail" => ((k_here; (with_reducible show wpAny _ _ (subscriptTail _ _ (Value.ref _) (Value.int 0 _)) _ _ _); (with_unfolding_all refine' first_item ?k1 ?k2 ?_ ?k3; (case k1 => exact News.isList (by k_asm) (by k_mem)); (case k2 => omega); (case k3 => with_unfolding_all rfl); k_whole; intro x'z)))
  k_with "call builtin:list.append" => ((k_here; (with_reducible show wpAny _ _ (call (Value.builtin _) [Value.ref _, _]) _ _ _); k_dflt (refine' append_led ?k1 ?k2 ?k3 ?k4 ?_; (case k1 => k_asm); (case k2 => k_asm); (case k3 => k_upd); (case k4 => ((try simp only [List.length_append, List.length_cons, List.length_nil] at *); omega)); k_whole); intro h'z F'z N'z; (try k_sweep)))
  k_with "ite" => ((k_closed; k_dflt (first | refine ite_pos (by decide +kernel) ?_ | refine ite_neg (by decide +kernel) ?_)))
  k_with "ite" => ((k_here; first | refine ite_pos (by with_reducible assumption) ?_ | refine ite_neg (ntt (by with_reducible assumption)) ?_))
  k_with "m:ktn_open" => (((repeat (refine InAll.cons (by k_mem) ?_)); (repeat (refine InAll.skip ?_)); exact InAll.refl _))
  k_with "call builtin:list.pop" => ((k_here; (with_reducible show wpAny _ _ (call (Value.builtin _) [Value.ref _]) _ _ _); k_dflt (refine' pop_end ?k1 ?k2 ?k3 ?k4 ?_; (case k1 => k_asm); (case k2 => k_asm); (case k3 => k_upd); (case k4 => ((try simp only [List.length_append, List.length_cons, List.length_nil] at *); omega)); k_whole); intro h'z F'z N'z; (try k_sweep)))
  k_with "eval Constant int" => ((k_here; refine const_int_mk ?_))
  k_with "eval Constant str" => ((k_here; refine const_str_mk ?_))
  k_with "binaryOp Add int int" => ((k_here; refine add_int_mk ?_))
  k_with "binaryOp Sub int int" => ((k_here; refine sub_int_mk ?_))
  k_with "m:ktr_rel" => (first | exact InAll.refl _ | exact InAll.two (by k_mem) (by k_mem) | (refine InAll.skip ?_; ktr_rel) | (refine' InAll.seven ?a1 ?a2 ?a3 ?a4 ?a5 ?a6 ?a7 ?a8; (case a1 => k_mem); (case a2 => k_mem); (case a3 => k_mem); (case a4 => k_mem); (case a5 => k_mem); (case a6 => k_mem); (case a7 => k_mem); (case a8 => ((repeat (apply InAll.skip)); exact InAll.refl _))))
  k_with "call ref" => ((k_here; (with_reducible show wpAny _ _ (call (Value.ref 154) [_]) _ _ _); k_dflt (refine' Ctr.use (top_c ?m1 ?m2 ?m3 ?z) ?kB ?kF ?kX ?kN ?kI ?kT ?kk ?kd ?ku ?kG ?_ ?ke; (case kB => k_asm); (case kF => k_asm); (case kX => k_asm); (case kN => k_asm); (case kI => ktr_rel); (case m1 => k_mem); (case m2 => k_mem); (case m3 => k_mem); (case z => assumption); (case kT => k_asm); (case kk => exact rfl); (case kd => ktr_room); (case ku => ktr_units); (case kG => trivial); (case ke => (intro _ _ _ _ _ q; exact q.elim)); (intro v'z h'z tk'z led'z F'z N'z q'z; obtain ⟨e1'z, e2'z⟩ := q'z; subst e1'z e2'z; (try k_sweep)))))
  k_with "call ref" => ((k_here; (with_reducible show wpAny _ _ (call (Value.ref 112) [_, _]) _ _ _); k_dflt (refine' Ctr.use (put_c ?j ?z) ?kB ?kF ?kX ?kN ?kI ?kT ?kk ?kd ?ku ?kG ?_ ?ke; (case kB => k_asm); (case kF => k_asm); (case kX => k_asm); (case kN => k_asm); (case kI => ktr_rel); (case j => assumption); (case z => first | assumption | omega); (case kT => k_asm); (case kk => exact rfl); (case kd => ktr_room); (case ku => ktr_units); (case kG => trivial); (case ke => (intro _ _ _ _ _ q; exact q.elim)); (intro v'z h'z tk'z led'z F'z N'z q'z; obtain ⟨e1'z, n2'z, e2'z⟩ := q'z; subst e1'z e2'z; (try k_sweep)))))
  k_with "call ref" => ((k_here; (with_reducible show wpAny _ _ (call (Value.ref 161) [_]) _ _ _); k_dflt (refine' Ctr.use (sign_c ?j ?m1 ?m2 ?m3 ?m4 ?m5 ?z) ?kB ?kF ?kX ?kN ?kI ?kT ?kk ?kd ?ku ?kG ?_ ?ke; (case kB => k_asm); (case kF => k_asm); (case kX => k_asm); (case kN => k_asm); (case kI => ktr_rel); (case j => assumption); (case m1 => assumption); (case m2 => omega); (case m3 => assumption); (case m4 => assumption); (case m5 => first | assumption | omega); (case z => first | assumption | (simp only [Int.add_assoc, Int.reduceAdd]; assumption)); (case kT => k_asm); (case kk => exact rfl); (case kd => ktr_room); (case ku => ktr_units); (case kG => assumption); (case ke => (intro _ _ _ _ _ q; exact q.elim)); (intro v'z h'z tk'z led'z F'z N'z q'z; obtain ⟨tk2'z, tk3'z, e1'z, e2'z⟩ := q'z; subst e1'z e2'z; (try k_sweep)))))
  k_with "call ref" => ((k_here; (with_reducible show wpAny _ _ (call _ (_ ++ _)) _ _ _); dsimp only [List.nil_append, List.cons_append]; walk_at "call ref"))
  trivial
theorem by_syntax_c (hs : sgAt ns pl = sS "w") (hlt : pl < (ns.length : Int)) (h0 : 0 ≤ pl) (dj : Dj p dp fl f df nl dn rest) (hi : IntsAre vs ns) (hz : ns.length ≤ 1000) (hch : Asc ns) (hzf : fs.length ≤ 1000) (hzn : nodes.length ≤ 1000) :
    Ctr w mean mg mb 203 [.ref p, .bool false] (led7 p dp fl f df nl dn c ph fh pt ft pl gr nu t1 t2 t3 t4 wd lo fs nodes ds n1 n2 n3 rest) 6 100 (fun h₀ => h₀.IsList c vs.toArray)
      (fun r led' => r = .none ∧ ∃ v n2' tk, led' = led7 p dp fl f df nl dn c ph fh pt ft (pl + 1) gr nu tk t2 t3 t4 wd false fs (nodes ++ [v]) ds n1 n2' n3 rest) (fun _ => False) := by
  intro dp' un gd cn cs a ccd cl outer A₀ base h₀ L m s Q E B F X N T hk hdp hun hG hret herr
  refine wpAny_call ?_
  (k_dflt cell_enter)
  have hG' := Fr.lst (by assumption) hG
  k_steps
  exact hret _ _ _ _ (by assumption) (by assumption) ⟨rfl, _, _, _, rfl⟩
theorem by_syntax_e (hs : sgAt ns pl = sS "q") (hlt : pl < (ns.length : Int)) (h0 : 0 ≤ pl) (dj : Dj p dp fl f df nl dn rest) (hi : IntsAre vs ns) (hz : ns.length ≤ 1000) (hch : Asc ns) :
    Ctr w mean mg mb 203 [.ref p, .bool false] (led7 p dp fl f df nl dn c ph fh pt ft pl gr nu t1 t2 t3 t4 wd lo fs nodes ds n1 n2 n3 rest) 6 150 (fun h₀ => h₀.IsList c vs.toArray)
      (fun _ _ => False) (fun x => x = sS "Invalid syntax designator") := by
  intro dp' un gd cn cs a ccd cl outer A₀ base h₀ L m s Q E B F X N T hk hdp hun hG hret herr
  refine wpAny_call ?_
  (k_dflt cell_enter)
  have hG' := Fr.lst (by assumption) hG
  k_steps
  exact herr _ _ _ _ _ rfl (by assumption) (by assumption)
theorem by_symbol_c (hs : sgAt ns pl = sS "<") (hlt : pl < (ns.length : Int)) (h0 : 0 ≤ pl) (dj : Dj p dp fl f df nl dn rest) (hi : IntsAre vs ns) (hz : ns.length ≤ 1000) (hch : Asc ns) (hzf : fs.length ≤ 1000) (hzn : nodes.length ≤ 1000) :
    Ctr w mean mg mb 210 [.ref p] (led7 p dp fl f df nl dn c ph fh pt ft pl gr nu t1 t2 t3 t4 wd lo fs nodes ds n1 n2 n3 rest) 6 100 (fun h₀ => h₀.IsList c vs.toArray)
      (fun r led' => r = .none ∧ ∃ v n2' tk, led' = led7 p dp fl f df nl dn c ph fh pt ft (pl + 1) gr nu tk t2 t3 t4 wd false fs (nodes ++ [v]) ds n1 n2' n3 rest) (fun _ => False) := by
  intro dp' un gd cn cs a ccd cl outer A₀ base h₀ L m s Q E B F X N T hk hdp hun hG hret herr
  refine wpAny_call ?_
  (k_dflt cell_enter)
  have hG' := Fr.lst (by assumption) hG
  k_steps
  exact hret _ _ _ _ (by assumption) (by assumption) ⟨rfl, _, _, _, rfl⟩
theorem by_symbol_e (hs : sgAt ns pl = sS "x") (hlt : pl < (ns.length : Int)) (h0 : 0 ≤ pl) (dj : Dj p dp fl f df nl dn rest) (hi : IntsAre vs ns) (hz : ns.length ≤ 1000) (hch : Asc ns) :
    Ctr w mean mg mb 210 [.ref p] (led7 p dp fl f df nl dn c ph fh pt ft pl gr nu t1 t2 t3 t4 wd lo fs nodes ds n1 n2 n3 rest) 6 150 (fun h₀ => h₀.IsList c vs.toArray)
      (fun _ _ => False) (fun x => x = sS "Invalid regular expression") := by
  intro dp' un gd cn cs a ccd cl outer A₀ base h₀ L m s Q E B F X N T hk hdp hun hG hret herr
  refine wpAny_call ?_
  (k_dflt cell_enter)
  have hG' := Fr.lst (by assumption) hG
  k_steps
  exact herr _ _ _ _ _ rfl (by assumption) (by assumption)
end
section
variable {w : World} {mean : ExcName → Option Value} {mg mb : PySem.Str → Option Value} {p dp fl f df nl dn c : Addr} {ph fh : Nat → Int} {pt ft : Nat → Tok} {pl gr nu : Int} {t1 t2 t3 t4 : Tok} {wd : PySem.Str} {lo : Bool} {fs nodes ds : List Value} {n1 n2 n3 : Nat} {vs : List Value} {ns : List Int} {rest : Led}
theorem rows_at12 : True := by
  k_with_none
  k_with "m:k_ne" => ((refine neN ?_; (try dsimp only); first | exact Ap.ne (by assumption) | exact Ap.swap (by assumption) | exact off_ne (by assumption) (by k_mem) | exact (off_ne (by assumption) (by k_mem)).symm | omega))
  k_with "m:k_all" => (first | exact Off.all (by assumption) | exact off_lt (by first | assumption | simp only [*]))
  k_with "m:size_fits" => ((simp only [List.size_toArray, PySem.sizeLine_eq]; omega))
  k_with "subscriptTail" => ((k_here; (with_reducible show wpAny _ _ (subscriptTail _ _ (Value.ref _) (Value.int (-1) _)) _ _ _); (with_unfolding_all refine' last_item ?k1 ?k2 ?_ ?k3; (case k1 => first | is_list | exact News.isList (by k_asm) (by k_mem)); (case k2 => assumption); (case k3 => with_unfolding_all rfl); k_whole)))
  k_with "exec Raise some none" => ((k_here; refine raise_D rfl ?_))
  k_with "call ref" => ((k_here; (with_reducible show wpAny _ _ (call (Value.ref 70) [Value.str _ _]) _ _ _); k_dflt (refine' bad_made ?k1 ?k2 ?k3 ?k4 ?k5 ?k6 ?k7 ?k8 ?_; (case k1 => k_asm); (case k2 => k_asm); (case k3 => k_asm); (case k4 => k_asm); (case k5 => k_asm); (case k6 => rfl); (case k7 => ktr_room); (case k8 => ktr_units); k_whole; intro e'z news'z h'z tk'z F'z N'z hin'z hX'z; (try k_sweep))))
  k_with "RaiseEnd" => ((k_here; refine raiseEnd_ (by k_asm) (by k_asm) (by k_asm) (by assumption) ?_))
  k_with "leaving ref" => ((k_here; first | (refine' leave_firstD ?k1 ?k2 ?k3 ?k4 ?k5 ?k6 ?_; (case k4 => assumption); (case k1 => assumption); (case k2 => assumption); (case k3 => k_asm); (case k5 => exact rfl); (case k6 => exact rfl); k_whole; intro h'z R'z; (try dsimp only at R'z ⊢)) | (refine' leave_onD ?k1 ?k2 ?kF ?k3 ?_; (case k3 => assumption); (case k1 => exact rfl); (case k2 => exact rfl); (case kF => assumption); k_whole; intro h'z R'z; (try dsimp only at R'z ⊢))))
  k_with "m:is_list" => (exact News.isList (by k_asm) (by k_mem))
  k_with "call builtin:len" => ((k_here; (with_reducible show wpAny _ _ (call (Value.builtin "len") [Value.ref _]) _ _ _); k_dflt (refine' len_led ?k1 ?k2 ?_; (case k1 => exact News.isList (by k_asm) (by k_mem)); (case k2 => ((try simp only [List.length_append, List.length_cons, List.length_nil] at *); omega)); intro t'z t2'z)))
  k_with "compareOp Eq ref ref" => ((k_here; (with_reducible show wpAny _ _ (compareOp CmpOp.Eq (Value.ref _) (Value.ref _)) _ _ _); k_dflt (refine' eq_empty ?k1 ?k2 ?k3 ?_; (case k1 => exact News.isList (by k_asm) (by k_mem)); (case k2 => exact News.isList (by k_asm) (by k_mem)); (case k3 => ktr_units))))
  k_with "call type:tuple" => ((k_here; (with_reducible show wpAny _ _ (call (Value.type _) [Value.ref _]) _ _ _); k_dflt (refine' tuple_led ?k1 ?k2 ?k3 ?k4 ?_; (case k1 => k_asm); (case k2 => k_asm); (case k3 => exact News.isList (by k_asm) (by k_mem)); (case k4 => ((try simp only [List.length_append, List.length_cons, List.length_nil] at *); omega)); k_whole; intro l'z h'z F'z N'z; (try k_sweep))))
  k_with "binaryOp Add ref ref" => ((k_here; (with_reducible show wpAny _ _ (binaryOp _ (Value.ref _) (Value.ref _)) _ _ _); k_dflt (refine' add_led ?k1 ?k2 ?k3 ?k5 ?k4 ?_; (case k1 => k_asm); (case k2 => k_asm); (case k3 => exact News.isList (by k_asm) (by k_mem)); (case k5 => exact News.isList (by k_asm) (by k_mem)); (case k4 => ((try simp only [List.length_append, List.length_cons, List.length_nil] at *); omega)); k_whole; intro l'z h'z F'z N'z l1; (try k_lt l1); (try k_sweep))))
  k_with "subscriptTail" => ((k_here; (with_reducible show wpAny _ _ (subscriptTail _ _ (Value.ref _) (Value.int 0 _)) _ _ _); (with_unfolding_all refine' first_item ?k1 ?k2 ?_ ?k3; (case k1 => exact News.isList (by k_asm) (by k_mem)); (case k2 => omega); (case k3 => with_unfolding_all rfl); k_whole; intro x'z)))
  k_with "call builtin:list.append" => ((k_here; (with_reducible show wpAny _ _ (call (Value.builtin _) [Value.ref _, _]) _ _ _); k_dflt (refine' append_led ?k1 ?k2 ?k3 ?k4 ?_; (case k1 => k_asm); (case k2 => k_asm); (case k3 => k_upd); (case k4 => ((try simp only [List.length_append, List.length_cons, List.length_nil] at *); omega)); k_whole); intro h'z F'z N'z; (try k_sweep)))
  k_with "ite" => ((k_closed; k_dflt (first | refine ite_pos (by decide +kernel) ?_ | refine ite_neg (by decide +kernel) ?_)))
  k_with "ite" => ((k_here; first | refine ite_pos (by with_reducible assumption) ?_ | refine ite_neg (ntt (by with_reducible assumption)) ?_))
  k_with "m:ktn_open" => (((repeat (refine InAll.cons (by k_mem) ?_)); (repeat (refine InAll.skip ?_)); exact InAll.refl _))
  k_with "call builtin:list.pop" => ((k_here; (with_reducible show wpAny _ _ (call (Value.builtin _) [Value.ref _]) _ _ _); k_dflt (refine' pop_end ?k1 ?k2 ?k3 ?k4 ?_; (case k1 => k_asm); (case k2 => k_asm); (case k3 => k_upd); (case k4 => ((try simp only [List.length_append, List.length_cons, List.length_nil] at *); omega)); k_whole); intro h'z F'z N'z; (try k_sweep)))
  k_with "eval Constant int" => ((k_here; refine const_int_mk ?_))
  k_with "eval Constant str" => ((k_here; refine const_str_mk ?_))
  k_with "binaryOp Add int int" => ((k_here; refine add_int_mk ?_))
  k_with "binaryOp Sub int int" => ((k_here; refine sub_int_mk ?_))
  k_with "m:ktr_rel" => (first | exact InAll.refl _ | exact InAll.two (by k_mem) (by k_mem) | (refine InAll.skip ?_; ktr_rel) | (refine' InAll.seven ?a1 ?a2 ?a3 ?a4 ?a5 ?a6 ?a7 ?a8; (case a1 => k_mem); (case a2 => k_mem); (case a3 => k_mem); (case a4 => k_mem); (case a5 => k_mem); (case a6 => k_mem); (case a7 => k_mem); (case a8 => ((repeat (apply InAll.skip)); exact InAll.refl _))))
  k_with "call ref" => ((k_here; (with_reducible show wpAny _ _ (call (Value.ref 154) [_]) _ _ _); k_dflt (refine' Ctr.use (top_c ?m1 ?m2 ?m3 ?z) ?kB ?kF ?kX ?kN ?kI ?kT ?kk ?kd ?ku ?kG ?_ ?ke; (case kB => k_asm); (case kF => k_asm); (case kX => k_asm); (case kN => k_asm); (case kI => ktr_rel); (case m1 => k_mem); (case m2 => k_mem); (case m3 => k_mem); (case z => assumption); (case kT => k_asm); (case kk => exact rfl); (case kd => ktr_room); (case ku => ktr_units); (case kG => trivial); (case ke => (intro _ _ _ _ _ q; exact q.elim)); (intro v'z h'z tk'z led'z F'z N'z q'z; obtain ⟨e1'z, e2'z⟩ := q'z; subst e1'z e2'z; (try k_sweep)))))
  k_with "call ref" => ((k_here; (with_reducible show wpAny _ _ (call (Value.ref 77) [_, _]) _ _ _); k_dflt (refine' Ctr.use (sign_at_c ?m1 ?m2 ?m3 ?m4 ?z) ?kB ?kF ?kX ?kN ?kI ?kT ?kk ?kd ?ku ?kG ?_ ?ke; (case kB => k_asm); (case kF => k_asm); (case kX => k_asm); (case kN => k_asm); (case kI => ktr_rel); (case m1 => assumption); (case m2 => omega); (case m3 => assumption); (case m4 => assumption); (case z => first | assumption | (simp only [Int.add_assoc, Int.reduceAdd]; assumption)); (case kT => k_asm); (case kk => exact rfl); (case kd => ktr_room); (case ku => ktr_units); (case kG => assumption); (case ke => (intro _ _ _ _ _ q; exact q.elim)); (intro v'z h'z tk'z led'z F'z N'z q'z; obtain ⟨tk2'z, e1'z, e2'z⟩ := q'z; subst e1'z e2'z; (try k_sweep)))))
  k_with "call ref" => ((k_here; (with_reducible show wpAny _ _ (call (Value.ref 129) [_, _]) _ _ _); k_dflt (refine' Ctr.use (mk_c) ?kB ?kF ?kX ?kN ?kI ?kT ?kk ?kd ?ku ?kG ?_ ?ke; (case kB => k_asm); (case kF => k_asm); (case kX => k_asm); (case kN => k_asm); (case kI => first | exact InAll.refl ((_, instObj 253 _) :: _) | (refine InAll.skip ?_; exact InAll.refl ((_, instObj 253 _) :: _)) | exact InAll.refl _); (case kT => k_asm); (case kk => exact rfl); (case kd => ktr_room); (case ku => ktr_units); (case kG => trivial); (case ke => (intro _ _ _ _ _ q; exact q.elim)); (intro v'z h'z tk'z led'z F'z N'z q'z; obtain ⟨f'z, df'z, nl'z, dn'z, fh'z, ft'z, n2'z, n3'z, e1'z, e2'z, ap'z, o1'z, o2'z, o3'z, o4'z⟩ := q'z; subst e1'z e2'z; (try k_sweep)))))
  k_with "call ref" => ((k_here; (with_reducible show wpAny _ _ (call (Value.ref 236) [_]) _ _ _); k_dflt (refine' Ctr.use (number_c0 ?m1 ?m2 ?m3 ?m4 ?m5 ?m6) ?kB ?kF ?kX ?kN ?kI ?kT ?kk ?kd ?ku ?kG ?_ ?ke; (case kB => k_asm); (case kF => k_asm); (case kX => k_asm); (case kN => k_asm); (case kI => ktr_rel); (case m6 => first | assumption | (simp only [Int.add_assoc, Int.reduceAdd]; assumption)); (case m1 => first | exact Or.inl rfl | exact Or.inr rfl); (case m2 => assumption); (case m3 => omega); (case m4 => assumption); (case m5 => assumption); (case kT => k_asm); (case kk => exact rfl); (case kd => ktr_room); (case ku => ktr_units); (case kG => assumption); (case ke => (intro _ _ _ _ _ q; exact q.elim)); (intro v'z h'z tk'z led'z F'z N'z q'z; obtain ⟨t'z, tk2'z, e1'z, lt'z, e2'z⟩ := q'z; subst e1'z e2'z; (simp only [AllLt, and_true] at lt'z); (try k_sweep)))))
  k_with "call ref" => ((k_here; (with_reducible show wpAny _ _ (call (Value.ref 236) [_]) _ _ _); k_dflt (refine' Ctr.use (number_c1 ?m1 ?m2 ?m3 ?m4 ?m5 ?m6 ?j ?m7 ?m8 ?m9 ?mz) ?kB ?kF ?kX ?kN ?kI ?kT ?kk ?kd ?ku ?kG ?_ ?ke; (case kB => k_asm); (case kF => k_asm); (case kX => k_asm); (case kN => k_asm); (case kI => ktr_rel); (case m5 => first | assumption | (simp only [Int.add_assoc, Int.reduceAdd]; assumption)); (case mz => first | assumption | (simp only [Int.add_assoc, Int.reduceAdd]; assumption)); (case m1 => omega); (case m2 => first | assumption | decide | omega); (case m3 => first | assumption | decide | omega); (case m4 => first | assumption | omega); (case m6 => first | exact Or.inl rfl | exact Or.inr ⟨by decide +kernel, by decide +kernel⟩); (case j => assumption); (case m7 => assumption); (case m8 => assumption); (case m9 => assumption); (case kT => k_asm); (case kk => exact rfl); (case kd => ktr_room); (case ku => ktr_units); (case kG => assumption); (case ke => (intro _ _ _ _ _ q; exact q.elim)); (intro v'z h'z tk'z led'z F'z N'z q'z; obtain ⟨t'z, tk2'z, tk3'z, e1'z, lt'z, e2'z⟩ := q'z; subst e1'z e2'z; (simp only [AllLt, and_true] at lt'z); (try k_sweep)))))
  k_with "call ref" => ((k_here; (with_reducible show wpAny _ _ (call (Value.ref 112) [_, _]) _ _ _); k_dflt (refine' Ctr.use (put_c ?j ?z) ?kB ?kF ?kX ?kN ?kI ?kT ?kk ?kd ?ku ?kG ?_ ?ke; (case kB => k_asm); (case kF => k_asm); (case kX => k_asm); (case kN => k_asm); (case kI => ktr_rel); (case j => assumption); (case z => first | assumption | omega); (case kT => k_asm); (case kk => exact rfl); (case kd => ktr_room); (case ku => ktr_units); (case kG => trivial); (case ke => (intro _ _ _ _ _ q; exact q.elim)); (intro v'z h'z tk'z led'z F'z N'z q'z; obtain ⟨e1'z, n2'z, e2'z⟩ := q'z; subst e1'z e2'z; (try k_sweep)))))
  k_with "call ref" => ((k_here; (with_reducible show wpAny _ _ (call (Value.ref 126) [_]) _ _ _); k_dflt (refine' Ctr.use (node_c ?z1 ?z2) ?kB ?kF ?kX ?kN ?kI ?kT ?kk ?kd ?ku ?kG ?_ ?ke; (case kB => k_asm); (case kF => k_asm); (case kX => k_asm); (case kN => k_asm); (case kI => exact InAll.cons (by k_mem) (InAll.cons (by k_mem) (InAll.cons (by k_mem) (InAll.cons (by k_mem) (InAll.refl _))))); (case z1 => assumption); (case z2 => assumption); (case kT => k_asm); (case kk => exact rfl); (case kd => ktr_room); (case ku => ktr_units); (case kG => trivial); (case ke => (intro _ _ _ _ _ q; exact q.elim)); (intro v'z h'z tk'z led'z F'z N'z e2'z; subst e2'z; (try k_sweep)))))
  k_with "call ref" => ((k_here; (with_reducible show wpAny _ _ (call _ (_ ++ _)) _ _ _); dsimp only [List.nil_append, List.cons_append]; walk_at "call ref"))
  trivial
noncomputable abbrev isQ (sg : PySem.Str) : Bool := sg != PySem.Str.ofString "?"
theorem dd_map {l : Led} : Dd l ↔ (l.map (·.1)).Pairwise (· ≠ ·) := List.pairwise_map.symm
theorem off_map {l : Led} {a : Addr} (h : Off l a) : ∀ x ∈ l.map (·.1), a ≠ x := fun x hx => by
  obtain ⟨q, hq, rfl⟩ := List.mem_map.mp hx
  exact (h q hq).symm
theorem Dd.push {f' df' nl' dn' : Addr} {o1 o2 o3 o4 o5 o6 o7 q1 q2 q3 q4 q5 q6 q7 r1 r2 r3 r4 r5 r6 r7 s1 s2 s3 s4 : Obj} (d : Dd ((p, o1) :: (dp, o2) :: (fl, o3) :: (f, o4) :: (df, o5) :: (nl, o6) :: (dn, o7) :: rest))
    (ap : Ap f' df' ∧ Ap f' nl' ∧ Ap f' dn' ∧ Ap df' nl' ∧ Ap df' dn' ∧ Ap nl' dn')
    (u1 : Off ((p, q1) :: (dp, q2) :: (fl, q3) :: (f, q4) :: (df, q5) :: (nl, q6) :: (dn, q7) :: rest) f') (u2 : Off ((p, q1) :: (dp, q2) :: (fl, q3) :: (f, q4) :: (df, q5) :: (nl, q6) :: (dn, q7) :: rest) df')
    (u3 : Off ((p, q1) :: (dp, q2) :: (fl, q3) :: (f, q4) :: (df, q5) :: (nl, q6) :: (dn, q7) :: rest) nl') (u4 : Off ((p, q1) :: (dp, q2) :: (fl, q3) :: (f, q4) :: (df, q5) :: (nl, q6) :: (dn, q7) :: rest) dn') :
    Dd ((p, r1) :: (dp, r2) :: (fl, r3) :: (f', r4) :: (df', r5) :: (nl', r6) :: (dn', r7) :: (f, s1) :: (df, s2) :: (nl, s3) :: (dn, s4) :: rest) := by
  obtain ⟨x1, x2, x3, x4, x5, x6⟩ := ap
  refine dd_map.mpr ?_
  have k : (p :: dp :: fl :: f :: df :: nl :: dn :: rest.map (·.1)).Pairwise Ap := dd_map.mp d
  have w1 : ∀ x ∈ p :: dp :: fl :: f :: df :: nl :: dn :: rest.map (·.1), Ap f' x := off_map u1
  have w2 : ∀ x ∈ p :: dp :: fl :: f :: df :: nl :: dn :: rest.map (·.1), Ap df' x := off_map u2
  have w3 : ∀ x ∈ p :: dp :: fl :: f :: df :: nl :: dn :: rest.map (·.1), Ap nl' x := off_map u3
  have w4 : ∀ x ∈ p :: dp :: fl :: f :: df :: nl :: dn :: rest.map (·.1), Ap dn' x := off_map u4
  have n := List.Pairwise.cons (List.forall_mem_cons.mpr ⟨x1, List.forall_mem_cons.mpr ⟨x2, List.forall_mem_cons.mpr ⟨x3, w1⟩⟩⟩)
    (List.Pairwise.cons (List.forall_mem_cons.mpr ⟨x4, List.forall_mem_cons.mpr ⟨x5, w2⟩⟩) (List.Pairwise.cons (List.forall_mem_cons.mpr ⟨x6, w3⟩) (List.Pairwise.cons w4 k)))
  have e : ([f', df', nl', dn'] ++ [p, dp, fl] ++ (f :: df :: nl :: dn :: rest.map Prod.fst)).Pairwise Ap := n
  exact ((List.Perm.append_right _ List.perm_append_comm).pairwise_iff (R := Ap) (fun h => Ne.symm h)).mp e
/-- what a group that is opened leaves: the frame is pushed -/
noncomputable def Opened (p dp fl f df nl dn c : Addr) (ph fh : Nat → Int) (pt ft : Nat → Tok) (pl gr nu : Int) (t3 t4 : Tok) (wd : PySem.Str) (lo : Bool) (fs nodes ds : List Value) (n2 n3 : Nat) (rest : Led) (pl' gr' nu' : Int) (wd' : PySem.Str) (led' : Led) : Prop :=
  ∃ f' df' nl' dn' fh' ft' n1' n2' n3' u1 u2 u3 u4, Dd led' ∧ led' = led7 p dp fl f' df' nl' dn' c ph fh' pt ft' pl' gr' nu' u1 u2 u3 u4 wd' true (fs ++ [.ref f]) [] [] n1' n2' n3' ((f, instObj 129 df) :: (df, fDict fh ft wd t3 nu t4 dn nl lo) :: (nl, lst nodes n2) :: (dn, lst ds n3) :: rest)
theorem opened_end {h₀ h : Heap} {L f' df' nl' dn' : Addr} {fh' : Nat → Int} {ft' : Nat → Tok} {pl' gr' nu' : Int} {wd' : PySem.Str} {k1 k2 k3 k4 : Tok} {n1' n2' n3' : Nat} {o1 o2 o3 o4 o5 o6 o7 q1 q2 q3 q4 q5 q6 q7 : Obj}
    (N : News h₀ L h (frLed f' df' nl' dn' fh' ft' nu' k3 k4 wd' true [] [] n2' n3' ((p, instObj 253 dp) :: (dp, pDict ph pt c pl' k1 fl gr' k2) :: (fl, lst (fs ++ [.ref f] ++ [.ref f']) n1') :: (f, instObj 129 df) :: (df, fDict fh ft wd t3 nu t4 dn nl lo) :: (nl, lst nodes n2) :: (dn, lst ds n3) :: rest)))
    (d : Dd ((p, o1) :: (dp, o2) :: (fl, o3) :: (f, o4) :: (df, o5) :: (nl, o6) :: (dn, o7) :: rest))
    (ap : Ap f' df' ∧ Ap f' nl' ∧ Ap f' dn' ∧ Ap df' nl' ∧ Ap df' dn' ∧ Ap nl' dn')
    (u1 : Off ((p, q1) :: (dp, q2) :: (fl, q3) :: (f, q4) :: (df, q5) :: (nl, q6) :: (dn, q7) :: rest) f') (u2 : Off ((p, q1) :: (dp, q2) :: (fl, q3) :: (f, q4) :: (df, q5) :: (nl, q6) :: (dn, q7) :: rest) df')
    (u3 : Off ((p, q1) :: (dp, q2) :: (fl, q3) :: (f, q4) :: (df, q5) :: (nl, q6) :: (dn, q7) :: rest) nl') (u4 : Off ((p, q1) :: (dp, q2) :: (fl, q3) :: (f, q4) :: (df, q5) :: (nl, q6) :: (dn, q7) :: rest) dn') :
    ∃ led', News h₀ L h led' ∧ Opened p dp fl f df nl dn c ph fh pt ft pl gr nu t3 t4 wd lo fs nodes ds n2 n3 rest pl' gr' nu' wd' led' := by
  refine ⟨_, ?_, f', df', nl', dn', fh', ft', n1', n2', n3', k1, k2, k3, k4, Dd.push d ap u1 u2 u3 u4, rfl⟩
  refine sub_news N ?_
  ktn_open
theorem opened_p {sg : PySem.Str} (hs : sgAt ns pl = sg) (hq : isQ sg = true) (h0 : 0 ≤ pl) (dd : Dd (led7 p dp fl f df nl dn c ph fh pt ft pl gr nu t1 t2 t3 t4 wd lo fs nodes ds n1 n2 n3 rest)) (hi : IntsAre vs ns) (hz : ns.length ≤ 1000) (hch : Asc ns) (hzf : fs.length ≤ 1000) :
    Ctr w mean mg mb 222 [.ref p] (led7 p dp fl f df nl dn c ph fh pt ft pl gr nu t1 t2 t3 t4 wd lo fs nodes ds n1 n2 n3 rest) 8 120 (fun h₀ => h₀.IsList c vs.toArray)
      (fun r led' => r = .none ∧ Opened p dp fl f df nl dn c ph fh pt ft pl gr nu t3 t4 wd lo fs nodes ds n2 n3 rest pl (gr + 1) (gr + 1) (sS "group") led') (fun _ => False) := by
  intro dp' un gd cn cs a ccd cl outer A₀ base h₀ L m s Q E B F X N T hk hdp hun hG hret herr
  obtain ⟨d1, d2, d3, d4, d5, d6, d7, d8, d9, e1, e2, e3, e4, e5, e6, e7, e8, e9, g1, g2, g3, r1, r2, r3, r4, r5, r6, r7⟩ := Dj.of dd
  refine wpAny_call ?_
  (k_dflt cell_enter)
  have hG' := Fr.lst (by assumption) hG
  k_steps
  obtain ⟨led', N9, O9⟩ := opened_end (sub_news (by assumption) (by ktn_open)) dd (by assumption) (off_sub (by assumption) (by ktn_open)) (off_sub (by assumption) (by ktn_open)) (off_sub (by assumption) (by ktn_open)) (off_sub (by assumption) (by ktn_open))
  exact hret _ _ _ _ (by assumption) N9 ⟨rfl, O9⟩
theorem opened_s (hs : sgAt ns pl = sS "?") (hs1 : sgAt ns (pl + 1) = sS ":") (h0 : 0 ≤ pl) (dd : Dd (led7 p dp fl f df nl dn c ph fh pt ft pl gr nu t1 t2 t3 t4 wd lo fs nodes ds n1 n2 n3 rest)) (hi : IntsAre vs ns) (hz : ns.length ≤ 1000) (hch : Asc ns) (hzf : fs.length ≤ 1000) :
    Ctr w mean mg mb 222 [.ref p] (led7 p dp fl f df nl dn c ph fh pt ft pl gr nu t1 t2 t3 t4 wd lo fs nodes ds n1 n2 n3 rest) 8 120 (fun h₀ => h₀.IsList c vs.toArray)
      (fun r led' => r = .none ∧ Opened p dp fl f df nl dn c ph fh pt ft pl gr nu t3 t4 wd lo fs nodes ds n2 n3 rest (pl + 1 + 1) gr 0 (sS "shy") led') (fun _ => False) := by
  intro dp' un gd cn cs a ccd cl outer A₀ base h₀ L m s Q E B F X N T hk hdp hun hG hret herr
  obtain ⟨d1, d2, d3, d4, d5, d6, d7, d8, d9, e1, e2, e3, e4, e5, e6, e7, e8, e9, g1, g2, g3, r1, r2, r3, r4, r5, r6, r7⟩ := Dj.of dd
  refine wpAny_call ?_
  (k_dflt cell_enter)
  have hG' := Fr.lst (by assumption) hG
  k_steps
  obtain ⟨led', N9, O9⟩ := opened_end (sub_news (by assumption) (by ktn_open)) dd (by assumption) (off_sub (by assumption) (by ktn_open)) (off_sub (by assumption) (by ktn_open)) (off_sub (by assumption) (by ktn_open)) (off_sub (by assumption) (by ktn_open))
  exact hret _ _ _ _ (by assumption) N9 ⟨rfl, O9⟩
theorem opened_t {d : Int} (hs : sgAt ns pl = sS "?") (hd1 : 1 ≤ d) (hd9 : d ≤ 9) (c1 : ns.getD (pl + 1).toNat 0 = 48 + d) (hs2 : sgAt ns (pl + 2) = sS ":") (hlt : pl + 2 < (ns.length : Int)) (h0 : 0 ≤ pl) (dd : Dd (led7 p dp fl f df nl dn c ph fh pt ft pl gr nu t1 t2 t3 t4 wd lo fs nodes ds n1 n2 n3 rest)) (hi : IntsAre vs ns) (hz : ns.length ≤ 1000) (hch : Asc ns) (hzf : fs.length ≤ 1000) :
    Ctr w mean mg mb 222 [.ref p] (led7 p dp fl f df nl dn c ph fh pt ft pl gr nu t1 t2 t3 t4 wd lo fs nodes ds n1 n2 n3 rest) 8 120 (fun h₀ => h₀.IsList c vs.toArray)
      (fun r led' => r = .none ∧ Opened p dp fl f df nl dn c ph fh pt ft pl gr nu t3 t4 wd lo fs nodes ds n2 n3 rest (pl + 1 + 1 + 1) (if d > gr then d else gr) d (sS "group") led') (fun _ => False) := by
  intro dp' un gd cn cs a ccd cl outer A₀ base h₀ L m s Q E B F X N T hk hdp hun hG hret herr
  have dj := Dj.of dd
  obtain ⟨d1, d2, d3, d4, d5, d6, d7, d8, d9, e1, e2, e3, e4, e5, e6, e7, e8, e9, g1, g2, g3, r1, r2, r3, r4, r5, r6, r7⟩ := Dj.of dd
  refine wpAny_call ?_
  (k_dflt cell_enter)
  have hG' := Fr.lst (by assumption) hG
  have q1 : decide (d = 0) = false := decide_eq_false (by omega)
  have q2 : (d == 0) = false := by simpa using q1
  have q3 : ¬ d = 0 := by omega
  k_steps
  · obtain ⟨led', N9, O9⟩ := opened_end (sub_news (by assumption) (by ktn_open)) dd (by assumption) (off_sub (by assumption) (by ktn_open)) (off_sub (by assumption) (by ktn_open)) (off_sub (by assumption) (by ktn_open)) (off_sub (by assumption) (by ktn_open))
    exact hret _ _ _ _ (by assumption) N9 ⟨rfl, O9⟩
end
section
variable {w : World} {mean : ExcName → Option Value} {mg mb : PySem.Str → Option Value} {p dp fl f df nl dn c : Addr} {ph fh : Nat → Int} {pt ft : Nat → Tok} {pl gr nu : Int} {t1 t2 t3 t4 : Tok} {wd : PySem.Str} {lo : Bool} {fs nodes ds : List Value} {n1 n2 n3 : Nat} {vs : List Value} {ns : List Int} {rest : Led}
theorem rows_at13 : True := by
  k_with_none
  k_with "m:k_ne" => ((refine neN ?_; (try dsimp only); first | exact Ap.ne (by assumption) | exact Ap.swap (by assumption) | exact off_ne (by assumption) (by k_mem) | exact (off_ne (by assumption) (by k_mem)).symm | omega))
  k_with "m:k_all" => (first | exact Off.all (by assumption) | exact off_lt (by first | assumption | simp only [*]))
  k_with "m:size_fits" => ((simp only [List.size_toArray, PySem.sizeLine_eq]; omega))
  k_with "subscriptTail" => ((k_here; (with_reducible show wpAny _ _ (subscriptTail _ _ (Value.ref _) (Value.int (-1) _)) _ _ _); (with_unfolding_all refine' last_item ?k1 ?k2 ?_ ?k3; (case k1 => first | is_list | exact News.isList (by k_asm) (by k_mem)); (case k2 => assumption); (case k3 => with_unfolding_all rfl); k_whole)))
  k_with "exec Raise some none" => ((k_here; refine raise_D rfl ?_))
  k_with "call ref" => ((k_here; (with_reducible show wpAny _ _ (call (Value.ref 70) [Value.str _ _]) _ _ _); k_dflt (refine' bad_made ?k1 ?k2 ?k3 ?k4 ?k5 ?k6 ?k7 ?k8 ?_; (case k1 => k_asm); (case k2 => k_asm); (case k3 => k_asm); (case k4 => k_asm); (case k5 => k_asm); (case k6 => rfl); (case k7 => ktr_room); (case k8 => ktr_units); k_whole; intro e'z news'z h'z tk'z F'z N'z hin'z hX'z; (try k_sweep))))
  k_with "RaiseEnd" => ((k_here; refine raiseEnd_ (by k_asm) (by k_asm) (by k_asm) (by assumption) ?_))
  k_with "leaving ref" => ((k_here; first | (refine' leave_firstD ?k1 ?k2 ?k3 ?k4 ?k5 ?k6 ?_; (case k4 => assumption); (case k1 => assumption); (case k2 => assumption); (case k3 => k_asm); (case k5 => exact rfl); (case k6 => exact rfl); k_whole; intro h'z R'z; (try dsimp only at R'z ⊢)) | (refine' leave_onD ?k1 ?k2 ?kF ?k3 ?_; (case k3 => assumption); (case k1 => exact rfl); (case k2 => exact rfl); (case kF => assumption); k_whole; intro h'z R'z; (try dsimp only at R'z ⊢))))
  k_with "m:is_list" => (exact News.isList (by k_asm) (by k_mem))
  k_with "call builtin:len" => ((k_here; (with_reducible show wpAny _ _ (call (Value.builtin "len") [Value.ref _]) _ _ _); k_dflt (refine' len_led ?k1 ?k2 ?_; (case k1 => exact News.isList (by k_asm) (by k_mem)); (case k2 => ((try simp only [List.length_append, List.length_cons, List.length_nil] at *); omega)); intro t'z t2'z)))
  k_with "compareOp Eq ref ref" => ((k_here; (with_reducible show wpAny _ _ (compareOp CmpOp.Eq (Value.ref _) (Value.ref _)) _ _ _); k_dflt (refine' eq_empty ?k1 ?k2 ?k3 ?_; (case k1 => exact News.isList (by k_asm) (by k_mem)); (case k2 => exact News.isList (by k_asm) (by k_mem)); (case k3 => ktr_units))))
  k_with "call type:tuple" => ((k_here; (with_reducible show wpAny _ _ (call (Value.type _) [Value.ref _]) _ _ _); k_dflt (refine' tuple_led ?k1 ?k2 ?k3 ?k4 ?_; (case k1 => k_asm); (case k2 => k_asm); (case k3 => exact News.isList (by k_asm) (by k_mem)); (case k4 => ((try simp only [List.length_append, List.length_cons, List.length_nil] at *); omega)); k_whole; intro l'z h'z F'z N'z; (try k_sweep))))
  k_with "binaryOp Add ref ref" => ((k_here; (with_reducible show wpAny _ _ (binaryOp _ (Value.ref _) (Value.ref _)) _ _ _); k_dflt (refine' add_led ?k1 ?k2 ?k3 ?k5 ?k4 ?_; (case k1 => k_asm); (case k2 => k_asm); (case k3 => exact News.isList (by k_asm) (by k_mem)); (case k5 => exact News.isList (by k_asm) (by k_mem)); (case k4 => ((try simp only [List.length_append, List.length_cons, List.length_nil] at *); omega)); k_whole; intro l'z h'z F'z N'z l1; (try k_lt l1); (try k_sweep))))
  k_with "subscriptTail" => ((k_here; (with_reducible show wpAny _ _ (subscriptTail _ _ (Value.ref _) (Value.int 0 _)) _ _ _); (with_unfolding_all refine' first_item ?k1 ?k2 ?_ ?k3; (case k1 => exact News.isList (by k_asm) (by k_mem)); (case k2 => omega); (case k3 => with_unfolding_all rfl); k_whole; intro x'z)))
  k_with "call builtin:list.append" => ((k_here; (with_reducible show wpAny _ _ (call (Value.builtin _) [Value.ref _, _]) _ _ _); k_dflt (refine' append_led ?k1 ?k2 ?k3 ?k4 ?_; (case k1 => k_asm); (case k2 => k_asm); (case k3 => k_upd); (case k4 => ((try simp only [List.length_append, List.length_cons, List.length_nil] at *); omega)); k_whole); intro h'z F'z N'z; (try k_sweep)))
  k_with "ite" => ((k_closed; k_dflt (first | refine ite_pos (by decide +kernel) ?_ | refine ite_neg (by decide +kernel) ?_)))
  k_with "ite" => ((k_here; first | refine ite_pos (by with_reducible assumption) ?_ | refine ite_neg (ntt (by with_reducible assumption)) ?_))
  k_with "m:ktn_open" => (((repeat (refine InAll.cons (by k_mem) ?_)); (repeat (refine InAll.skip ?_)); exact InAll.refl _))
  k_with "call builtin:list.pop" => ((k_here; (with_reducible show wpAny _ _ (call (Value.builtin _) [Value.ref _]) _ _ _); k_dflt (refine' pop_end ?k1 ?k2 ?k3 ?k4 ?_; (case k1 => k_asm); (case k2 => k_asm); (case k3 => k_upd); (case k4 => ((try simp only [List.length_append, List.length_cons, List.length_nil] at *); omega)); k_whole); intro h'z F'z N'z; (try k_sweep)))
  k_with "eval Constant int" => ((k_here; refine const_int_mk ?_))
  k_with "eval Constant str" => ((k_here; refine const_str_mk ?_))
  k_with "binaryOp Add int int" => ((k_here; refine add_int_mk ?_))
  k_with "binaryOp Sub int int" => ((k_here; refine sub_int_mk ?_))
  k_with "m:ktr_rel" => (first | exact InAll.refl _ | exact InAll.two (by k_mem) (by k_mem) | (refine InAll.skip ?_; ktr_rel) | (refine' InAll.seven ?a1 ?a2 ?a3 ?a4 ?a5 ?a6 ?a7 ?a8; (case a1 => k_mem); (case a2 => k_mem); (case a3 => k_mem); (case a4 => k_mem); (case a5 => k_mem); (case a6 => k_mem); (case a7 => k_mem); (case a8 => ((repeat (apply InAll.skip)); exact InAll.refl _))))
  k_with "call ref" => ((k_here; (with_reducible show wpAny _ _ (call (Value.ref 154) [_]) _ _ _); k_dflt (refine' Ctr.use (top_c ?m1 ?m2 ?m3 ?z) ?kB ?kF ?kX ?kN ?kI ?kT ?kk ?kd ?ku ?kG ?_ ?ke; (case kB => k_asm); (case kF => k_asm); (case kX => k_asm); (case kN => k_asm); (case kI => ktr_rel); (case m1 => k_mem); (case m2 => k_mem); (case m3 => k_mem); (case z => assumption); (case kT => k_asm); (case kk => exact rfl); (case kd => ktr_room); (case ku => ktr_units); (case kG => trivial); (case ke => (intro _ _ _ _ _ q; exact q.elim)); (intro v'z h'z tk'z led'z F'z N'z q'z; obtain ⟨e1'z, e2'z⟩ := q'z; subst e1'z e2'z; (try k_sweep)))))
  k_with "call ref" => ((k_here; (with_reducible show wpAny _ _ (call (Value.ref 77) [_, _]) _ _ _); k_dflt (refine' Ctr.use (sign_at_c ?m1 ?m2 ?m3 ?m4 ?z) ?kB ?kF ?kX ?kN ?kI ?kT ?kk ?kd ?ku ?kG ?_ ?ke; (case kB => k_asm); (case kF => k_asm); (case kX => k_asm); (case kN => k_asm); (case kI => ktr_rel); (case m1 => assumption); (case m2 => omega); (case m3 => assumption); (case m4 => assumption); (case z => first | assumption | (simp only [Int.add_assoc, Int.reduceAdd]; assumption)); (case kT => k_asm); (case kk => exact rfl); (case kd => ktr_room); (case ku => ktr_units); (case kG => assumption); (case ke => (intro _ _ _ _ _ q; exact q.elim)); (intro v'z h'z tk'z led'z F'z N'z q'z; obtain ⟨tk2'z, e1'z, e2'z⟩ := q'z; subst e1'z e2'z; (try k_sweep)))))
  k_with "call ref" => ((k_here; (with_reducible show wpAny _ _ (call (Value.ref 236) [_]) _ _ _); k_dflt (refine' Ctr.use (number_c0 ?m1 ?m2 ?m3 ?m4 ?m5 ?m6) ?kB ?kF ?kX ?kN ?kI ?kT ?kk ?kd ?ku ?kG ?_ ?ke; (case kB => k_asm); (case kF => k_asm); (case kX => k_asm); (case kN => k_asm); (case kI => ktr_rel); (case m6 => first | assumption | (simp only [Int.add_assoc, Int.reduceAdd]; assumption)); (case m1 => first | exact Or.inl rfl | exact Or.inr rfl); (case m2 => assumption); (case m3 => omega); (case m4 => assumption); (case m5 => assumption); (case kT => k_asm); (case kk => exact rfl); (case kd => ktr_room); (case ku => ktr_units); (case kG => assumption); (case ke => (intro _ _ _ _ _ q; exact q.elim)); (intro v'z h'z tk'z led'z F'z N'z q'z; obtain ⟨t'z, tk2'z, e1'z, lt'z, e2'z⟩ := q'z; subst e1'z e2'z; (simp only [AllLt, and_true] at lt'z); (try k_sweep)))))
  k_with "call ref" => ((k_here; (with_reducible show wpAny _ _ (call (Value.ref 236) [_]) _ _ _); k_dflt (refine' Ctr.use (number_c1 ?m1 ?m2 ?m3 ?m4 ?m5 ?m6 ?j ?m7 ?m8 ?m9 ?mz) ?kB ?kF ?kX ?kN ?kI ?kT ?kk ?kd ?ku ?kG ?_ ?ke; (case kB => k_asm); (case kF => k_asm); (case kX => k_asm); (case kN => k_asm); (case kI => ktr_rel); (case m5 => first | assumption | (simp only [Int.add_assoc, Int.reduceAdd]; assumption)); (case mz => first | assumption | (simp only [Int.add_assoc, Int.reduceAdd]; assumption)); (case m1 => omega); (case m2 => first | assumption | decide | omega); (case m3 => first | assumption | decide | omega); (case m4 => first | assumption | omega); (case m6 => first | exact Or.inl rfl | exact Or.inr ⟨by decide +kernel, by decide +kernel⟩); (case j => assumption); (case m7 => assumption); (case m8 => assumption); (case m9 => assumption); (case kT => k_asm); (case kk => exact rfl); (case kd => ktr_room); (case ku => ktr_units); (case kG => assumption); (case ke => (intro _ _ _ _ _ q; exact q.elim)); (intro v'z h'z tk'z led'z F'z N'z q'z; obtain ⟨t'z, tk2'z, tk3'z, e1'z, lt'z, e2'z⟩ := q'z; subst e1'z e2'z; (simp only [AllLt, and_true] at lt'z); (try k_sweep)))))
  k_with "call ref" => ((k_here; (with_reducible show wpAny _ _ (call (Value.ref 112) [_, _]) _ _ _); k_dflt (refine' Ctr.use (put_c ?j ?z) ?kB ?kF ?kX ?kN ?kI ?kT ?kk ?kd ?ku ?kG ?_ ?ke; (case kB => k_asm); (case kF => k_asm); (case kX => k_asm); (case kN => k_asm); (case kI => ktr_rel); (case j => assumption); (case z => first | assumption | omega); (case kT => k_asm); (case kk => exact rfl); (case kd => ktr_room); (case ku => ktr_units); (case kG => trivial); (case ke => (intro _ _ _ _ _ q; exact q.elim)); (intro v'z h'z tk'z led'z F'z N'z q'z; obtain ⟨e1'z, n2'z, e2'z⟩ := q'z; subst e1'z e2'z; (try k_sweep)))))
  k_with "call ref" => ((k_here; (with_reducible show wpAny _ _ (call (Value.ref 126) [_]) _ _ _); k_dflt (refine' Ctr.use (node_c ?z1 ?z2) ?kB ?kF ?kX ?kN ?kI ?kT ?kk ?kd ?ku ?kG ?_ ?ke; (case kB => k_asm); (case kF => k_asm); (case kX => k_asm); (case kN => k_asm); (case kI => exact InAll.cons (by k_mem) (InAll.cons (by k_mem) (InAll.cons (by k_mem) (InAll.cons (by k_mem) (InAll.refl _))))); (case z1 => assumption); (case z2 => assumption); (case kT => k_asm); (case kk => exact rfl); (case kd => ktr_room); (case ku => ktr_units); (case kG => trivial); (case ke => (intro _ _ _ _ _ q; exact q.elim)); (intro v'z h'z tk'z led'z F'z N'z e2'z; subst e2'z; (try k_sweep)))))
  k_with "call ref" => ((k_here; (with_reducible show wpAny _ _ (call _ (_ ++ _)) _ _ _); dsimp only [List.nil_append, List.cons_append]; walk_at "call ref"))
  trivial
theorem opened_e0 (hs : sgAt ns pl = sS "?") (c1 : ns.getD (pl + 1).toNat 0 = 48 + 0) (hs2 : sgAt ns (pl + 2) = sS ":") (hlt : pl + 2 < (ns.length : Int)) (h0 : 0 ≤ pl) (dj : Dj p dp fl f df nl dn rest) (hi : IntsAre vs ns) (hz : ns.length ≤ 1000) (hch : Asc ns) :
    Ctr w mean mg mb 222 [.ref p] (led7 p dp fl f df nl dn c ph fh pt ft pl gr nu t1 t2 t3 t4 wd lo fs nodes ds n1 n2 n3 rest) 8 200 (fun h₀ => h₀.IsList c vs.toArray)
      (fun _ _ => False) (fun x => x = sS "Invalid regular expression") := by
  intro dp' un gd cn cs a ccd cl outer A₀ base h₀ L m s Q E B F X N T hk hdp hun hG hret herr
  have dj' := dj
  obtain ⟨d1, d2, d3, d4, d5, d6, d7, d8, d9, e1, e2, e3, e4, e5, e6, e7, e8, e9, g1, g2, g3, r1, r2, r3, r4, r5, r6, r7⟩ := dj'
  refine wpAny_call ?_
  (k_dflt cell_enter)
  have hG' := Fr.lst (by assumption) hG
  k_steps
  exact herr _ _ _ _ _ rfl (by assumption) (by assumption)
theorem opened_ex (hs : sgAt ns pl = sS "?") (hs1 : sgAt ns (pl + 1) = sS "x") (hlt : pl + 1 < (ns.length : Int)) (h0 : 0 ≤ pl) (dj : Dj p dp fl f df nl dn rest) (hi : IntsAre vs ns) (hz : ns.length ≤ 1000) (hch : Asc ns) :
    Ctr w mean mg mb 222 [.ref p] (led7 p dp fl f df nl dn c ph fh pt ft pl gr nu t1 t2 t3 t4 wd lo fs nodes ds n1 n2 n3 rest) 8 200 (fun h₀ => h₀.IsList c vs.toArray)
      (fun _ _ => False) (fun x => x = sS "Invalid regular expression") := by
  intro dp' un gd cn cs a ccd cl outer A₀ base h₀ L m s Q E B F X N T hk hdp hun hG hret herr
  have dj' := dj
  obtain ⟨d1, d2, d3, d4, d5, d6, d7, d8, d9, e1, e2, e3, e4, e5, e6, e7, e8, e9, g1, g2, g3, r1, r2, r3, r4, r5, r6, r7⟩ := dj'
  refine wpAny_call ?_
  (k_dflt cell_enter)
  have hG' := Fr.lst (by assumption) hG
  k_steps
  exact herr _ _ _ _ _ rfl (by assumption) (by assumption)
theorem closed_e : Ctr w mean mg mb 229 [.ref p] ((p, instObj 253 dp) :: (dp, pDict ph pt c pl t1 fl gr t2) :: (fl, lst [.ref f] n1) :: rest) 8 200 (fun _ => True)
      (fun _ _ => False) (fun x => x = sS "Unmatched ) or \\)") := by
  intro dp' un gd cn cs a ccd cl outer A₀ base h₀ L m s Q E B F X N T hk hdp hun hG hret herr
  have q1 : decide ((([Value.ref f] : List Value).length : Int) = 1) = true := rfl
  have q2 : ((([Value.ref f] : List Value).length : Int) == 1) = true := rfl
  refine wpAny_call ?_
  (k_dflt cell_enter)
  k_steps
  exact herr _ _ _ _ _ rfl (by assumption) (by assumption)
theorem closed_c {f2 df2 nl2 dn2 : Addr} {fh2 : Nat → Int} {ft2 : Nat → Tok} {nu2 : Int} {v3 v4 : Tok} {wd2 : PySem.Str} {lo2 : Bool} {fs2 nodes2 ds2 : List Value} {m2 m3 : Nat} (hw : wd = sS "shy" ∨ wd = sS "group")
    (dd : Dd (led7 p dp fl f df nl dn c ph fh pt ft pl gr nu t1 t2 t3 t4 wd lo (fs2 ++ [.ref f2]) nodes ds n1 n2 n3 ((f2, instObj 129 df2) :: (df2, fDict fh2 ft2 wd2 v3 nu2 v4 dn2 nl2 lo2) :: (nl2, lst nodes2 m2) :: (dn2, lst ds2 m3) :: rest)))
    (hzf : fs2.length ≤ 1000) (hz : nodes.length ≤ 1000) (hzd : ds.length ≤ 1000) (hz2 : nodes2.length ≤ 1000) :
    Ctr w mean mg mb 229 [.ref p] (led7 p dp fl f df nl dn c ph fh pt ft pl gr nu t1 t2 t3 t4 wd lo (fs2 ++ [.ref f2]) nodes ds n1 n2 n3 ((f2, instObj 129 df2) :: (df2, fDict fh2 ft2 wd2 v3 nu2 v4 dn2 nl2 lo2) :: (nl2, lst nodes2 m2) :: (dn2, lst ds2 m3) :: rest)) 8 200 (fun _ => True)
      (fun r led' => r = .none ∧ ∃ v n1' n2', led' = led7 p dp fl f2 df2 nl2 dn2 c ph fh2 pt ft2 pl gr nu2 t1 t2 v3 v4 wd2 false fs2 (nodes2 ++ [v]) ds2 n1' n2' m3 rest) (fun _ => False) := by
  intro dp' un gd cn cs a ccd cl outer A₀ base h₀ L m s Q E B F X N T hk hdp hun hG hret herr
  obtain ⟨d1, d2, d3, d4, d5, d6, d7, d8, d9, e1, e2, e3, e4, e5, e6, e7, e8, e9, g1, g2, g3, r1, r2, r3, r4, r5, r6, r7⟩ := Dj.of dd
  have dj2 : Dj p dp fl f2 df2 nl2 dn2 rest := by
    refine Dj.of (o1 := instObj 253 dp) (o2 := instObj 253 dp) (o3 := instObj 253 dp) (o4 := instObj 253 dp) (o5 := instObj 253 dp) (o6 := instObj 253 dp) (o7 := instObj 253 dp) ?_
    simp only [Dd, List.pairwise_cons, List.mem_cons, forall_eq_or_imp] at dd ⊢
    simp only [dd, true_and, and_true, ne_eq, not_false_eq_true]
    grind
  have hl : (fs2 ++ [Value.ref f2] ++ [Value.ref f]).length = fs2.length + 2 := by simp
  have q1 : decide (((fs2 ++ [Value.ref f2] ++ [Value.ref f]).length : Int) = 1) = false := decide_eq_false (by omega)
  have q2 : (((fs2 ++ [Value.ref f2] ++ [Value.ref f]).length : Int) == 1) = false := by simpa using q1
  rcases hw with rfl | rfl
  all_goals (refine wpAny_call ?_; (k_dflt cell_enter); k_steps)
  all_goals exact hret _ _ _ _ (by assumption) (by assumption) ⟨rfl, _, _, _, rfl⟩
end
section
variable {w : World} {mean : ExcName → Option Value} {mg mb : PySem.Str → Option Value} {p dp fl f df nl dn c : Addr} {ph fh : Nat → Int} {pt ft : Nat → Tok} {pl gr nu : Int} {t1 t2 t3 t4 : Tok} {wd : PySem.Str} {lo : Bool} {fs nodes ds : List Value} {n1 n2 n3 : Nat} {vs : List Value} {ns : List Int} {rest : Led}
theorem rows_at14 : True := by
  k_with_none
  k_with "m:k_ne" => ((refine neN ?_; (try dsimp only); first | exact Ap.ne (by assumption) | exact Ap.swap (by assumption) | exact off_ne (by assumption) (by k_mem) | exact (off_ne (by assumption) (by k_mem)).symm | omega))
  k_with "m:k_all" => (first | exact Off.all (by assumption) | exact off_lt (by first | assumption | simp only [*]))
  k_with "m:size_fits" => ((simp only [List.size_toArray, PySem.sizeLine_eq]; omega))
  k_with "subscriptTail" => ((k_here; (with_reducible show wpAny _ _ (subscriptTail _ _ (Value.ref _) (Value.int (-1) _)) _ _ _); (with_unfolding_all refine' last_item ?k1 ?k2 ?_ ?k3; (case k1 => first | is_list | exact News.isList (by k_asm) (by k_mem)); (case k2 => assumption); (case k3 => with_unfolding_all rfl); k_whole)))
  k_with "exec Raise some none" => ((k_here; refine raise_D rfl ?_))
  k_with "call ref" => ((k_here; (with_reducible show wpAny _ _ (call (Value.ref 70) [Value.str _ _]) _ _ _); k_dflt (refine' bad_made ?k1 ?k2 ?k3 ?k4 ?k5 ?k6 ?k7 ?k8 ?_; (case k1 => k_asm); (case k2 => k_asm); (case k3 => k_asm); (case k4 => k_asm); (case k5 => k_asm); (case k6 => rfl); (case k7 => ktr_room); (case k8 => ktr_units); k_whole; intro e'z news'z h'z tk'z F'z N'z hin'z hX'z; (try k_sweep))))
  k_with "RaiseEnd" => ((k_here; refine raiseEnd_ (by k_asm) (by k_asm) (by k_asm) (by assumption) ?_))
  k_with "leaving ref" => ((k_here; first | (refine' leave_firstD ?k1 ?k2 ?k3 ?k4 ?k5 ?k6 ?_; (case k4 => assumption); (case k1 => assumption); (case k2 => assumption); (case k3 => k_asm); (case k5 => exact rfl); (case k6 => exact rfl); k_whole; intro h'z R'z; (try dsimp only at R'z ⊢)) | (refine' leave_onD ?k1 ?k2 ?kF ?k3 ?_; (case k3 => assumption); (case k1 => exact rfl); (case k2 => exact rfl); (case kF => assumption); k_whole; intro h'z R'z; (try dsimp only at R'z ⊢))))
  k_with "m:is_list" => (exact News.isList (by k_asm) (by k_mem))
  k_with "call builtin:len" => ((k_here; (with_reducible show wpAny _ _ (call (Value.builtin "len") [Value.ref _]) _ _ _); k_dflt (refine' len_led ?k1 ?k2 ?_; (case k1 => exact News.isList (by k_asm) (by k_mem)); (case k2 => ((try simp only [List.length_append, List.length_cons, List.length_nil] at *); omega)); intro t'z t2'z)))
  k_with "compareOp Eq ref ref" => ((k_here; (with_reducible show wpAny _ _ (compareOp CmpOp.Eq (Value.ref _) (Value.ref _)) _ _ _); k_dflt (refine' eq_empty ?k1 ?k2 ?k3 ?_; (case k1 => exact News.isList (by k_asm) (by k_mem)); (case k2 => exact News.isList (by k_asm) (by k_mem)); (case k3 => ktr_units))))
  k_with "call type:tuple" => ((k_here; (with_reducible show wpAny _ _ (call (Value.type _) [Value.ref _]) _ _ _); k_dflt (refine' tuple_led ?k1 ?k2 ?k3 ?k4 ?_; (case k1 => k_asm); (case k2 => k_asm); (case k3 => exact News.isList (by k_asm) (by k_mem)); (case k4 => ((try simp only [List.length_append, List.length_cons, List.length_nil] at *); omega)); k_whole; intro l'z h'z F'z N'z; (try k_sweep))))
  k_with "binaryOp Add ref ref" => ((k_here; (with_reducible show wpAny _ _ (binaryOp _ (Value.ref _) (Value.ref _)) _ _ _); k_dflt (refine' add_led ?k1 ?k2 ?k3 ?k5 ?k4 ?_; (case k1 => k_asm); (case k2 => k_asm); (case k3 => exact News.isList (by k_asm) (by k_mem)); (case k5 => exact News.isList (by k_asm) (by k_mem)); (case k4 => ((try simp only [List.length_append, List.length_cons, List.length_nil] at *); omega)); k_whole; intro l'z h'z F'z N'z l1; (try k_lt l1); (try k_sweep))))
  k_with "subscriptTail" => ((k_here; (with_reducible show wpAny _ _ (subscriptTail _ _ (Value.ref _) (Value.int 0 _)) _ _ _); (with_unfolding_all refine' first_item ?k1 ?k2 ?_ ?k3; (case k1 => exact News.isList (by k_asm) (by k_mem)); (case k2 => omega); (case k3 => with_unfolding_all rfl); k_whole; intro x'z)))
  k_with "call builtin:list.append" => ((k_here; (with_reducible show wpAny _ _ (call (Value.builtin _) [Value.ref _, _]) _ _ _); k_dflt (refine' append_led ?k1 ?k2 ?k3 ?k4 ?_; (case k1 => k_asm); (case k2 => k_asm); (case k3 => k_upd); (case k4 => ((try simp only [List.length_append, List.length_cons, List.length_nil] at *); omega)); k_whole); intro h'z F'z N'z; (try k_sweep)))
  k_with "ite" => ((k_closed; k_dflt (first | refine ite_pos (by decide +kernel) ?_ | refine ite_neg (by decide +kernel) ?_)))
  k_with "ite" => ((k_here; first | refine ite_pos (by with_reducible assumption) ?_ | refine ite_neg (ntt (by with_reducible assumption)) ?_))
  k_with "m:ktn_open" => (((repeat (refine InAll.cons (by k_mem) ?_)); (repeat (refine InAll.skip ?_)); exact InAll.refl _))
  k_with "call builtin:list.pop" => ((k_here; (with_reducible show wpAny _ _ (call (Value.builtin _) [Value.ref _]) _ _ _); k_dflt (refine' pop_end ?k1 ?k2 ?k3 ?k4 ?_; (case k1 => k_asm); (case k2 => k_asm); (case k3 => k_upd); (case k4 => ((try simp only [List.length_append, List.length_cons, List.length_nil] at *); omega)); k_whole); intro h'z F'z N'z; (try k_sweep)))
  k_with "eval Constant int" => ((k_here; refine const_int_mk ?_))
  k_with "eval Constant str" => ((k_here; refine const_str_mk ?_))
  k_with "binaryOp Add int int" => ((k_here; refine add_int_mk ?_))
  k_with "binaryOp Sub int int" => ((k_here; refine sub_int_mk ?_))
  k_with "exec While" => ((k_here; k_dflt (refine whl_start 100 ?_)))
  k_with "exec While BoolOp" => ((k_here; k_dflt (refine whl_start 100 ?_)))
  k_with "exec While BoolOp cons nil" => ((k_here; k_dflt (refine whl_start 100 ?_)))
  k_with "m:ktr_rel" => (first | exact InAll.refl _ | exact InAll.two (by k_mem) (by k_mem) | (refine InAll.skip ?_; ktr_rel) | (refine' InAll.seven ?a1 ?a2 ?a3 ?a4 ?a5 ?a6 ?a7 ?a8; (case a1 => k_mem); (case a2 => k_mem); (case a3 => k_mem); (case a4 => k_mem); (case a5 => k_mem); (case a6 => k_mem); (case a7 => k_mem); (case a8 => ((repeat (apply InAll.skip)); exact InAll.refl _))))
  k_with "call ref" => ((k_here; (with_reducible show wpAny _ _ (call (Value.ref 154) [_]) _ _ _); k_dflt (refine' Ctr.use (top_c ?m1 ?m2 ?m3 ?z) ?kB ?kF ?kX ?kN ?kI ?kT ?kk ?kd ?ku ?kG ?_ ?ke; (case kB => k_asm); (case kF => k_asm); (case kX => k_asm); (case kN => k_asm); (case kI => ktr_rel); (case m1 => k_mem); (case m2 => k_mem); (case m3 => k_mem); (case z => assumption); (case kT => k_asm); (case kk => exact rfl); (case kd => ktr_room); (case ku => ktr_units); (case kG => trivial); (case ke => (intro _ _ _ _ _ q; exact q.elim)); (intro v'z h'z tk'z led'z F'z N'z q'z; obtain ⟨e1'z, e2'z⟩ := q'z; subst e1'z e2'z; (try k_sweep)))))
  k_with "call ref" => ((k_here; (with_reducible show wpAny _ _ (call (Value.ref 77) [_, _]) _ _ _); k_dflt (refine' Ctr.use (sign_at_c ?m1 ?m2 ?m3 ?m4 ?z) ?kB ?kF ?kX ?kN ?kI ?kT ?kk ?kd ?ku ?kG ?_ ?ke; (case kB => k_asm); (case kF => k_asm); (case kX => k_asm); (case kN => k_asm); (case kI => ktr_rel); (case m1 => assumption); (case m2 => omega); (case m3 => assumption); (case m4 => assumption); (case z => first | assumption | (simp only [Int.add_assoc, Int.reduceAdd]; assumption)); (case kT => k_asm); (case kk => exact rfl); (case kd => ktr_room); (case ku => ktr_units); (case kG => assumption); (case ke => (intro _ _ _ _ _ q; exact q.elim)); (intro v'z h'z tk'z led'z F'z N'z q'z; obtain ⟨tk2'z, e1'z, e2'z⟩ := q'z; subst e1'z e2'z; (try k_sweep)))))
  k_with "call ref" => ((k_here; (with_reducible show wpAny _ _ (call (Value.ref 189) [_, _, _, _]) _ _ _); k_dflt (refine' Ctr.use (repeat_c ?j ?z ?z2) ?kB ?kF ?kX ?kN ?kI ?kT ?kk ?kd ?ku ?kG ?_ ?ke; (case kB => k_asm); (case kF => k_asm); (case kX => k_asm); (case kN => k_asm); (case kI => ktr_rel); (case j => assumption); (case z => assumption); (case z2 => assumption); (case kT => k_asm); (case kk => exact rfl); (case kd => ktr_room); (case ku => ktr_units); (case kG => trivial); (case ke => (intro _ _ _ _ _ q; exact q.elim)); (intro v'z h'z tk'z led'z F'z N'z q'z; obtain ⟨e1'z, y'z, n2'z, e2'z⟩ := q'z; subst e1'z e2'z; (try k_sweep)))))
  k_with "call ref" => ((k_here; (with_reducible show wpAny _ _ (call _ (_ ++ _)) _ _ _); dsimp only [List.nil_append, List.cons_append]; walk_at "call ref"))
  trivial
noncomputable abbrev isRep (sg : PySem.Str) : Bool := !(Builtin.Str.occurrences (PySem.Str.ofString "*+?") sg 0 (PySem.Str.ofString "*+?").length 1).isEmpty
/-- the sign at a place is none of repetition -/
noncomputable def NoRep (sg : PySem.Str) : Prop := sg = sS "" ∨ ((sg == PySem.Str.ofString "") = false ∧ isRep sg = false)
/-- k signs of repetition stand at a place, and none behind them -/
inductive Run (ns : List Int) : Int → Nat → Prop
  | stop {pl : Int} (h : NoRep (sgAt ns pl)) : Run ns pl 0
  | more {pl : Int} {k : Nat} (h1 : (sgAt ns pl == PySem.Str.ofString "") = false) (h2 : isRep (sgAt ns pl) = true) (r : Run ns (pl + 1) k) : Run ns pl (k + 1)
noncomputable def RepSt (p dp fl f df nl dn c : Addr) (ph fh : Nat → Int) (pt ft : Nat → Tok) (pl gr nu : Int) (t2 t3 t4 : Tok) (wd : PySem.Str) (lo : Bool) (fs nodes ds : List Value) (n1 n2 n3 : Nat) (rest : Led) (g' : Heap) (L' : Addr) (s0 s' : Shared) : Prop :=
  ∃ (h : Heap) (tk : Nat) (t1 : Tok) (z mm gb : Bool) (sg : PySem.Str) (t : Tok) (m : PySem.Str → Option Value), s' = { s0 with heap := h, toks := tk } ∧
    m (sS "self") = some (.ref p) ∧ m (sS "sign") = some (.str sg t) ∧ m (sS "is_zero") = some (.bool z) ∧ m (sS "is_many") = some (.bool mm) ∧ m (sS "is_greedy") = some (.bool gb) ∧
    Fr g' L' h m ∧ News g' L' h (led7 p dp fl f df nl dn c ph fh pt ft pl gr nu t1 t2 t3 t4 wd lo fs nodes ds n1 n2 n3 rest)
theorem RepSt.mk {g' h : Heap} {L' : Addr} {s0 : Shared} {tk : Nat} {z mm gb : Bool} {sg : PySem.Str} {t : Tok} {m : PySem.Str → Option Value} {big : Led} (F : Fr g' L' h m) (N : News g' L' h big) (i : InAll (led7 p dp fl f df nl dn c ph fh pt ft pl gr nu t1 t2 t3 t4 wd lo fs nodes ds n1 n2 n3 rest) big)
    (a1 : m (sS "self") = some (.ref p)) (a2 : m (sS "sign") = some (.str sg t)) (a3 : m (sS "is_zero") = some (.bool z)) (a4 : m (sS "is_many") = some (.bool mm)) (a5 : m (sS "is_greedy") = some (.bool gb)) :
    RepSt p dp fl f df nl dn c ph fh pt ft pl gr nu t2 t3 t4 wd lo fs nodes ds n1 n2 n3 rest g' L' s0 ⟨h, s0.gens, s0.drawn, tk, s0.os⟩ := ⟨h, tk, t1, z, mm, gb, sg, t, m, rfl, a1, a2, a3, a4, a5, F, i.news N⟩
theorem rep_ind {P : Int → Shared → Prop} {W : Shared → Prop} {pe : Int}
    (step : ∀ (pl : Int) (s : Shared), 0 ≤ pl → P pl s → ((sgAt ns pl = sS "" ∧ pl = pe) ∨ ((sgAt ns pl == PySem.Str.ofString "") = false ∧ isRep (sgAt ns pl) = false ∧ pl = pe) ∨ ((sgAt ns pl == PySem.Str.ofString "") = false ∧ isRep (sgAt ns pl) = true ∧ ∀ s', P (pl + 1) s' → W s')) → W s) :
    ∀ (k : Nat) (pl : Int), Run ns pl k → pl + k = pe → 0 ≤ pl → ∀ s, P pl s → W s := by
  intro k
  induction k with
  | zero =>
    intro pl r e h0 s h
    cases r with
    | stop q =>
      have e' : pl = pe := by simpa using e
      rcases q with q | ⟨q1, q2⟩
      · exact step pl s h0 h (.inl ⟨q, e'⟩)
      · exact step pl s h0 h (.inr (.inl ⟨q1, q2, e'⟩))
  | succ k ih =>
    intro pl r e h0 s h
    cases r with
    | more q1 q2 r => exact step pl s h0 h (.inr (.inr ⟨q1, q2, fun s' h' => ih (pl + 1) r (by push_cast at e; omega) (by omega) s' h'⟩))
theorem whl_turn3 {prog : Program} {A : Around} {E : Value → Shared → Prop} {s : Shared} {env : Env} {test : PySem.Expr} {body orelse : List Stmt} {Q : Flow → Shared → Prop} {k : Nat} (Brk : Shared → Prop) (hE : PassesOwn (model prog w) A env E)
    (hb : ∀ s', Brk s' → Q .next s')
    (h : wpAny (model prog w) A (isTrue test env (eval test env)) (fun b s₂ => WhlIf b (wpAny (model prog w) A (execs body env) (fun fw s' => match fw with | .next => WhlRest prog w A E env test body orelse Q k s' | .cont => WhlRest prog w A E env test body orelse Q k s' | .brk => Brk s' | .ret v => Q (.ret v) s') E s₂) (wpAny (model prog w) A (execs orelse env) Q E s₂)) E s) :
    WhlRest prog w A E env test body orelse Q (k + 1) s := by
  refine whl_turn hE (wpAny_mono h (fun b s₂ h₂ => ?_) fun _ _ x => x)
  cases b with
  | true =>
    refine WhlIf.yes rfl (wpAny_mono (by simpa [WhlIf] using h₂) (fun fw s' h' => ?_) fun _ _ x => x)
    cases fw with
    | next => exact h'
    | cont => exact h'
    | brk => exact hb _ h'
    | ret v => exact h'
  | false => exact WhlIf.no rfl (by simpa [WhlIf] using h₂)
theorem exec_cut {M : Model} {A : Around} {E : Value → Shared → Prop} {s : Shared} {t : Sem Flow} {Q : Flow → Shared → Prop} (Mid : Shared → Prop) (h : wpAny M A t (fun fw s' => fw = Flow.next ∧ Mid s') E s) (k : ∀ s', Mid s' → Q .next s') : wpAny M A t Q E s :=
  wpAny_mono h (fun fw s' q => by obtain ⟨rfl, q⟩ := q; exact k s' q) fun _ _ x => x
noncomputable def Hold (q : Prop) : Prop := q
theorem hold_ {q : Prop} (h : Hold q) : q := h
noncomputable def HoldMark : Prop := True
theorem with_frame {g h : Heap} {L : Addr} {m : PySem.Str → Option Value} (F : Fr g L h m) {R : Prop} (k : ∀ g9 L9, g9 = g → L9 = L → R) : R := k g L rfl rfl
theorem rows_at15 : True := by
  k_with "eval Name" => ((k_here; k_dflt (refine' ld ?k1 ?k2 ?_; (case k1 => k_asm); (case k2 => first | exact rfl | assumption); k_whole)))
  k_with "WhlRest" => ((k_here; refine hold_ ?_))
  k_with "exec If" => ((k_here; (have mk9 : HoldMark := by with_reducible assumption); clear mk9; refine hold_ ?_))
  trivial
theorem repeated_c {nd : List Value} {x : Value} {sg : PySem.Str} {t : Tok} {k : Nat} (hr : Run ns pl k) (h0 : 0 ≤ pl) (dj : Dj p dp fl f df nl dn rest) (hi : IntsAre vs ns) (hz : ns.length ≤ 1000) (hch : Asc ns) (hzf : fs.length ≤ 1000) (hzn : nd.length ≤ 1000) :
    Ctr w mean mg mb 182 [.ref p, .str sg t] (led7 p dp fl f df nl dn c ph fh pt ft pl gr nu t1 t2 t3 t4 wd lo fs (nd ++ [x]) ds n1 n2 n3 rest) 8 120 (fun h₀ => h₀.IsList c vs.toArray)
      (fun r led' => r = .none ∧ ∃ y n2' tk, led' = led7 p dp fl f df nl dn c ph fh pt ft (pl + k) gr nu tk t2 t3 t4 wd lo fs (nd ++ [y]) ds n1 n2' n3 rest) (fun _ => False) := by
  intro dp' un gd cn cs a ccd cl outer A₀ base h₀ L m s Q E B F X N T hk hdp hun hG hret herr
  have dj' := dj
  obtain ⟨d1, d2, d3, d4, d5, d6, d7, d8, d9, e1, e2, e3, e4, e5, e6, e7, e8, e9, g1, g2, g3, r1, r2, r3, r4, r5, r6, r7⟩ := dj'
  refine wpAny_call ?_
  (k_dflt cell_enter)
  have hG' := Fr.lst (by assumption) hG
  k_steps
  unfold Hold
  refine with_frame (by assumption) fun g9 L9 q1 q2 => ?_
  subst q1 q2
  generalize hW : WhlRest _ _ _ _ _ _ _ _ _ _ = W0
  refine rep_ind (P := fun pl s' => RepSt p dp fl f df nl dn c ph fh pt ft pl gr nu t2 t3 t4 wd lo fs (nd ++ [x]) ds n1 n2 n3 rest g9 L9 s s') (W := W0) ?_ k pl hr rfl h0 _ (RepSt.mk (by assumption) (by assumption) (by ktn_open) rfl rfl rfl rfl rfl)
  generalize hpe : pl + (k : Int) = pe
  clear hr h0
  intro pl1 s1 h0 hP hcase
  subst hW
  refine whl_turn3 (fun s' => RepSt p dp fl f df nl dn c ph fh pt ft pe gr nu t2 t3 t4 wd lo fs (nd ++ [x]) ds n1 n2 n3 rest g9 L9 s s') (by with_unfolding_all passes_own) ?_ ?_
  · clear hP hcase
    intro s' hP
    obtain ⟨h1, tk1, u1, z, mm, gb, sg1, u, m1, rfl, b1, b2, b3, b4, b5, F1, N1⟩ := hP
    subst hpe
    k_steps
    all_goals (refine' hret _ _ _ (led7 p dp fl f df nl dn c ph fh pt ft (pl + k) gr nu _ t2 t3 t4 wd lo fs (nd ++ [_]) ds n1 _ n3 rest) ?_ (sub_news ?_ ?_) ⟨rfl, _, _, _, rfl⟩ <;> first | (show News _ _ _ _; assumption) | (show Fr _ _ _ _; assumption) | (show InAll _ _; ktn_open) | skip)
  · have mk : HoldMark := trivial
    obtain ⟨h1, tk1, u1, z, mm, gb, sg1, u, m1, rfl, b1, b2, b3, b4, b5, F1, N1⟩ := hP
    k_steps
    unfold Hold
    clear mk
    refine exec_cut (fun s' => RepSt p dp fl f df nl dn c ph fh pt ft pl1 gr nu t2 t3 t4 wd lo fs (nd ++ [x]) ds n1 n2 n3 rest g9 L9 s s') ?_ ?_
    · clear hcase
      k_steps
      all_goals exact RepSt.mk (by assumption) (by assumption) (by ktn_open) (by first | exact rfl | assumption) (by first | exact rfl | assumption) (by first | exact rfl | assumption) (by first | exact rfl | assumption) (by first | exact rfl | assumption)
    · clear F1 N1
      intro s' hP
      obtain ⟨h2, tk2, u2, z2, mm2, gb2, sg2, u3, m2, rfl, b1, b2, b3, b4, b5, F1, N1⟩ := hP
      obtain ⟨sg9, hs9⟩ : ∃ q, sgAt ns pl1 = q := ⟨_, rfl⟩
      rw [hs9] at hcase
      rcases hcase with ⟨q1, q2⟩ | ⟨q1, q2, q3⟩ | ⟨q1, q2, ih⟩
      · subst q1
        rw [← q2]
        k_steps
        exact RepSt.mk (by assumption) (by assumption) (by ktn_open) (by first | exact rfl | assumption) (by first | exact rfl | assumption) (by first | exact rfl | assumption) (by first | exact rfl | assumption) (by first | exact rfl | assumption)
      · rw [← q3]
        k_steps
        exact RepSt.mk (by assumption) (by assumption) (by ktn_open) (by first | exact rfl | assumption) (by first | exact rfl | assumption) (by first | exact rfl | assumption) (by first | exact rfl | assumption) (by first | exact rfl | assumption)
      · k_steps
        unfold Hold
        exact ih _ (RepSt.mk (by assumption) (by assumption) (by ktn_open) (by first | exact rfl | assumption) (by first | exact rfl | assumption) (by first | exact rfl | assumption) (by first | exact rfl | assumption) (by first | exact rfl | assumption))
end
section
variable {w : World} {mean : ExcName → Option Value} {mg mb : PySem.Str → Option Value} {p dp fl f df nl dn c : Addr} {ph fh : Nat → Int} {pt ft : Nat → Tok} {pl gr nu : Int} {t1 t2 t3 t4 : Tok} {wd : PySem.Str} {lo : Bool} {fs nodes ds : List Value} {n1 n2 n3 : Nat} {vs : List Value} {ns : List Int} {rest : Led}
theorem rows_at16 : True := by
  k_with_none
  k_with "m:k_ne" => ((refine neN ?_; (try dsimp only); first | exact Ap.ne (by assumption) | exact Ap.swap (by assumption) | exact off_ne (by assumption) (by k_mem) | exact (off_ne (by assumption) (by k_mem)).symm | omega))
  k_with "m:k_all" => (first | exact Off.all (by assumption) | exact off_lt (by first | assumption | simp only [*]))
  k_with "m:size_fits" => ((simp only [List.size_toArray, PySem.sizeLine_eq]; omega))
  k_with "subscriptTail" => ((k_here; (with_reducible show wpAny _ _ (subscriptTail _ _ (Value.ref _) (Value.int (-1) _)) _ _ _); (with_unfolding_all refine' last_item ?k1 ?k2 ?_ ?k3; (case k1 => first | is_list | exact News.isList (by k_asm) (by k_mem)); (case k2 => assumption); (case k3 => with_unfolding_all rfl); k_whole)))
  k_with "exec Raise some none" => ((k_here; refine raise_D rfl ?_))
  k_with "call ref" => ((k_here; (with_reducible show wpAny _ _ (call (Value.ref 70) [Value.str _ _]) _ _ _); k_dflt (refine' bad_made ?k1 ?k2 ?k3 ?k4 ?k5 ?k6 ?k7 ?k8 ?_; (case k1 => k_asm); (case k2 => k_asm); (case k3 => k_asm); (case k4 => k_asm); (case k5 => k_asm); (case k6 => rfl); (case k7 => ktr_room); (case k8 => ktr_units); k_whole; intro e'z news'z h'z tk'z F'z N'z hin'z hX'z; (try k_sweep))))
  k_with "RaiseEnd" => ((k_here; refine raiseEnd_ (by k_asm) (by k_asm) (by k_asm) (by assumption) ?_))
  k_with "leaving ref" => ((k_here; first | (refine' leave_firstD ?k1 ?k2 ?k3 ?k4 ?k5 ?k6 ?_; (case k4 => assumption); (case k1 => assumption); (case k2 => assumption); (case k3 => k_asm); (case k5 => exact rfl); (case k6 => exact rfl); k_whole; intro h'z R'z; (try dsimp only at R'z ⊢)) | (refine' leave_onD ?k1 ?k2 ?kF ?k3 ?_; (case k3 => assumption); (case k1 => exact rfl); (case k2 => exact rfl); (case kF => assumption); k_whole; intro h'z R'z; (try dsimp only at R'z ⊢))))
  k_with "m:is_list" => (exact News.isList (by k_asm) (by k_mem))
  k_with "call builtin:len" => ((k_here; (with_reducible show wpAny _ _ (call (Value.builtin "len") [Value.ref _]) _ _ _); k_dflt (refine' len_led ?k1 ?k2 ?_; (case k1 => exact News.isList (by k_asm) (by k_mem)); (case k2 => ((try simp only [List.length_append, List.length_cons, List.length_nil] at *); omega)); intro t'z t2'z)))
  k_with "compareOp Eq ref ref" => ((k_here; (with_reducible show wpAny _ _ (compareOp CmpOp.Eq (Value.ref _) (Value.ref _)) _ _ _); k_dflt (refine' eq_empty ?k1 ?k2 ?k3 ?_; (case k1 => exact News.isList (by k_asm) (by k_mem)); (case k2 => exact News.isList (by k_asm) (by k_mem)); (case k3 => ktr_units))))
  k_with "call type:tuple" => ((k_here; (with_reducible show wpAny _ _ (call (Value.type _) [Value.ref _]) _ _ _); k_dflt (refine' tuple_led ?k1 ?k2 ?k3 ?k4 ?_; (case k1 => k_asm); (case k2 => k_asm); (case k3 => exact News.isList (by k_asm) (by k_mem)); (case k4 => ((try simp only [List.length_append, List.length_cons, List.length_nil] at *); omega)); k_whole; intro l'z h'z F'z N'z; (try k_sweep))))
  k_with "binaryOp Add ref ref" => ((k_here; (with_reducible show wpAny _ _ (binaryOp _ (Value.ref _) (Value.ref _)) _ _ _); k_dflt (refine' add_led ?k1 ?k2 ?k3 ?k5 ?k4 ?_; (case k1 => k_asm); (case k2 => k_asm); (case k3 => exact News.isList (by k_asm) (by k_mem)); (case k5 => exact News.isList (by k_asm) (by k_mem)); (case k4 => ((try simp only [List.length_append, List.length_cons, List.length_nil] at *); omega)); k_whole; intro l'z h'z F'z N'z l1; (try k_lt l1); (try k_sweep))))
  k_with "subscriptTail" => ((k_here; (with_reducible show wpAny _ _ (subscriptTail _ _ (Value.ref _) (Value.int 0 _)) _ _ _); (with_unfolding_all refine' first_item ?k1 ?k2 ?_ ?k3; (case k1 => exact News.isList (by k_asm) (by k_mem)); (case k2 => omega); (case k3 => with_unfolding_all rfl); k_whole; intro x'z)))
  k_with "call builtin:list.append" => ((k_here; (with_reducible show wpAny _ _ (call (Value.builtin _) [Value.ref _, _]) _ _ _); k_dflt (refine' append_led ?k1 ?k2 ?k3 ?k4 ?_; (case k1 => k_asm); (case k2 => k_asm); (case k3 => k_upd); (case k4 => ((try simp only [List.length_append, List.length_cons, List.length_nil] at *); omega)); k_whole); intro h'z F'z N'z; (try k_sweep)))
  k_with "ite" => ((k_closed; k_dflt (first | refine ite_pos (by decide +kernel) ?_ | refine ite_neg (by decide +kernel) ?_)))
  k_with "ite" => ((k_here; first | refine ite_pos (by with_reducible assumption) ?_ | refine ite_neg (ntt (by with_reducible assumption)) ?_))
  k_with "m:ktn_open" => (((repeat (refine InAll.cons (by k_mem) ?_)); (repeat (refine InAll.skip ?_)); exact InAll.refl _))
  k_with "call builtin:list.pop" => ((k_here; (with_reducible show wpAny _ _ (call (Value.builtin _) [Value.ref _]) _ _ _); k_dflt (refine' pop_end ?k1 ?k2 ?k3 ?k4 ?_; (case k1 => k_asm); (case k2 => k_asm); (case k3 => k_upd); (case k4 => ((try simp only [List.length_append, List.length_cons, List.length_nil] at *); omega)); k_whole); intro h'z F'z N'z; (try k_sweep)))
  k_with "eval Constant int" => ((k_here; refine const_int_mk ?_))
  k_with "eval Constant str" => ((k_here; refine const_str_mk ?_))
  k_with "binaryOp Add int int" => ((k_here; refine add_int_mk ?_))
  k_with "binaryOp Sub int int" => ((k_here; refine sub_int_mk ?_))
  k_with "m:ktr_rel" => (first | exact InAll.refl _ | exact InAll.two (by k_mem) (by k_mem) | (refine InAll.skip ?_; ktr_rel) | (refine' InAll.seven ?a1 ?a2 ?a3 ?a4 ?a5 ?a6 ?a7 ?a8; (case a1 => k_mem); (case a2 => k_mem); (case a3 => k_mem); (case a4 => k_mem); (case a5 => k_mem); (case a6 => k_mem); (case a7 => k_mem); (case a8 => ((repeat (apply InAll.skip)); exact InAll.refl _))))
  k_with "call ref" => ((k_here; (with_reducible show wpAny _ _ (call (Value.ref 154) [_]) _ _ _); k_dflt (refine' Ctr.use (top_c ?m1 ?m2 ?m3 ?z) ?kB ?kF ?kX ?kN ?kI ?kT ?kk ?kd ?ku ?kG ?_ ?ke; (case kB => k_asm); (case kF => k_asm); (case kX => k_asm); (case kN => k_asm); (case kI => ktr_rel); (case m1 => k_mem); (case m2 => k_mem); (case m3 => k_mem); (case z => assumption); (case kT => k_asm); (case kk => exact rfl); (case kd => ktr_room); (case ku => ktr_units); (case kG => trivial); (case ke => (intro _ _ _ _ _ q; exact q.elim)); (intro v'z h'z tk'z led'z F'z N'z q'z; obtain ⟨e1'z, e2'z⟩ := q'z; subst e1'z e2'z; (try k_sweep)))))
  k_with "call ref" => ((k_here; (with_reducible show wpAny _ _ (call (Value.ref 112) [_, _]) _ _ _); k_dflt (refine' Ctr.use (put_c ?j ?z) ?kB ?kF ?kX ?kN ?kI ?kT ?kk ?kd ?ku ?kG ?_ ?ke; (case kB => k_asm); (case kF => k_asm); (case kX => k_asm); (case kN => k_asm); (case kI => ktr_rel); (case j => assumption); (case z => first | assumption | omega); (case kT => k_asm); (case kk => exact rfl); (case kd => ktr_room); (case ku => ktr_units); (case kG => trivial); (case ke => (intro _ _ _ _ _ q; exact q.elim)); (intro v'z h'z tk'z led'z F'z N'z q'z; obtain ⟨e1'z, n2'z, e2'z⟩ := q'z; subst e1'z e2'z; (try k_sweep)))))
  k_with "call ref" => ((k_here; (with_reducible show wpAny _ _ (call _ (_ ++ _)) _ _ _); dsimp only [List.nil_append, List.cons_append]; walk_at "call ref"))
  trivial
theorem compEnd_mono {h₀ : Heap} {L : Addr} {m : PySem.Str → Option Value} {s₁ : Shared} {I C D : Addr} {oI oC oD : Obj} {S : Led → Prop} {r1 r2 : Value → Led → Prop} {y : Value} {s₂ : Shared} (x : LCg.CompEnd h₀ L m s₁ I oI C oC D oD S r1 y s₂) (k : ∀ y n, r1 y n → r2 y n) : LCg.CompEnd h₀ L m s₁ I oI C oC D oD S r2 y s₂ := by
  obtain ⟨h', tk, n, a, b, c, d, e, f⟩ := x
  exact ⟨h', tk, n, a, b, c, d, e, k _ _ f⟩
theorem compT_ind {prog : Program} {A : Around} {h₀ : Heap} {L : Addr} {m : PySem.Str → Option Value} {env : Env} {ct elt : PySem.Expr} {x : PySem.Str} {scope : Scope} {cl : List (PySem.Str × Addr)} {s : Shared} {S : Led → Prop} {P : Nat → Value → Prop} {Fin : List Value → Led → Prop} {news : Led} (Pz : Nat → List Value → Prop)
    (step : ∀ (i : Nat) (ys : List Value) (v : Value) (I : Addr) (oI : Obj) (C : Addr) (oC : Obj) (D : Addr) (m₂ : PySem.Str → Option Value) (h : Heap) (tk : Nat) (E' : Value → Shared → Prop), P i v → Pz i ys → LCg.NsObj oC m₂ → m₂ x = some v → Fr h₀ L h m → News h₀ L h ((I, oI) :: (C, oC) :: (D, LCg.lst ys) :: news) → LCg.Off3 I C D news → ((@Ne Nat I C) ∧ (@Ne Nat I D) ∧ (@Ne Nat C D)) →
      wpAny (model prog w) A (isTrue ct (compEnvC scope cl C env) (eval ct (compEnvC scope cl C env))) (fun ok s' => if ok = true then
        wpAny (model prog w) A (eval elt (compEnvC scope cl C env)) (LCg.CompEnd h₀ L m { s with heap := h, toks := tk } I oI C oC D (LCg.lst ys) S (fun y news' => Pz (i + 1) (ys ++ [y]) ∧ news' = news)) E' s'
        else LCg.CompEnd h₀ L m { s with heap := h, toks := tk } I oI C oC D (LCg.lst ys) S (fun _ news' => Pz (i + 1) ys ∧ news' = news) Value.none s') E' { s with heap := h, toks := tk }) (n : Nat)
    (fin : ∀ ys, Pz n ys → Fin ys news) : ∀ (k i : Nat) (ys : List Value), i + k = n → Pz i ys → LCt.CompRestT prog w A h₀ L m env ct elt x scope cl s S P Fin k i ys news := by
  intro k
  induction k with
  | zero =>
    intro i ys e q
    refine LCt.CompRestT.zero (fin ys ?_)
    rw [← e]; exact q
  | succ k ih =>
    intro i ys e q
    refine LCt.CompRestT.succ fun v I oI C oC D m₂ h tk E' a1 a2 a3 a4 a5 a6 a7 => wpAny_mono (step i ys v I oI C oC D m₂ h tk E' a1 q a2 a3 a4 a5 a6 a7) (fun ok s' z => ?_) fun _ _ z => z
    cases ok with
    | true =>
      simp only [if_true] at z ⊢
      refine wpAny_mono z (fun y s'' z => compEnd_mono z ?_) fun _ _ z => z
      rintro y n ⟨b1, rfl⟩
      exact ih (i + 1) _ (by omega) b1
    | false =>
      simp only [Bool.false_eq_true, if_false] at z ⊢
      refine compEnd_mono z ?_
      rintro y n ⟨b1, rfl⟩
      exact ih (i + 1) _ (by omega) b1
/-- the frames of a list, as the ledger bears them: the word and the number of each -/
inductive FrsAre (big : Led) : List Value → List (PySem.Str × Int) → Prop
  | nil : FrsAre big [] []
  | cons {f df nl dn : Addr} {fh : Nat → Int} {ft : Nat → Tok} {wd : PySem.Str} {nu : Int} {t3 t4 : Tok} {lo : Bool} {vs : List Value} {xs : List (PySem.Str × Int)} (m1 : (f, instObj 129 df) ∈ big) (m2 : (df, fDict fh ft wd t3 nu t4 dn nl lo) ∈ big) (r : FrsAre big vs xs) : FrsAre big (.ref f :: vs) ((wd, nu) :: xs)
theorem FrsAre.at {big : Led} : ∀ {vs : List Value} {xs : List (PySem.Str × Int)}, FrsAre big vs xs → ∀ {i : Nat} {v : Value}, vs[i]? = some v → ∃ f df nl dn fh ft wd nu t3 t4 lo, v = .ref f ∧ (f, instObj 129 df) ∈ big ∧ (df, fDict fh ft wd t3 nu t4 dn nl lo) ∈ big ∧ xs.take (i + 1) = xs.take i ++ [(wd, nu)]
  | _, _, .cons m1 m2 r, 0, v, h => by cases h; exact ⟨_, _, _, _, _, _, _, _, _, _, _, rfl, m1, m2, rfl⟩
  | _, _, .cons m1 m2 r, i + 1, v, h => by
    obtain ⟨f, df, nl, dn, fh, ft, wd, nu, t3, t4, lo, a, b, c, d⟩ := r.at (i := i) (by simpa using h)
    exact ⟨f, df, nl, dn, fh, ft, wd, nu, t3, t4, lo, a, b, c, by rw [List.take_succ_cons, d, List.take_succ_cons, List.cons_append]⟩
theorem FrsAre.len {big : Led} : ∀ {vs : List Value} {xs : List (PySem.Str × Int)}, FrsAre big vs xs → xs.length = vs.length
  | _, _, .nil => rfl
  | _, _, .cons _ _ r => by rw [List.length_cons, List.length_cons, r.len]
/-- the numbers of the groups that are open -/
noncomputable def gnums (xs : List (PySem.Str × Int)) : List Int := (xs.filter fun x => x.1 == PySem.Str.ofString "group").map (·.2)
theorem intsAre_app {vs ws : List Value} {ns ms : List Int} (a : IntsAre vs ns) (b : IntsAre ws ms) : IntsAre (vs ++ ws) (ns ++ ms) := by
  induction a with
  | nil => exact b
  | cons n t _ ih => exact .cons n t ih
theorem gnums_in {xs : List (PySem.Str × Int)} {wd : PySem.Str} {nu : Int} (h : (wd == PySem.Str.ofString "group") = true) : gnums (xs ++ [(wd, nu)]) = gnums xs ++ [nu] := by
  simp only [gnums, List.filter_append, List.filter_cons, h, if_true, List.filter_nil, List.map_append, List.map_cons, List.map_nil]
theorem gnums_out {xs : List (PySem.Str × Int)} {wd : PySem.Str} {nu : Int} (h : (wd == PySem.Str.ofString "group") = false) : gnums (xs ++ [(wd, nu)]) = gnums xs := by
  simp only [gnums, List.filter_append, List.filter_cons, h, List.filter_nil, List.append_nil, Bool.false_eq_true, if_false]
theorem any_mem {l : List Int} {k : Int} (h : (l.any fun x => x == k) = true) : k ∈ l := by
  obtain ⟨x, hx, e⟩ := List.any_eq_true.mp h
  rw [← beq_iff_eq.mp e]; exact hx
theorem any_nmem {l : List Int} {k : Int} (h : (l.any fun x => x == k) = false) (m : k ∈ l) : False := by
  have := List.any_eq_false.mp h k m
  exact this (beq_self_eq_true k)
noncomputable def Hold2 (q : Prop) : Prop := q
theorem hold2_ {q : Prop} (h : Hold2 q) : q := h
theorem rows_at17 : True := by
  k_with "CompSrcT" => ((k_here; refine hold2_ ?_))
  k_with "CompEnd" => ((k_here; refine hold2_ ?_))
  trivial
theorem back_both {k : Int} {tk0 : Tok} {xs : List (PySem.Str × Int)} (fa : FrsAre (led7 p dp fl f df nl dn c ph fh pt ft pl gr nu t1 t2 t3 t4 wd lo fs nodes ds n1 n2 n3 rest) (fs ++ [.ref f]) xs) (dj : Dj p dp fl f df nl dn rest) (hzf : fs.length ≤ 1000) (hzn : nodes.length ≤ 1000) :
    Ctr w mean mg mb 215 [.ref p, .int k tk0] (led7 p dp fl f df nl dn c ph fh pt ft pl gr nu t1 t2 t3 t4 wd lo fs nodes ds n1 n2 n3 rest) 8 200 (fun _ => True)
      (fun r led' => ¬ (gr < k ∨ k ∈ gnums xs) ∧ r = .none ∧ ∃ v n2', led' = led7 p dp fl f df nl dn c ph fh pt ft pl gr nu t1 t2 t3 t4 wd false fs (nodes ++ [v]) ds n1 n2' n3 rest) (fun msg => (gr < k ∨ k ∈ gnums xs) ∧ msg = sS "Invalid back reference") := by
  intro dp' un gd cn cs a ccd cl outer A₀ base h₀ L m s Q E B F X N T hk hdp hun hG hret herr
  refine wpAny_call ?_
  (k_dflt cell_enter)
  have hl2 : (fs ++ [Value.ref f]).length = fs.length + 1 := by simp
  k_steps
  · exact herr _ _ _ _ _ ⟨.inl (by omega), rfl⟩ (by assumption) (by assumption)
  · unfold Hold2
    refine LCt.CompSrcT.ledger (by rfl) (by k_asm) (by k_asm) (by k_mem) (by rw [List.size_toArray, PySem.sizeLine_eq]; omega) ?_
    intro g9
    refine compT_ind (w := w) (fun i ys => IntsAre ys (gnums (xs.take i))) ?_ (fs ++ [Value.ref f]).toArray.size ?_ _ 0 [] (by omega) .nil
    · intro i ys v I oI C oC D m₂ h tk E' hv hys hC hx F' N' off ne
      obtain ⟨f0, df0, nl0, dn0, fh0, ft0, wd0, nu0, u3, u4, lo0, rfl, y1, y2, y3⟩ := fa.at (by simpa using hv)
      have z1 : (f0, instObj 129 df0) ∈ (I, oI) :: (C, oC) :: (D, LCg.lst ys) :: (led7 p dp fl f df nl dn c ph fh pt ft pl gr nu t1 t2 t3 t4 wd lo fs nodes ds n1 n2 n3 rest) := .tail _ (.tail _ (.tail _ y1))
      have z2 : (df0, fDict fh0 ft0 wd0 u3 nu0 u4 dn0 nl0 lo0) ∈ (I, oI) :: (C, oC) :: (D, LCg.lst ys) :: (led7 p dp fl f df nl dn c ph fh pt ft pl gr nu t1 t2 t3 t4 wd lo fs nodes ds n1 n2 n3 rest) := .tail _ (.tail _ (.tail _ y2))
      have z3 : (fl, lst (fs ++ [.ref f]) n1) ∈ (led7 p dp fl f df nl dn c ph fh pt ft pl gr nu t1 t2 t3 t4 wd lo fs nodes ds n1 n2 n3 rest) := .tail _ (.tail _ (.head _))
      generalize led7 p dp fl f df nl dn c ph fh pt ft pl gr nu t1 t2 t3 t4 wd lo fs nodes ds n1 n2 n3 rest = big at *
      rw [y3]
      k_steps
      · unfold Hold2
        refine LCg.CompEnd.intro (by assumption) (by assumption) big (fun _ h => h) (by assumption) (.inr ⟨_, z3, rfl, _, rfl⟩) ⟨?_, rfl⟩
        rw [gnums_in (by assumption)]
        exact intsAre_app hys (.cons _ _ .nil)
      · unfold Hold2
        refine LCg.CompEnd.intro (by assumption) (by assumption) big (fun _ h => h) (by assumption) (.inr ⟨_, z3, rfl, _, rfl⟩) ⟨?_, rfl⟩
        rw [gnums_out (by first | assumption | (simp_all; done))]
        exact hys
    · intro ys hys
      rw [List.take_of_length_le (by rw [fa.len]; simp)] at hys
      unfold LCg.FinE
      intro D h tk F N o1
      simp only [LCg.Off1] at o1
      k_steps
      · exact herr _ _ _ _ _ ⟨.inr (any_mem (by assumption)), rfl⟩ (by assumption) (by assumption)
      · refine hret _ _ _ _ (by assumption) (by assumption) ⟨?_, rfl, _, _, rfl⟩
        rintro (z | z)
        · omega
        · exact any_nmem (by assumption) z
theorem back_c {k : Int} {tk0 : Tok} {xs : List (PySem.Str × Int)} (fa : FrsAre (led7 p dp fl f df nl dn c ph fh pt ft pl gr nu t1 t2 t3 t4 wd lo fs nodes ds n1 n2 n3 rest) (fs ++ [.ref f]) xs) (hg : ¬ (gr < k ∨ k ∈ gnums xs)) (dj : Dj p dp fl f df nl dn rest) (hzf : fs.length ≤ 1000) (hzn : nodes.length ≤ 1000) :
    Ctr w mean mg mb 215 [.ref p, .int k tk0] (led7 p dp fl f df nl dn c ph fh pt ft pl gr nu t1 t2 t3 t4 wd lo fs nodes ds n1 n2 n3 rest) 8 200 (fun _ => True)
      (fun r led' => r = .none ∧ ∃ v n2', led' = led7 p dp fl f df nl dn c ph fh pt ft pl gr nu t1 t2 t3 t4 wd false fs (nodes ++ [v]) ds n1 n2' n3 rest) (fun _ => False) :=
  (back_both fa dj hzf hzn).mono (fun _ _ q => q.2) fun _ q => hg q.1
theorem back_e {k : Int} {tk0 : Tok} {xs : List (PySem.Str × Int)} (fa : FrsAre (led7 p dp fl f df nl dn c ph fh pt ft pl gr nu t1 t2 t3 t4 wd lo fs nodes ds n1 n2 n3 rest) (fs ++ [.ref f]) xs) (hg : gr < k ∨ k ∈ gnums xs) (dj : Dj p dp fl f df nl dn rest) (hzf : fs.length ≤ 1000) (hzn : nodes.length ≤ 1000) :
    Ctr w mean mg mb 215 [.ref p, .int k tk0] (led7 p dp fl f df nl dn c ph fh pt ft pl gr nu t1 t2 t3 t4 wd lo fs nodes ds n1 n2 n3 rest) 8 200 (fun _ => True)
      (fun _ _ => False) (fun msg => msg = sS "Invalid back reference") :=
  (back_both fa dj hzf hzn).mono (fun _ _ q => q.1 hg) fun _ q => q.2
end
section
variable {w : World} {mean : ExcName → Option Value} {mg mb : PySem.Str → Option Value} {p dp fl f df nl dn c : Addr} {ph fh : Nat → Int} {pt ft : Nat → Tok} {pl gr nu : Int} {t1 t2 t3 t4 : Tok} {wd : PySem.Str} {lo : Bool} {fs nodes ds : List Value} {n1 n2 n3 : Nat} {vs : List Value} {ns : List Int} {rest : Led}
theorem rows_at18 : True := by
  k_with_none
  k_with "m:k_ne" => ((refine neN ?_; (try dsimp only); first | exact Ap.ne (by assumption) | exact Ap.swap (by assumption) | exact off_ne (by assumption) (by k_mem) | exact (off_ne (by assumption) (by k_mem)).symm | omega))
  k_with "m:k_all" => (first | exact Off.all (by assumption) | exact off_lt (by first | assumption | simp only [*]))
  k_with "m:size_fits" => ((simp only [List.size_toArray, PySem.sizeLine_eq]; omega))
  k_with "subscriptTail" => ((k_here; (with_reducible show wpAny _ _ (subscriptTail _ _ (Value.ref _) (Value.int (-1) _)) _ _ _); (with_unfolding_all refine' last_item ?k1 ?k2 ?_ ?k3; (case k1 => first | is_list | exact News.isList (by k_asm) (by k_mem)); (case k2 => assumption); (case k3 => with_unfolding_all rfl); k_whole)))
  k_with "exec Raise some none" => ((k_here; refine raise_D rfl ?_))
  k_with "call ref" => ((k_here; (with_reducible show wpAny _ _ (call (Value.ref 70) [Value.str _ _]) _ _ _); k_dflt (refine' bad_made ?k1 ?k2 ?k3 ?k4 ?k5 ?k6 ?k7 ?k8 ?_; (case k1 => k_asm); (case k2 => k_asm); (case k3 => k_asm); (case k4 => k_asm); (case k5 => k_asm); (case k6 => rfl); (case k7 => ktr_room); (case k8 => ktr_units); k_whole; intro e'z news'z h'z tk'z F'z N'z hin'z hX'z; (try k_sweep))))
  k_with "RaiseEnd" => ((k_here; refine raiseEnd_ (by k_asm) (by k_asm) (by k_asm) (by assumption) ?_))
  k_with "leaving ref" => ((k_here; first | (refine' leave_firstD ?k1 ?k2 ?k3 ?k4 ?k5 ?k6 ?_; (case k4 => assumption); (case k1 => assumption); (case k2 => assumption); (case k3 => k_asm); (case k5 => exact rfl); (case k6 => exact rfl); k_whole; intro h'z R'z; (try dsimp only at R'z ⊢)) | (refine' leave_onD ?k1 ?k2 ?kF ?k3 ?_; (case k3 => assumption); (case k1 => exact rfl); (case k2 => exact rfl); (case kF => assumption); k_whole; intro h'z R'z; (try dsimp only at R'z ⊢))))
  k_with "m:is_list" => (exact News.isList (by k_asm) (by k_mem))
  k_with "call builtin:len" => ((k_here; (with_reducible show wpAny _ _ (call (Value.builtin "len") [Value.ref _]) _ _ _); k_dflt (refine' len_led ?k1 ?k2 ?_; (case k1 => exact News.isList (by k_asm) (by k_mem)); (case k2 => ((try simp only [List.length_append, List.length_cons, List.length_nil] at *); omega)); intro t'z t2'z)))
  k_with "compareOp Eq ref ref" => ((k_here; (with_reducible show wpAny _ _ (compareOp CmpOp.Eq (Value.ref _) (Value.ref _)) _ _ _); k_dflt (refine' eq_empty ?k1 ?k2 ?k3 ?_; (case k1 => exact News.isList (by k_asm) (by k_mem)); (case k2 => exact News.isList (by k_asm) (by k_mem)); (case k3 => ktr_units))))
  k_with "call type:tuple" => ((k_here; (with_reducible show wpAny _ _ (call (Value.type _) [Value.ref _]) _ _ _); k_dflt (refine' tuple_led ?k1 ?k2 ?k3 ?k4 ?_; (case k1 => k_asm); (case k2 => k_asm); (case k3 => exact News.isList (by k_asm) (by k_mem)); (case k4 => ((try simp only [List.length_append, List.length_cons, List.length_nil] at *); omega)); k_whole; intro l'z h'z F'z N'z; (try k_sweep))))
  k_with "binaryOp Add ref ref" => ((k_here; (with_reducible show wpAny _ _ (binaryOp _ (Value.ref _) (Value.ref _)) _ _ _); k_dflt (refine' add_led ?k1 ?k2 ?k3 ?k5 ?k4 ?_; (case k1 => k_asm); (case k2 => k_asm); (case k3 => exact News.isList (by k_asm) (by k_mem)); (case k5 => exact News.isList (by k_asm) (by k_mem)); (case k4 => ((try simp only [List.length_append, List.length_cons, List.length_nil] at *); omega)); k_whole; intro l'z h'z F'z N'z l1; (try k_lt l1); (try k_sweep))))
  k_with "subscriptTail" => ((k_here; (with_reducible show wpAny _ _ (subscriptTail _ _ (Value.ref _) (Value.int 0 _)) _ _ _); (with_unfolding_all refine' first_item ?k1 ?k2 ?_ ?k3; (case k1 => exact News.isList (by k_asm) (by k_mem)); (case k2 => omega); (case k3 => with_unfolding_all rfl); k_whole; intro x'z)))
  k_with "call builtin:list.append" => ((k_here; (with_reducible show wpAny _ _ (call (Value.builtin _) [Value.ref _, _]) _ _ _); k_dflt (refine' append_led ?k1 ?k2 ?k3 ?k4 ?_; (case k1 => k_asm); (case k2 => k_asm); (case k3 => k_upd); (case k4 => ((try simp only [List.length_append, List.length_cons, List.length_nil] at *); omega)); k_whole); intro h'z F'z N'z; (try k_sweep)))
  k_with "ite" => ((k_closed; k_dflt (first | refine ite_pos (by decide +kernel) ?_ | refine ite_neg (by decide +kernel) ?_)))
  k_with "ite" => ((k_here; first | refine ite_pos (by with_reducible assumption) ?_ | refine ite_neg (ntt (by with_reducible assumption)) ?_))
  k_with "m:ktn_open" => (((repeat (refine InAll.cons (by k_mem) ?_)); (repeat (refine InAll.skip ?_)); exact InAll.refl _))
  k_with "call builtin:list.pop" => ((k_here; (with_reducible show wpAny _ _ (call (Value.builtin _) [Value.ref _]) _ _ _); k_dflt (refine' pop_end ?k1 ?k2 ?k3 ?k4 ?_; (case k1 => k_asm); (case k2 => k_asm); (case k3 => k_upd); (case k4 => ((try simp only [List.length_append, List.length_cons, List.length_nil] at *); omega)); k_whole); intro h'z F'z N'z; (try k_sweep)))
  k_with "eval Constant int" => ((k_here; refine const_int_mk ?_))
  k_with "eval Constant str" => ((k_here; refine const_str_mk ?_))
  k_with "binaryOp Add int int" => ((k_here; refine add_int_mk ?_))
  k_with "binaryOp Sub int int" => ((k_here; refine sub_int_mk ?_))
  k_with "m:ktr_rel" => (first | exact InAll.refl _ | exact InAll.two (by k_mem) (by k_mem) | (refine InAll.skip ?_; ktr_rel) | (refine' InAll.seven ?a1 ?a2 ?a3 ?a4 ?a5 ?a6 ?a7 ?a8; (case a1 => k_mem); (case a2 => k_mem); (case a3 => k_mem); (case a4 => k_mem); (case a5 => k_mem); (case a6 => k_mem); (case a7 => k_mem); (case a8 => ((repeat (apply InAll.skip)); exact InAll.refl _))))
  k_with "call ref" => ((k_here; (with_reducible show wpAny _ _ (call (Value.ref 154) [_]) _ _ _); k_dflt (refine' Ctr.use (top_c ?m1 ?m2 ?m3 ?z) ?kB ?kF ?kX ?kN ?kI ?kT ?kk ?kd ?ku ?kG ?_ ?ke; (case kB => k_asm); (case kF => k_asm); (case kX => k_asm); (case kN => k_asm); (case kI => ktr_rel); (case m1 => k_mem); (case m2 => k_mem); (case m3 => k_mem); (case z => assumption); (case kT => k_asm); (case kk => exact rfl); (case kd => ktr_room); (case ku => ktr_units); (case kG => trivial); (case ke => (intro _ _ _ _ _ q; exact q.elim)); (intro v'z h'z tk'z led'z F'z N'z q'z; obtain ⟨e1'z, e2'z⟩ := q'z; subst e1'z e2'z; (try k_sweep)))))
  k_with "call ref" => ((k_here; (with_reducible show wpAny _ _ (call (Value.ref 112) [_, _]) _ _ _); k_dflt (refine' Ctr.use (put_c ?j ?z) ?kB ?kF ?kX ?kN ?kI ?kT ?kk ?kd ?ku ?kG ?_ ?ke; (case kB => k_asm); (case kF => k_asm); (case kX => k_asm); (case kN => k_asm); (case kI => ktr_rel); (case j => assumption); (case z => first | assumption | omega); (case kT => k_asm); (case kk => exact rfl); (case kd => ktr_room); (case ku => ktr_units); (case kG => trivial); (case ke => (intro _ _ _ _ _ q; exact q.elim)); (intro v'z h'z tk'z led'z F'z N'z q'z; obtain ⟨e1'z, n2'z, e2'z⟩ := q'z; subst e1'z e2'z; (try k_sweep)))))
  k_with "call ref" => ((k_here; (with_reducible show wpAny _ _ (call (Value.ref 119) [_]) _ _ _); k_dflt (refine' Ctr.use (part_c ?j ?z ?z2) ?kB ?kF ?kX ?kN ?kI ?kT ?kk ?kd ?ku ?kG ?_ ?ke; (case kB => k_asm); (case kF => k_asm); (case kX => k_asm); (case kN => k_asm); (case kI => ktr_rel); (case j => assumption); (case z => assumption); (case z2 => assumption); (case kT => k_asm); (case kk => exact rfl); (case kd => ktr_room); (case ku => ktr_units); (case kG => trivial); (case ke => (intro _ _ _ _ _ q; exact q.elim)); (intro v'z h'z tk'z led'z F'z N'z q'z; obtain ⟨e1'z, nl'z, n2'z, n3'z, ds'z, dj'z, hl'z, e2'z⟩ := q'z; subst e1'z e2'z; (try k_sweep)))))
  k_with "call ref" => ((k_here; (with_reducible show wpAny _ _ (call _ (_ ++ _)) _ _ _); dsimp only [List.nil_append, List.cons_append]; walk_at "call ref"))
  trivial
theorem Ctr.up {fn : Addr} {args : List Value} {news : Led} {nd nu nd' nu' : Nat} {G G' : Heap → Prop} {R : Value → Led → Prop} {Er : PySem.Str → Prop} (C : Ctr w mean mg mb fn args news nd nu G R Er) (h1 : nd ≤ nd') (h2 : nu ≤ nu') (hG : ∀ h, G' h → G h) : Ctr w mean mg mb fn args news nd' nu' G' R Er :=
  fun dp un gd cn cs a ccd cl outer A₀ base h₀ L m s Q E B F X N T hk hd hu hg ret err => C dp un gd cn cs a ccd cl outer A₀ base h₀ L m s Q E B F X N T hk (by omega) (by omega) (hG _ hg) ret err
/-- a call by a contract at hand; the ways that raise go on -/
theorem rows_at19 : True := by
  k_with "call ref" => ((k_here; k_dflt (refine' Ctr.use ?C ?kB ?kF ?kX ?kN ?kI ?kT ?kk ?kd ?ku ?kG ?kR3 ?ke3; (case C => first | assumption | exact (by assumption : ∀ tk : Tok, Ctr _ _ _ _ _ [_, Value.int _ tk] _ _ _ _ _ _) _); (case kB => k_asm); (case kF => k_asm); (case kX => k_asm); (case kN => k_asm); (case kI => exact InAll.refl _); (case kT => k_asm); (case kk => exact rfl); (case kd => ktr_room); (case ku => ktr_units); (case kG => assumption); (case' kR3 => (intro v'z h'z tk'z led'z F'z N'z q'z; (try k_sweep))); (case' ke3 => (intro e'z msg'z g'z h'z tk'z hm'z FG'z R'z; (try dsimp only at R'z ⊢))))))
  k_with "call ref" => ((k_here; k_dflt (refine' Ctr.use ?C ?kB ?kF ?kX ?kN ?kI ?kT ?kk ?kd ?ku ?kG ?kR2 ?ke2; (case C => first | assumption | exact (by assumption : ∀ tk : Tok, Ctr _ _ _ _ _ [_, Value.int _ tk] _ _ _ _ _ _) _); (case kB => k_asm); (case kF => k_asm); (case kX => k_asm); (case kN => k_asm); (case kI => exact InAll.refl _); (case kT => k_asm); (case kk => exact rfl); (case kd => ktr_room); (case ku => ktr_units); (case kG => assumption); (case' kR2 => (intro v'z h'z tk'z led'z F'z N'z q'z; (try k_sweep))); (case' ke2 => (intro e'z msg'z g'z h'z tk'z hm'z FG'z R'z; (try dsimp only at R'z ⊢))))))
  k_with "call ref" => ((k_here; k_dflt (refine' Ctr.use ?C ?kB ?kF ?kX ?kN ?kI ?kT ?kk ?kd ?ku ?kG ?kR ?ke; (case C => first | assumption | exact (by assumption : ∀ tk : Tok, Ctr _ _ _ _ _ [_, Value.int _ tk] _ _ _ _ _ _) _); (case kB => k_asm); (case kF => k_asm); (case kX => k_asm); (case kN => k_asm); (case kI => exact InAll.refl _); (case kT => k_asm); (case kk => exact rfl); (case kd => ktr_room); (case ku => ktr_units); (case kG => assumption); (case' kR => (intro v'z h'z tk'z led'z F'z N'z q'z; (try k_sweep))); (case' ke => (intro e'z msg'z g'z h'z tk'z hm'z FG'z R'z; (try dsimp only at R'z ⊢))))))
  trivial
variable {LED : Led} {R : Value → Led → Prop} {Er : PySem.Str → Prop}
theorem disp_open {tk0 : Tok} (m1 : (p, instObj 253 dp) ∈ LED) (m2 : (dp, pDict ph pt c pl t1 fl gr t2) ∈ LED) (Ho : Ctr w mean mg mb 222 [.ref p] LED 10 300 (fun h => h.IsList c vs.toArray) R Er) :
    Ctr w mean mg mb 196 [.ref p, .str (sS "(") tk0] LED 12 340 (fun h => h.IsList c vs.toArray) (fun v l => v = .none ∧ ∃ v0, R v0 l) Er := by
  intro dp' un gd cn cs a ccd cl outer A₀ base h₀ L m s Q E B F X N T hk hdp hun hG hret herr
  refine wpAny_call ?_
  (k_dflt cell_enter)
  have hG' := Fr.lst (by assumption) hG
  k_steps
  · exact herr _ _ _ _ _ (by assumption) (by assumption) (by assumption)
  · exact hret _ _ _ _ (by assumption) (by assumption) ⟨rfl, _, by assumption⟩
theorem disp_close {tk0 : Tok} (m1 : (p, instObj 253 dp) ∈ LED) (m2 : (dp, pDict ph pt c pl t1 fl gr t2) ∈ LED) (Ho : Ctr w mean mg mb 229 [.ref p] LED 10 300 (fun h => h.IsList c vs.toArray) R Er) :
    Ctr w mean mg mb 196 [.ref p, .str (sS ")") tk0] LED 12 340 (fun h => h.IsList c vs.toArray) (fun v l => v = .none ∧ ∃ v0, R v0 l) Er := by
  intro dp' un gd cn cs a ccd cl outer A₀ base h₀ L m s Q E B F X N T hk hdp hun hG hret herr
  refine wpAny_call ?_
  (k_dflt cell_enter)
  have hG' := Fr.lst (by assumption) hG
  k_steps
  · exact herr _ _ _ _ _ (by assumption) (by assumption) (by assumption)
  · exact hret _ _ _ _ (by assumption) (by assumption) ⟨rfl, _, by assumption⟩
theorem disp_count {tk0 : Tok} (m1 : (p, instObj 253 dp) ∈ LED) (m2 : (dp, pDict ph pt c pl t1 fl gr t2) ∈ LED) (Ho : Ctr w mean mg mb 250 [.ref p] LED 10 300 (fun h => h.IsList c vs.toArray) R Er) :
    Ctr w mean mg mb 196 [.ref p, .str (sS "{") tk0] LED 12 340 (fun h => h.IsList c vs.toArray) (fun v l => v = .none ∧ ∃ v0, R v0 l) Er := by
  intro dp' un gd cn cs a ccd cl outer A₀ base h₀ L m s Q E B F X N T hk hdp hun hG hret herr
  refine wpAny_call ?_
  (k_dflt cell_enter)
  have hG' := Fr.lst (by assumption) hG
  k_steps
  · exact herr _ _ _ _ _ (by assumption) (by assumption) (by assumption)
  · exact hret _ _ _ _ (by assumption) (by assumption) ⟨rfl, _, by assumption⟩
theorem disp_back1 {tk0 : Tok} (m1 : (p, instObj 253 dp) ∈ LED) (m2 : (dp, pDict ph pt c pl t1 fl gr t2) ∈ LED) (Ho : ∀ tk, Ctr w mean mg mb 215 [.ref p, .int 1 tk] LED 10 300 (fun h => h.IsList c vs.toArray) R Er) :
    Ctr w mean mg mb 196 [.ref p, .str (sS "1") tk0] LED 12 340 (fun h => h.IsList c vs.toArray) (fun v l => v = .none ∧ ∃ v0, R v0 l) Er := by
  have hk1 : ((((sS "1").cps.getD 0 0 : Nat) : Int) - 48) = 1 := by decide +kernel
  have Ho2 : ∀ tk, Ctr w mean mg mb 215 [.ref p, .int ((((sS "1").cps.getD 0 0 : Nat) : Int) - 48) tk] LED 10 300 (fun h => h.IsList c vs.toArray) R Er := fun tk => by rw [hk1]; exact Ho tk
  intro dp' un gd cn cs a ccd cl outer A₀ base h₀ L m s Q E B F X N T hk hdp hun hG hret herr
  refine wpAny_call ?_
  (k_dflt cell_enter)
  have hG' := Fr.lst (by assumption) hG
  k_steps
  · exact herr _ _ _ _ _ (by assumption) (by assumption) (by assumption)
  · exact hret _ _ _ _ (by assumption) (by assumption) ⟨rfl, _, by assumption⟩
theorem disp_back2 {tk0 : Tok} (m1 : (p, instObj 253 dp) ∈ LED) (m2 : (dp, pDict ph pt c pl t1 fl gr t2) ∈ LED) (Ho : ∀ tk, Ctr w mean mg mb 215 [.ref p, .int 2 tk] LED 10 300 (fun h => h.IsList c vs.toArray) R Er) :
    Ctr w mean mg mb 196 [.ref p, .str (sS "2") tk0] LED 12 340 (fun h => h.IsList c vs.toArray) (fun v l => v = .none ∧ ∃ v0, R v0 l) Er := by
  have hk1 : ((((sS "2").cps.getD 0 0 : Nat) : Int) - 48) = 2 := by decide +kernel
  have Ho2 : ∀ tk, Ctr w mean mg mb 215 [.ref p, .int ((((sS "2").cps.getD 0 0 : Nat) : Int) - 48) tk] LED 10 300 (fun h => h.IsList c vs.toArray) R Er := fun tk => by rw [hk1]; exact Ho tk
  intro dp' un gd cn cs a ccd cl outer A₀ base h₀ L m s Q E B F X N T hk hdp hun hG hret herr
  refine wpAny_call ?_
  (k_dflt cell_enter)
  have hG' := Fr.lst (by assumption) hG
  k_steps
  · exact herr _ _ _ _ _ (by assumption) (by assumption) (by assumption)
  · exact hret _ _ _ _ (by assumption) (by assumption) ⟨rfl, _, by assumption⟩
theorem disp_syntax {tk0 : Tok} (m1 : (p, instObj 253 dp) ∈ LED) (m2 : (dp, pDict ph pt c pl t1 fl gr t2) ∈ LED) (Ho : Ctr w mean mg mb 203 [.ref p, .bool false] LED 10 300 (fun h => h.IsList c vs.toArray) R Er) :
    Ctr w mean mg mb 196 [.ref p, .str (sS "s") tk0] LED 12 340 (fun h => h.IsList c vs.toArray) (fun v l => v = .none ∧ ∃ v0, R v0 l) Er := by
  intro dp' un gd cn cs a ccd cl outer A₀ base h₀ L m s Q E B F X N T hk hdp hun hG hret herr
  refine wpAny_call ?_
  (k_dflt cell_enter)
  have hG' := Fr.lst (by assumption) hG
  k_steps
  · exact herr _ _ _ _ _ (by assumption) (by assumption) (by assumption)
  · exact hret _ _ _ _ (by assumption) (by assumption) ⟨rfl, _, by assumption⟩
theorem disp_symbol {tk0 : Tok} (m1 : (p, instObj 253 dp) ∈ LED) (m2 : (dp, pDict ph pt c pl t1 fl gr t2) ∈ LED) (Ho : Ctr w mean mg mb 210 [.ref p] LED 10 300 (fun h => h.IsList c vs.toArray) R Er) :
    Ctr w mean mg mb 196 [.ref p, .str (sS "_") tk0] LED 12 340 (fun h => h.IsList c vs.toArray) (fun v l => v = .none ∧ ∃ v0, R v0 l) Er := by
  intro dp' un gd cn cs a ccd cl outer A₀ base h₀ L m s Q E B F X N T hk hdp hun hG hret herr
  refine wpAny_call ?_
  (k_dflt cell_enter)
  have hG' := Fr.lst (by assumption) hG
  k_steps
  · exact herr _ _ _ _ _ (by assumption) (by assumption) (by assumption)
  · exact hret _ _ _ _ (by assumption) (by assumption) ⟨rfl, _, by assumption⟩
end
section
variable {w : World} {mean : ExcName → Option Value} {mg mb : PySem.Str → Option Value} {p dp fl f df nl dn c : Addr} {ph fh : Nat → Int} {pt ft : Nat → Tok} {pl gr nu : Int} {t1 t2 t3 t4 : Tok} {wd : PySem.Str} {lo : Bool} {fs nodes ds : List Value} {n1 n2 n3 : Nat} {vs : List Value} {ns : List Int} {rest : Led}
theorem rows_at20 : True := by
  k_with_none
  k_with "m:k_ne" => ((refine neN ?_; (try dsimp only); first | exact Ap.ne (by assumption) | exact Ap.swap (by assumption) | exact off_ne (by assumption) (by k_mem) | exact (off_ne (by assumption) (by k_mem)).symm | omega))
  k_with "m:k_all" => (first | exact Off.all (by assumption) | exact off_lt (by first | assumption | simp only [*]))
  k_with "m:size_fits" => ((simp only [List.size_toArray, PySem.sizeLine_eq]; omega))
  k_with "subscriptTail" => ((k_here; (with_reducible show wpAny _ _ (subscriptTail _ _ (Value.ref _) (Value.int (-1) _)) _ _ _); (with_unfolding_all refine' last_item ?k1 ?k2 ?_ ?k3; (case k1 => first | is_list | exact News.isList (by k_asm) (by k_mem)); (case k2 => assumption); (case k3 => with_unfolding_all rfl); k_whole)))
  k_with "exec Raise some none" => ((k_here; refine raise_D rfl ?_))
  k_with "call ref" => ((k_here; (with_reducible show wpAny _ _ (call (Value.ref 70) [Value.str _ _]) _ _ _); k_dflt (refine' bad_made ?k1 ?k2 ?k3 ?k4 ?k5 ?k6 ?k7 ?k8 ?_; (case k1 => k_asm); (case k2 => k_asm); (case k3 => k_asm); (case k4 => k_asm); (case k5 => k_asm); (case k6 => rfl); (case k7 => ktr_room); (case k8 => ktr_units); k_whole; intro e'z news'z h'z tk'z F'z N'z hin'z hX'z; (try k_sweep))))
  k_with "RaiseEnd" => ((k_here; refine raiseEnd_ (by k_asm) (by k_asm) (by k_asm) (by assumption) ?_))
  k_with "leaving ref" => ((k_here; first | (refine' leave_firstD ?k1 ?k2 ?k3 ?k4 ?k5 ?k6 ?_; (case k4 => assumption); (case k1 => assumption); (case k2 => assumption); (case k3 => k_asm); (case k5 => exact rfl); (case k6 => exact rfl); k_whole; intro h'z R'z; (try dsimp only at R'z ⊢)) | (refine' leave_onD ?k1 ?k2 ?kF ?k3 ?_; (case k3 => assumption); (case k1 => exact rfl); (case k2 => exact rfl); (case kF => assumption); k_whole; intro h'z R'z; (try dsimp only at R'z ⊢))))
  k_with "m:is_list" => (exact News.isList (by k_asm) (by k_mem))
  k_with "call builtin:len" => ((k_here; (with_reducible show wpAny _ _ (call (Value.builtin "len") [Value.ref _]) _ _ _); k_dflt (refine' len_led ?k1 ?k2 ?_; (case k1 => exact News.isList (by k_asm) (by k_mem)); (case k2 => ((try simp only [List.length_append, List.length_cons, List.length_nil] at *); omega)); intro t'z t2'z)))
  k_with "compareOp Eq ref ref" => ((k_here; (with_reducible show wpAny _ _ (compareOp CmpOp.Eq (Value.ref _) (Value.ref _)) _ _ _); k_dflt (refine' eq_empty ?k1 ?k2 ?k3 ?_; (case k1 => exact News.isList (by k_asm) (by k_mem)); (case k2 => exact News.isList (by k_asm) (by k_mem)); (case k3 => ktr_units))))
  k_with "call type:tuple" => ((k_here; (with_reducible show wpAny _ _ (call (Value.type _) [Value.ref _]) _ _ _); k_dflt (refine' tuple_led ?k1 ?k2 ?k3 ?k4 ?_; (case k1 => k_asm); (case k2 => k_asm); (case k3 => exact News.isList (by k_asm) (by k_mem)); (case k4 => ((try simp only [List.length_append, List.length_cons, List.length_nil] at *); omega)); k_whole; intro l'z h'z F'z N'z; (try k_sweep))))
  k_with "binaryOp Add ref ref" => ((k_here; (with_reducible show wpAny _ _ (binaryOp _ (Value.ref _) (Value.ref _)) _ _ _); k_dflt (refine' add_led ?k1 ?k2 ?k3 ?k5 ?k4 ?_; (case k1 => k_asm); (case k2 => k_asm); (case k3 => exact News.isList (by k_asm) (by k_mem)); (case k5 => exact News.isList (by k_asm) (by k_mem)); (case k4 => ((try simp only [List.length_append, List.length_cons, List.length_nil] at *); omega)); k_whole; intro l'z h'z F'z N'z l1; (try k_lt l1); (try k_sweep))))
  k_with "subscriptTail" => ((k_here; (with_reducible show wpAny _ _ (subscriptTail _ _ (Value.ref _) (Value.int 0 _)) _ _ _); (with_unfolding_all refine' first_item ?k1 ?k2 ?_ ?k3; (case k1 => exact News.isList (by k_asm) (by k_mem)); (case k2 => omega); (case k3 => with_unfolding_all rfl); k_whole; intro x'z)))
  k_with "call builtin:list.append" => ((k_here; (with_reducible show wpAny _ _ (call (Value.builtin _) [Value.ref _, _]) _ _ _); k_dflt (refine' append_led ?k1 ?k2 ?k3 ?k4 ?_; (case k1 => k_asm); (case k2 => k_asm); (case k3 => k_upd); (case k4 => ((try simp only [List.length_append, List.length_cons, List.length_nil] at *); omega)); k_whole); intro h'z F'z N'z; (try k_sweep)))
  k_with "ite" => ((k_closed; k_dflt (first | refine ite_pos (by decide +kernel) ?_ | refine ite_neg (by decide +kernel) ?_)))
  k_with "ite" => ((k_here; first | refine ite_pos (by with_reducible assumption) ?_ | refine ite_neg (ntt (by with_reducible assumption)) ?_))
  k_with "m:ktn_open" => (((repeat (refine InAll.cons (by k_mem) ?_)); (repeat (refine InAll.skip ?_)); exact InAll.refl _))
  k_with "call builtin:list.pop" => ((k_here; (with_reducible show wpAny _ _ (call (Value.builtin _) [Value.ref _]) _ _ _); k_dflt (refine' pop_end ?k1 ?k2 ?k3 ?k4 ?_; (case k1 => k_asm); (case k2 => k_asm); (case k3 => k_upd); (case k4 => ((try simp only [List.length_append, List.length_cons, List.length_nil] at *); omega)); k_whole); intro h'z F'z N'z; (try k_sweep)))
  k_with "eval Constant int" => ((k_here; refine const_int_mk ?_))
  k_with "eval Constant str" => ((k_here; refine const_str_mk ?_))
  k_with "binaryOp Add int int" => ((k_here; refine add_int_mk ?_))
  k_with "binaryOp Sub int int" => ((k_here; refine sub_int_mk ?_))
  k_with "m:ktr_rel" => (first | exact InAll.refl _ | exact InAll.two (by k_mem) (by k_mem) | (refine InAll.skip ?_; ktr_rel) | (refine' InAll.seven ?a1 ?a2 ?a3 ?a4 ?a5 ?a6 ?a7 ?a8; (case a1 => k_mem); (case a2 => k_mem); (case a3 => k_mem); (case a4 => k_mem); (case a5 => k_mem); (case a6 => k_mem); (case a7 => k_mem); (case a8 => ((repeat (apply InAll.skip)); exact InAll.refl _))))
  k_with "call ref" => ((k_here; (with_reducible show wpAny _ _ (call (Value.ref 154) [_]) _ _ _); k_dflt (refine' Ctr.use (top_c ?m1 ?m2 ?m3 ?z) ?kB ?kF ?kX ?kN ?kI ?kT ?kk ?kd ?ku ?kG ?_ ?ke; (case kB => k_asm); (case kF => k_asm); (case kX => k_asm); (case kN => k_asm); (case kI => ktr_rel); (case m1 => k_mem); (case m2 => k_mem); (case m3 => k_mem); (case z => assumption); (case kT => k_asm); (case kk => exact rfl); (case kd => ktr_room); (case ku => ktr_units); (case kG => trivial); (case ke => (intro _ _ _ _ _ q; exact q.elim)); (intro v'z h'z tk'z led'z F'z N'z q'z; obtain ⟨e1'z, e2'z⟩ := q'z; subst e1'z e2'z; (try k_sweep)))))
  k_with "call ref" => ((k_here; (with_reducible show wpAny _ _ (call (Value.ref 112) [_, _]) _ _ _); k_dflt (refine' Ctr.use (put_c ?j ?z) ?kB ?kF ?kX ?kN ?kI ?kT ?kk ?kd ?ku ?kG ?_ ?ke; (case kB => k_asm); (case kF => k_asm); (case kX => k_asm); (case kN => k_asm); (case kI => ktr_rel); (case j => assumption); (case z => first | assumption | omega); (case kT => k_asm); (case kk => exact rfl); (case kd => ktr_room); (case ku => ktr_units); (case kG => trivial); (case ke => (intro _ _ _ _ _ q; exact q.elim)); (intro v'z h'z tk'z led'z F'z N'z q'z; obtain ⟨e1'z, n2'z, e2'z⟩ := q'z; subst e1'z e2'z; (try k_sweep)))))
  k_with "call ref" => ((k_here; (with_reducible show wpAny _ _ (call (Value.ref 119) [_]) _ _ _); k_dflt (refine' Ctr.use (part_c ?j ?z ?z2) ?kB ?kF ?kX ?kN ?kI ?kT ?kk ?kd ?ku ?kG ?_ ?ke; (case kB => k_asm); (case kF => k_asm); (case kX => k_asm); (case kN => k_asm); (case kI => ktr_rel); (case j => assumption); (case z => assumption); (case z2 => assumption); (case kT => k_asm); (case kk => exact rfl); (case kd => ktr_room); (case ku => ktr_units); (case kG => trivial); (case ke => (intro _ _ _ _ _ q; exact q.elim)); (intro v'z h'z tk'z led'z F'z N'z q'z; obtain ⟨e1'z, nl'z, n2'z, n3'z, ds'z, dj'z, hl'z, e2'z⟩ := q'z; subst e1'z e2'z; (try k_sweep)))))
  k_with "call ref" => ((k_here; (with_reducible show wpAny _ _ (call _ (_ ++ _)) _ _ _); dsimp only [List.nil_append, List.cons_append]; walk_at "call ref"))
  k_with "execs cons" => ((k_here; (try k_gentoks); refine execs_cons_Q ?_; intro Qk hQk))
  k_with "KQ" => ((k_here; first | refine kq_next (by assumption) ?_ | (refine kq_ret (by assumption) ?_; try dsimp only) | (refine kq_brk (by assumption) ?_; try dsimp only) | (refine kq_cont (by assumption) ?_; try dsimp only)))
  trivial
variable {LED : Led} {R : Value → Led → Prop} {Er : PySem.Str → Prop}
theorem disp_bad {tk0 : Tok} (m1 : (p, instObj 253 dp) ∈ LED) :
    Ctr w mean mg mb 196 [.ref p, .str (sS "c") tk0] LED 12 340 (fun h => h.IsList c vs.toArray) (fun _ _ => False) (fun x => x = sS "Invalid regular expression") := by
  intro dp' un gd cn cs a ccd cl outer A₀ base h₀ L m s Q E B F X N T hk hdp hun hG hret herr
  refine wpAny_call ?_
  (k_dflt cell_enter)
  k_steps
  exact herr _ _ _ _ _ rfl (by assumption) (by assumption)
theorem disp_part {tk0 : Tok} (dj : Dj p dp fl f df nl dn rest) (hzf : fs.length ≤ 1000) (hz : nodes.length ≤ 1000) (hz2 : ds.length ≤ 1000) :
    Ctr w mean mg mb 196 [.ref p, .str (sS "|") tk0] (led7 p dp fl f df nl dn c ph fh pt ft pl gr nu t1 t2 t3 t4 wd lo fs nodes ds n1 n2 n3 rest) 12 340 (fun h => h.IsList c vs.toArray)
      (fun r led' => r = .none ∧ ∃ nl' n2' n3' ds', Dj p dp fl f df nl' dn rest ∧ ds'.length = ds.length + 1 ∧ led' = led7 p dp fl f df nl' dn c ph fh pt ft pl gr nu t1 t2 t3 t4 wd true fs [] ds' n1 n2' n3' rest) (fun _ => False) := by
  intro dp' un gd cn cs a ccd cl outer A₀ base h₀ L m s Q E B F X N T hk hdp hun hG hret herr
  refine wpAny_call ?_
  (k_dflt cell_enter)
  k_steps
  exact hret _ _ _ _ (by assumption) (by assumption) ⟨rfl, _, _, _, _, by assumption, by assumption, rfl⟩
theorem disp_put_b {tk0 : Tok} (dj : Dj p dp fl f df nl dn rest) (hzf : fs.length ≤ 1000) (hz : nodes.length ≤ 1000) :
    Ctr w mean mg mb 196 [.ref p, .str (sS "b") tk0] (led7 p dp fl f df nl dn c ph fh pt ft pl gr nu t1 t2 t3 t4 wd lo fs nodes ds n1 n2 n3 rest) 12 340 (fun h => h.IsList c vs.toArray)
      (fun r led' => r = .none ∧ ∃ v n2', led' = led7 p dp fl f df nl dn c ph fh pt ft pl gr nu t1 t2 t3 t4 wd false fs (nodes ++ [v]) ds n1 n2' n3 rest) (fun _ => False) := by
  intro dp' un gd cn cs a ccd cl outer A₀ base h₀ L m s Q E B F X N T hk hdp hun hG hret herr
  refine wpAny_call ?_
  (k_dflt cell_enter)
  k_steps
  exact hret _ _ _ _ (by assumption) (by assumption) ⟨rfl, _, _, rfl⟩
theorem disp_put_r {tk0 : Tok} (dj : Dj p dp fl f df nl dn rest) (hzf : fs.length ≤ 1000) (hz : nodes.length ≤ 1000) :
    Ctr w mean mg mb 196 [.ref p, .str (sS "}") tk0] (led7 p dp fl f df nl dn c ph fh pt ft pl gr nu t1 t2 t3 t4 wd lo fs nodes ds n1 n2 n3 rest) 12 340 (fun h => h.IsList c vs.toArray)
      (fun r led' => r = .none ∧ ∃ v n2', led' = led7 p dp fl f df nl dn c ph fh pt ft pl gr nu t1 t2 t3 t4 wd false fs (nodes ++ [v]) ds n1 n2' n3 rest) (fun _ => False) := by
  intro dp' un gd cn cs a ccd cl outer A₀ base h₀ L m s Q E B F X N T hk hdp hun hG hret herr
  refine wpAny_call ?_
  (k_dflt cell_enter)
  k_steps
  exact hret _ _ _ _ (by assumption) (by assumption) ⟨rfl, _, _, rfl⟩
end
section
variable {w : World} {mean : ExcName → Option Value} {mg mb : PySem.Str → Option Value} {p dp fl f df nl dn c : Addr} {ph fh : Nat → Int} {pt ft : Nat → Tok} {pl gr nu : Int} {t1 t2 t3 t4 : Tok} {wd : PySem.Str} {lo : Bool} {fs nodes ds : List Value} {n1 n2 n3 : Nat} {vs : List Value} {ns : List Int} {rest : Led}
theorem rows_at21 : True := by
  k_with_none
  k_with "m:k_ne" => ((refine neN ?_; (try dsimp only); first | exact Ap.ne (by assumption) | exact Ap.swap (by assumption) | exact off_ne (by assumption) (by k_mem) | exact (off_ne (by assumption) (by k_mem)).symm | omega))
  k_with "m:k_all" => (first | exact Off.all (by assumption) | exact off_lt (by first | assumption | simp only [*]))
  k_with "m:size_fits" => ((simp only [List.size_toArray, PySem.sizeLine_eq]; omega))
  k_with "subscriptTail" => ((k_here; (with_reducible show wpAny _ _ (subscriptTail _ _ (Value.ref _) (Value.int (-1) _)) _ _ _); (with_unfolding_all refine' last_item ?k1 ?k2 ?_ ?k3; (case k1 => first | is_list | exact News.isList (by k_asm) (by k_mem)); (case k2 => assumption); (case k3 => with_unfolding_all rfl); k_whole)))
  k_with "exec Raise some none" => ((k_here; refine raise_D rfl ?_))
  k_with "call ref" => ((k_here; (with_reducible show wpAny _ _ (call (Value.ref 70) [Value.str _ _]) _ _ _); k_dflt (refine' bad_made ?k1 ?k2 ?k3 ?k4 ?k5 ?k6 ?k7 ?k8 ?_; (case k1 => k_asm); (case k2 => k_asm); (case k3 => k_asm); (case k4 => k_asm); (case k5 => k_asm); (case k6 => rfl); (case k7 => ktr_room); (case k8 => ktr_units); k_whole; intro e'z news'z h'z tk'z F'z N'z hin'z hX'z; (try k_sweep))))
  k_with "RaiseEnd" => ((k_here; refine raiseEnd_ (by k_asm) (by k_asm) (by k_asm) (by assumption) ?_))
  k_with "leaving ref" => ((k_here; first | (refine' leave_firstD ?k1 ?k2 ?k3 ?k4 ?k5 ?k6 ?_; (case k4 => assumption); (case k1 => assumption); (case k2 => assumption); (case k3 => k_asm); (case k5 => exact rfl); (case k6 => exact rfl); k_whole; intro h'z R'z; (try dsimp only at R'z ⊢)) | (refine' leave_onD ?k1 ?k2 ?kF ?k3 ?_; (case k3 => assumption); (case k1 => exact rfl); (case k2 => exact rfl); (case kF => assumption); k_whole; intro h'z R'z; (try dsimp only at R'z ⊢))))
  k_with "m:is_list" => (exact News.isList (by k_asm) (by k_mem))
  k_with "call builtin:len" => ((k_here; (with_reducible show wpAny _ _ (call (Value.builtin "len") [Value.ref _]) _ _ _); k_dflt (refine' len_led ?k1 ?k2 ?_; (case k1 => exact News.isList (by k_asm) (by k_mem)); (case k2 => ((try simp only [List.length_append, List.length_cons, List.length_nil] at *); omega)); intro t'z t2'z)))
  k_with "compareOp Eq ref ref" => ((k_here; (with_reducible show wpAny _ _ (compareOp CmpOp.Eq (Value.ref _) (Value.ref _)) _ _ _); k_dflt (refine' eq_empty ?k1 ?k2 ?k3 ?_; (case k1 => exact News.isList (by k_asm) (by k_mem)); (case k2 => exact News.isList (by k_asm) (by k_mem)); (case k3 => ktr_units))))
  k_with "call type:tuple" => ((k_here; (with_reducible show wpAny _ _ (call (Value.type _) [Value.ref _]) _ _ _); k_dflt (refine' tuple_led ?k1 ?k2 ?k3 ?k4 ?_; (case k1 => k_asm); (case k2 => k_asm); (case k3 => exact News.isList (by k_asm) (by k_mem)); (case k4 => ((try simp only [List.length_append, List.length_cons, List.length_nil] at *); omega)); k_whole; intro l'z h'z F'z N'z; (try k_sweep))))
  k_with "binaryOp Add ref ref" => ((k_here; (with_reducible show wpAny _ _ (binaryOp _ (Value.ref _) (Value.ref _)) _ _ _); k_dflt (refine' add_led ?k1 ?k2 ?k3 ?k5 ?k4 ?_; (case k1 => k_asm); (case k2 => k_asm); (case k3 => exact News.isList (by k_asm) (by k_mem)); (case k5 => exact News.isList (by k_asm) (by k_mem)); (case k4 => ((try simp only [List.length_append, List.length_cons, List.length_nil] at *); omega)); k_whole; intro l'z h'z F'z N'z l1; (try k_lt l1); (try k_sweep))))
  k_with "subscriptTail" => ((k_here; (with_reducible show wpAny _ _ (subscriptTail _ _ (Value.ref _) (Value.int 0 _)) _ _ _); (with_unfolding_all refine' first_item ?k1 ?k2 ?_ ?k3; (case k1 => exact News.isList (by k_asm) (by k_mem)); (case k2 => omega); (case k3 => with_unfolding_all rfl); k_whole; intro x'z)))
  k_with "call builtin:list.append" => ((k_here; (with_reducible show wpAny _ _ (call (Value.builtin _) [Value.ref _, _]) _ _ _); k_dflt (refine' append_led ?k1 ?k2 ?k3 ?k4 ?_; (case k1 => k_asm); (case k2 => k_asm); (case k3 => k_upd); (case k4 => ((try simp only [List.length_append, List.length_cons, List.length_nil] at *); omega)); k_whole); intro h'z F'z N'z; (try k_sweep)))
  k_with "ite" => ((k_closed; k_dflt (first | refine ite_pos (by decide +kernel) ?_ | refine ite_neg (by decide +kernel) ?_)))
  k_with "ite" => ((k_here; first | refine ite_pos (by with_reducible assumption) ?_ | refine ite_neg (ntt (by with_reducible assumption)) ?_))
  k_with "m:ktn_open" => (((repeat (refine InAll.cons (by k_mem) ?_)); (repeat (refine InAll.skip ?_)); exact InAll.refl _))
  k_with "call builtin:list.pop" => ((k_here; (with_reducible show wpAny _ _ (call (Value.builtin _) [Value.ref _]) _ _ _); k_dflt (refine' pop_end ?k1 ?k2 ?k3 ?k4 ?_; (case k1 => k_asm); (case k2 => k_asm); (case k3 => k_upd); (case k4 => ((try simp only [List.length_append, List.length_cons, List.length_nil] at *); omega)); k_whole); intro h'z F'z N'z; (try k_sweep)))
  k_with "eval Constant int" => ((k_here; refine const_int_mk ?_))
  k_with "eval Constant str" => ((k_here; refine const_str_mk ?_))
  k_with "binaryOp Add int int" => ((k_here; refine add_int_mk ?_))
  k_with "binaryOp Sub int int" => ((k_here; refine sub_int_mk ?_))
  k_with "m:ktr_rel" => (first | exact InAll.refl _ | exact InAll.two (by k_mem) (by k_mem) | (refine InAll.skip ?_; ktr_rel) | (refine' InAll.seven ?a1 ?a2 ?a3 ?a4 ?a5 ?a6 ?a7 ?a8; (case a1 => k_mem); (case a2 => k_mem); (case a3 => k_mem); (case a4 => k_mem); (case a5 => k_mem); (case a6 => k_mem); (case a7 => k_mem); (case a8 => ((repeat (apply InAll.skip)); exact InAll.refl _))))
  k_with "call ref" => ((k_here; (with_reducible show wpAny _ _ (call (Value.ref 154) [_]) _ _ _); k_dflt (refine' Ctr.use (top_c ?m1 ?m2 ?m3 ?z) ?kB ?kF ?kX ?kN ?kI ?kT ?kk ?kd ?ku ?kG ?_ ?ke; (case kB => k_asm); (case kF => k_asm); (case kX => k_asm); (case kN => k_asm); (case kI => ktr_rel); (case m1 => k_mem); (case m2 => k_mem); (case m3 => k_mem); (case z => assumption); (case kT => k_asm); (case kk => exact rfl); (case kd => ktr_room); (case ku => ktr_units); (case kG => trivial); (case ke => (intro _ _ _ _ _ q; exact q.elim)); (intro v'z h'z tk'z led'z F'z N'z q'z; obtain ⟨e1'z, e2'z⟩ := q'z; subst e1'z e2'z; (try k_sweep)))))
  k_with "call ref" => ((k_here; (with_reducible show wpAny _ _ (call (Value.ref 161) [_]) _ _ _); k_dflt (refine' Ctr.use (sign_c ?j ?m1 ?m2 ?m3 ?m4 ?m5 ?z) ?kB ?kF ?kX ?kN ?kI ?kT ?kk ?kd ?ku ?kG ?_ ?ke; (case kB => k_asm); (case kF => k_asm); (case kX => k_asm); (case kN => k_asm); (case kI => ktr_rel); (case j => assumption); (case m1 => assumption); (case m2 => omega); (case m3 => assumption); (case m4 => assumption); (case m5 => first | assumption | omega); (case z => first | assumption | (simp only [Int.add_assoc, Int.reduceAdd]; assumption)); (case kT => k_asm); (case kk => exact rfl); (case kd => ktr_room); (case ku => ktr_units); (case kG => assumption); (case ke => (intro _ _ _ _ _ q; exact q.elim)); (intro v'z h'z tk'z led'z F'z N'z q'z; obtain ⟨tk2'z, tk3'z, e1'z, e2'z⟩ := q'z; subst e1'z e2'z; (try k_sweep)))))
  k_with "call ref" => ((k_here; (with_reducible show wpAny _ _ (call _ (_ ++ _)) _ _ _); dsimp only [List.nil_append, List.cons_append]; walk_at "call ref"))
  trivial
variable {R : Value → Led → Prop} {Er : PySem.Str → Prop}
theorem rows_at22 : True := by
  k_with "call ref" => ((k_here; (with_reducible show wpAny _ _ (call (Value.ref 196) [_, _]) _ _ _); k_dflt (refine' Ctr.use ?C ?kB ?kF ?kX ?kN ?kI ?kT ?kk ?kd ?ku ?kG ?kR3 ?ke3; (case kB => k_asm); (case kF => k_asm); (case kX => k_asm); (case kN => k_asm); (case kI => exact InAll.refl _); (case C => exact (by assumption : ∀ t u : Tok, Ctr _ _ _ _ _ [_, Value.str _ u] (led7 _ _ _ _ _ _ _ _ _ _ _ _ _ _ _ t _ _ _ _ _ _ _ _ _ _ _ _) _ _ _ _ _) _ _); (case kT => k_asm); (case kk => exact rfl); (case kd => ktr_room); (case ku => ktr_units); (case kG => assumption); (case' kR3 => (intro v'z h'z tk'z led'z F'z N'z q'z; (try k_sweep))); (case' ke3 => (intro e'z msg'z g'z h'z tk'z hm'z FG'z R'z; (try dsimp only at R'z ⊢))))))
  k_with "call ref" => ((k_here; (with_reducible show wpAny _ _ (call (Value.ref 196) [_, _]) _ _ _); k_dflt (refine' Ctr.use ?C ?kB ?kF ?kX ?kN ?kI ?kT ?kk ?kd ?ku ?kG ?kR2 ?ke2; (case kB => k_asm); (case kF => k_asm); (case kX => k_asm); (case kN => k_asm); (case kI => exact InAll.refl _); (case C => exact (by assumption : ∀ t u : Tok, Ctr _ _ _ _ _ [_, Value.str _ u] (led7 _ _ _ _ _ _ _ _ _ _ _ _ _ _ _ t _ _ _ _ _ _ _ _ _ _ _ _) _ _ _ _ _) _ _); (case kT => k_asm); (case kk => exact rfl); (case kd => ktr_room); (case ku => ktr_units); (case kG => assumption); (case' kR2 => (intro v'z h'z tk'z led'z F'z N'z q'z; (try k_sweep))); (case' ke2 => (intro e'z msg'z g'z h'z tk'z hm'z FG'z R'z; (try dsimp only at R'z ⊢))))))
  k_with "call ref" => ((k_here; (with_reducible show wpAny _ _ (call (Value.ref 196) [_, _]) _ _ _); k_dflt (refine' Ctr.use ?C ?kB ?kF ?kX ?kN ?kI ?kT ?kk ?kd ?ku ?kG ?kR ?ke; (case kB => k_asm); (case kF => k_asm); (case kX => k_asm); (case kN => k_asm); (case kI => exact InAll.refl _); (case C => exact (by assumption : ∀ t u : Tok, Ctr _ _ _ _ _ [_, Value.str _ u] (led7 _ _ _ _ _ _ _ _ _ _ _ _ _ _ _ t _ _ _ _ _ _ _ _ _ _ _ _) _ _ _ _ _) _ _); (case kT => k_asm); (case kk => exact rfl); (case kd => ktr_room); (case ku => ktr_units); (case kG => assumption); (case' kR => (intro v'z h'z tk'z led'z F'z N'z q'z; (try k_sweep))); (case' ke => (intro e'z msg'z g'z h'z tk'z hm'z FG'z R'z; (try dsimp only at R'z ⊢))))))
  trivial
theorem step_esc {sg : PySem.Str} (hlt : pl + 1 < (ns.length : Int)) (hs : sgAt ns pl = sS "\\") (hs2 : sgAt ns (pl + 1) = sg) (h0 : 0 ≤ pl) (dj : Dj p dp fl f df nl dn rest) (hi : IntsAre vs ns) (hz : ns.length ≤ 1000) (hch : Asc ns)
    (Ho : ∀ t u : Tok, Ctr w mean mg mb 196 [.ref p, .str sg u] (led7 p dp fl f df nl dn c ph fh pt ft (pl + 1 + 1) gr nu t t2 t3 t4 wd lo fs nodes ds n1 n2 n3 rest) 12 340 (fun h => h.IsList c vs.toArray) R Er) :
    Ctr w mean mg mb 175 [.ref p] (led7 p dp fl f df nl dn c ph fh pt ft pl gr nu t1 t2 t3 t4 wd lo fs nodes ds n1 n2 n3 rest) 16 400 (fun h => h.IsList c vs.toArray) (fun _ l => ∃ v0, R v0 l) Er := by
  intro dp' un gd cn cs a ccd cl outer A₀ base h₀ L m s Q E B F X N T hk hdp hun hG hret herr
  refine wpAny_call ?_
  (k_dflt cell_enter)
  have hG' := Fr.lst (by assumption) hG
  k_steps
  · exact herr _ _ _ _ _ (by assumption) (by assumption) (by assumption)
  · exact hret _ _ _ _ (by assumption) (by assumption) ⟨_, by assumption⟩
end
section
variable {w : World} {mean : ExcName → Option Value} {mg mb : PySem.Str → Option Value} {p dp fl f df nl dn c : Addr} {ph fh : Nat → Int} {pt ft : Nat → Tok} {pl gr nu : Int} {t1 t2 t3 t4 : Tok} {wd : PySem.Str} {lo : Bool} {fs nodes ds : List Value} {n1 n2 n3 : Nat} {vs : List Value} {ns : List Int} {rest : Led}
theorem rows_at23 : True := by
  k_with_none
  k_with "m:k_ne" => ((refine neN ?_; (try dsimp only); first | exact Ap.ne (by assumption) | exact Ap.swap (by assumption) | exact off_ne (by assumption) (by k_mem) | exact (off_ne (by assumption) (by k_mem)).symm | omega))
  k_with "m:k_all" => (first | exact Off.all (by assumption) | exact off_lt (by first | assumption | simp only [*]))
  k_with "m:size_fits" => ((simp only [List.size_toArray, PySem.sizeLine_eq]; omega))
  k_with "subscriptTail" => ((k_here; (with_reducible show wpAny _ _ (subscriptTail _ _ (Value.ref _) (Value.int (-1) _)) _ _ _); (with_unfolding_all refine' last_item ?k1 ?k2 ?_ ?k3; (case k1 => first | is_list | exact News.isList (by k_asm) (by k_mem)); (case k2 => assumption); (case k3 => with_unfolding_all rfl); k_whole)))
  k_with "exec Raise some none" => ((k_here; refine raise_D rfl ?_))
  k_with "call ref" => ((k_here; (with_reducible show wpAny _ _ (call (Value.ref 70) [Value.str _ _]) _ _ _); k_dflt (refine' bad_made ?k1 ?k2 ?k3 ?k4 ?k5 ?k6 ?k7 ?k8 ?_; (case k1 => k_asm); (case k2 => k_asm); (case k3 => k_asm); (case k4 => k_asm); (case k5 => k_asm); (case k6 => rfl); (case k7 => ktr_room); (case k8 => ktr_units); k_whole; intro e'z news'z h'z tk'z F'z N'z hin'z hX'z; (try k_sweep))))
  k_with "RaiseEnd" => ((k_here; refine raiseEnd_ (by k_asm) (by k_asm) (by k_asm) (by assumption) ?_))
  k_with "leaving ref" => ((k_here; first | (refine' leave_firstD ?k1 ?k2 ?k3 ?k4 ?k5 ?k6 ?_; (case k4 => assumption); (case k1 => assumption); (case k2 => assumption); (case k3 => k_asm); (case k5 => exact rfl); (case k6 => exact rfl); k_whole; intro h'z R'z; (try dsimp only at R'z ⊢)) | (refine' leave_onD ?k1 ?k2 ?kF ?k3 ?_; (case k3 => assumption); (case k1 => exact rfl); (case k2 => exact rfl); (case kF => assumption); k_whole; intro h'z R'z; (try dsimp only at R'z ⊢))))
  k_with "m:is_list" => (exact News.isList (by k_asm) (by k_mem))
  k_with "call builtin:len" => ((k_here; (with_reducible show wpAny _ _ (call (Value.builtin "len") [Value.ref _]) _ _ _); k_dflt (refine' len_led ?k1 ?k2 ?_; (case k1 => exact News.isList (by k_asm) (by k_mem)); (case k2 => ((try simp only [List.length_append, List.length_cons, List.length_nil] at *); omega)); intro t'z t2'z)))
  k_with "compareOp Eq ref ref" => ((k_here; (with_reducible show wpAny _ _ (compareOp CmpOp.Eq (Value.ref _) (Value.ref _)) _ _ _); k_dflt (refine' eq_empty ?k1 ?k2 ?k3 ?_; (case k1 => exact News.isList (by k_asm) (by k_mem)); (case k2 => exact News.isList (by k_asm) (by k_mem)); (case k3 => ktr_units))))
  k_with "call type:tuple" => ((k_here; (with_reducible show wpAny _ _ (call (Value.type _) [Value.ref _]) _ _ _); k_dflt (refine' tuple_led ?k1 ?k2 ?k3 ?k4 ?_; (case k1 => k_asm); (case k2 => k_asm); (case k3 => exact News.isList (by k_asm) (by k_mem)); (case k4 => ((try simp only [List.length_append, List.length_cons, List.length_nil] at *); omega)); k_whole; intro l'z h'z F'z N'z; (try k_sweep))))
  k_with "binaryOp Add ref ref" => ((k_here; (with_reducible show wpAny _ _ (binaryOp _ (Value.ref _) (Value.ref _)) _ _ _); k_dflt (refine' add_led ?k1 ?k2 ?k3 ?k5 ?k4 ?_; (case k1 => k_asm); (case k2 => k_asm); (case k3 => exact News.isList (by k_asm) (by k_mem)); (case k5 => exact News.isList (by k_asm) (by k_mem)); (case k4 => ((try simp only [List.length_append, List.length_cons, List.length_nil] at *); omega)); k_whole; intro l'z h'z F'z N'z l1; (try k_lt l1); (try k_sweep))))
  k_with "subscriptTail" => ((k_here; (with_reducible show wpAny _ _ (subscriptTail _ _ (Value.ref _) (Value.int 0 _)) _ _ _); (with_unfolding_all refine' first_item ?k1 ?k2 ?_ ?k3; (case k1 => exact News.isList (by k_asm) (by k_mem)); (case k2 => omega); (case k3 => with_unfolding_all rfl); k_whole; intro x'z)))
  k_with "call builtin:list.append" => ((k_here; (with_reducible show wpAny _ _ (call (Value.builtin _) [Value.ref _, _]) _ _ _); k_dflt (refine' append_led ?k1 ?k2 ?k3 ?k4 ?_; (case k1 => k_asm); (case k2 => k_asm); (case k3 => k_upd); (case k4 => ((try simp only [List.length_append, List.length_cons, List.length_nil] at *); omega)); k_whole); intro h'z F'z N'z; (try k_sweep)))
  k_with "ite" => ((k_closed; k_dflt (first | refine ite_pos (by decide +kernel) ?_ | refine ite_neg (by decide +kernel) ?_)))
  k_with "ite" => ((k_here; first | refine ite_pos (by with_reducible assumption) ?_ | refine ite_neg (ntt (by with_reducible assumption)) ?_))
  k_with "m:ktn_open" => (((repeat (refine InAll.cons (by k_mem) ?_)); (repeat (refine InAll.skip ?_)); exact InAll.refl _))
  k_with "call builtin:list.pop" => ((k_here; (with_reducible show wpAny _ _ (call (Value.builtin _) [Value.ref _]) _ _ _); k_dflt (refine' pop_end ?k1 ?k2 ?k3 ?k4 ?_; (case k1 => k_asm); (case k2 => k_asm); (case k3 => k_upd); (case k4 => ((try simp only [List.length_append, List.length_cons, List.length_nil] at *); omega)); k_whole); intro h'z F'z N'z; (try k_sweep)))
  k_with "eval Constant int" => ((k_here; refine const_int_mk ?_))
  k_with "eval Constant str" => ((k_here; refine const_str_mk ?_))
  k_with "binaryOp Add int int" => ((k_here; refine add_int_mk ?_))
  k_with "binaryOp Sub int int" => ((k_here; refine sub_int_mk ?_))
  k_with "m:ktr_rel" => (first | exact InAll.refl _ | exact InAll.two (by k_mem) (by k_mem) | (refine InAll.skip ?_; ktr_rel) | (refine' InAll.seven ?a1 ?a2 ?a3 ?a4 ?a5 ?a6 ?a7 ?a8; (case a1 => k_mem); (case a2 => k_mem); (case a3 => k_mem); (case a4 => k_mem); (case a5 => k_mem); (case a6 => k_mem); (case a7 => k_mem); (case a8 => ((repeat (apply InAll.skip)); exact InAll.refl _))))
  k_with "call ref" => ((k_here; (with_reducible show wpAny _ _ (call (Value.ref 154) [_]) _ _ _); k_dflt (refine' Ctr.use (top_c ?m1 ?m2 ?m3 ?z) ?kB ?kF ?kX ?kN ?kI ?kT ?kk ?kd ?ku ?kG ?_ ?ke; (case kB => k_asm); (case kF => k_asm); (case kX => k_asm); (case kN => k_asm); (case kI => ktr_rel); (case m1 => k_mem); (case m2 => k_mem); (case m3 => k_mem); (case z => assumption); (case kT => k_asm); (case kk => exact rfl); (case kd => ktr_room); (case ku => ktr_units); (case kG => trivial); (case ke => (intro _ _ _ _ _ q; exact q.elim)); (intro v'z h'z tk'z led'z F'z N'z q'z; obtain ⟨e1'z, e2'z⟩ := q'z; subst e1'z e2'z; (try k_sweep)))))
  k_with "call ref" => ((k_here; (with_reducible show wpAny _ _ (call (Value.ref 161) [_]) _ _ _); k_dflt (refine' Ctr.use (sign_c ?j ?m1 ?m2 ?m3 ?m4 ?m5 ?z) ?kB ?kF ?kX ?kN ?kI ?kT ?kk ?kd ?ku ?kG ?_ ?ke; (case kB => k_asm); (case kF => k_asm); (case kX => k_asm); (case kN => k_asm); (case kI => ktr_rel); (case j => assumption); (case m1 => assumption); (case m2 => omega); (case m3 => assumption); (case m4 => assumption); (case m5 => first | assumption | omega); (case z => first | assumption | (simp only [Int.add_assoc, Int.reduceAdd]; assumption)); (case kT => k_asm); (case kk => exact rfl); (case kd => ktr_room); (case ku => ktr_units); (case kG => assumption); (case ke => (intro _ _ _ _ _ q; exact q.elim)); (intro v'z h'z tk'z led'z F'z N'z q'z; obtain ⟨tk2'z, tk3'z, e1'z, e2'z⟩ := q'z; subst e1'z e2'z; (try k_sweep)))))
  k_with "call ref" => ((k_here; (with_reducible show wpAny _ _ (call (Value.ref 161) [_]) _ _ _); k_dflt (refine' Ctr.useE (sign_e ?m1 ?m2 ?m3 ?m4) ?kB ?kF ?kX ?kN ?kI ?kT ?kk ?kd ?ku ?kG ?_; (case kB => k_asm); (case kF => k_asm); (case kX => k_asm); (case kN => k_asm); (case kI => ktr_rel); (case m1 => assumption); (case m2 => omega); (case m3 => assumption); (case m4 => first | assumption | omega); (case kT => k_asm); (case kk => exact rfl); (case kd => ktr_room); (case ku => ktr_units); (case kG => assumption); k_whole; intro e'z g'z h'z tk'z FG'z R'z; (try dsimp only at R'z ⊢))))
  k_with "call ref" => ((k_here; (with_reducible show wpAny _ _ (call (Value.ref 112) [_, _]) _ _ _); k_dflt (refine' Ctr.use (put_c ?j ?z) ?kB ?kF ?kX ?kN ?kI ?kT ?kk ?kd ?ku ?kG ?_ ?ke; (case kB => k_asm); (case kF => k_asm); (case kX => k_asm); (case kN => k_asm); (case kI => ktr_rel); (case j => assumption); (case z => first | assumption | omega); (case kT => k_asm); (case kk => exact rfl); (case kd => ktr_room); (case ku => ktr_units); (case kG => trivial); (case ke => (intro _ _ _ _ _ q; exact q.elim)); (intro v'z h'z tk'z led'z F'z N'z q'z; obtain ⟨e1'z, n2'z, e2'z⟩ := q'z; subst e1'z e2'z; (try k_sweep)))))
  k_with "call ref" => ((k_here; (with_reducible show wpAny _ _ (call (Value.ref 182) [_, _]) _ _ _); k_dflt (refine' Ctr.use (repeated_c ?m0 ?m1 ?j ?m2 ?m3 ?m4 ?z ?z2) ?kB ?kF ?kX ?kN ?kI ?kT ?kk ?kd ?ku ?kG ?_ ?ke; (case kB => k_asm); (case kF => k_asm); (case kX => k_asm); (case kN => k_asm); (case kI => ktr_rel); (case m0 => assumption); (case m1 => omega); (case j => assumption); (case m2 => assumption); (case m3 => assumption); (case m4 => assumption); (case z => assumption); (case z2 => assumption); (case kT => k_asm); (case kk => exact rfl); (case kd => ktr_room); (case ku => ktr_units); (case kG => assumption); (case ke => (intro _ _ _ _ _ q; exact q.elim)); (intro v'z h'z tk'z led'z F'z N'z q'z; obtain ⟨e1'z, y'z, n2'z, tk2'z, e2'z⟩ := q'z; subst e1'z e2'z; (try k_sweep)))))
  k_with "call ref" => ((k_here; (with_reducible show wpAny _ _ (call _ (_ ++ _)) _ _ _); dsimp only [List.nil_append, List.cons_append]; walk_at "call ref"))
  k_with "execs cons" => ((k_here; (try k_gentoks); refine execs_cons_Q ?_; intro Qk hQk))
  k_with "KQ" => ((k_here; first | refine kq_next (by assumption) ?_ | (refine kq_ret (by assumption) ?_; try dsimp only) | (refine kq_brk (by assumption) ?_; try dsimp only) | (refine kq_cont (by assumption) ?_; try dsimp only)))
  trivial
theorem step_end (hlt : pl < (ns.length : Int)) (hlt2 : ¬ pl + 1 < (ns.length : Int)) (hs : sgAt ns pl = sS "\\") (h0 : 0 ≤ pl) (dj : Dj p dp fl f df nl dn rest) (hi : IntsAre vs ns) (hz : ns.length ≤ 1000) (hch : Asc ns) :
    Ctr w mean mg mb 175 [.ref p] (led7 p dp fl f df nl dn c ph fh pt ft pl gr nu t1 t2 t3 t4 wd lo fs nodes ds n1 n2 n3 rest) 16 400 (fun h => h.IsList c vs.toArray) (fun _ _ => False) (fun x => x = sS "Trailing backslash") := by
  intro dp' un gd cn cs a ccd cl outer A₀ base h₀ L m s Q E B F X N T hk hdp hun hG hret herr
  refine wpAny_call ?_
  (k_dflt cell_enter)
  have hG' := Fr.lst (by assumption) hG
  k_steps
  exact herr _ _ _ _ _ rfl (by assumption) (by assumption)
theorem step_rep {nd : List Value} {x : Value} {sg : PySem.Str} {k : Nat} (hr : Run ns (pl + 1) k) (hlt : pl < (ns.length : Int)) (hs : sgAt ns pl = sg) (q1 : (sg == PySem.Str.ofString "\\") = false) (q2 : isRep sg = true) (h0 : 0 ≤ pl) (dj : Dj p dp fl f df nl dn rest) (hi : IntsAre vs ns) (hz : ns.length ≤ 1000) (hch : Asc ns) (hzf : fs.length ≤ 1000) (hzn : nd.length ≤ 1000) :
    Ctr w mean mg mb 175 [.ref p] (led7 p dp fl f df nl dn c ph fh pt ft pl gr nu t1 t2 t3 t4 wd false fs (nd ++ [x]) ds n1 n2 n3 rest) 16 400 (fun h => h.IsList c vs.toArray)
      (fun _ led' => ∃ y n2' tk, led' = led7 p dp fl f df nl dn c ph fh pt ft (pl + 1 + k) gr nu tk t2 t3 t4 wd false fs (nd ++ [y]) ds n1 n2' n3 rest) (fun _ => False) := by
  intro dp' un gd cn cs a ccd cl outer A₀ base h₀ L m s Q E B F X N T hk hdp hun hG hret herr
  refine wpAny_call ?_
  (k_dflt cell_enter)
  have hG' := Fr.lst (by assumption) hG
  k_steps
  exact hret _ _ _ _ (by assumption) (by assumption) ⟨_, _, _, rfl⟩
theorem step_put {n : Nat} {r : Bool} (hlt : pl < (ns.length : Int)) (hs : sgAt ns pl = ⟨#[n]⟩) (q1 : ((⟨#[n]⟩ : PySem.Str) == PySem.Str.ofString "\\") = false) (q2 : isRep ⟨#[n]⟩ = r) (q2' : r = false ∨ lo = true) (q3 : ((⟨#[n]⟩ : PySem.Str) == PySem.Str.ofString ".") = false) (q4 : ((⟨#[n]⟩ : PySem.Str) == PySem.Str.ofString "[") = false) (q5 : ((⟨#[n]⟩ : PySem.Str) == PySem.Str.ofString "^") = false) (q6 : ((⟨#[n]⟩ : PySem.Str) == PySem.Str.ofString "$") = false)
    (h0 : 0 ≤ pl) (dj : Dj p dp fl f df nl dn rest) (hi : IntsAre vs ns) (hz : ns.length ≤ 1000) (hch : Asc ns) (hzf : fs.length ≤ 1000) (hzn : nodes.length ≤ 1000) :
    Ctr w mean mg mb 175 [.ref p] (led7 p dp fl f df nl dn c ph fh pt ft pl gr nu t1 t2 t3 t4 wd lo fs nodes ds n1 n2 n3 rest) 16 400 (fun h => h.IsList c vs.toArray)
      (fun _ led' => ∃ v n2' tk, led' = led7 p dp fl f df nl dn c ph fh pt ft (pl + 1) gr nu tk t2 t3 t4 wd false fs (nodes ++ [v]) ds n1 n2' n3 rest) (fun _ => False) := by
  intro dp' un gd cn cs a ccd cl outer A₀ base h₀ L m s Q E B F X N T hk hdp hun hG hret herr
  rcases q2' with rfl | rfl
  · refine wpAny_call ?_
    (k_dflt cell_enter)
    have hG' := Fr.lst (by assumption) hG
    k_steps
    exact hret _ _ _ _ (by assumption) (by assumption) ⟨_, _, _, rfl⟩
  · cases r
    all_goals (refine wpAny_call ?_; (k_dflt cell_enter); (have hG' := Fr.lst (by assumption) hG); k_steps)
    all_goals exact hret _ _ _ _ (by assumption) (by assumption) ⟨_, _, _, rfl⟩
theorem step_dot (hlt : pl < (ns.length : Int)) (hs : sgAt ns pl = sS ".")
    (h0 : 0 ≤ pl) (dj : Dj p dp fl f df nl dn rest) (hi : IntsAre vs ns) (hz : ns.length ≤ 1000) (hch : Asc ns) (hzf : fs.length ≤ 1000) (hzn : nodes.length ≤ 1000) :
    Ctr w mean mg mb 175 [.ref p] (led7 p dp fl f df nl dn c ph fh pt ft pl gr nu t1 t2 t3 t4 wd lo fs nodes ds n1 n2 n3 rest) 16 400 (fun h => h.IsList c vs.toArray)
      (fun _ led' => ∃ v n2' tk, led' = led7 p dp fl f df nl dn c ph fh pt ft (pl + 1) gr nu tk t2 t3 t4 wd false fs (nodes ++ [v]) ds n1 n2' n3 rest) (fun _ => False) := by
  intro dp' un gd cn cs a ccd cl outer A₀ base h₀ L m s Q E B F X N T hk hdp hun hG hret herr
  refine wpAny_call ?_
  (k_dflt cell_enter)
  have hG' := Fr.lst (by assumption) hG
  k_steps
  exact hret _ _ _ _ (by assumption) (by assumption) ⟨_, _, _, rfl⟩
theorem step_bol0 (hlt : pl < (ns.length : Int)) (hs : sgAt ns pl = sS "^")
    (h0 : 0 ≤ pl) (dj : Dj p dp fl f df nl dn rest) (hi : IntsAre vs ns) (hz : ns.length ≤ 1000) (hch : Asc ns) (hzf : fs.length ≤ 1000) :
    Ctr w mean mg mb 175 [.ref p] (led7 p dp fl f df nl dn c ph fh pt ft pl gr nu t1 t2 t3 t4 wd lo fs [] ds n1 n2 n3 rest) 16 400 (fun h => h.IsList c vs.toArray)
      (fun _ led' => ∃ v n2' tk, led' = led7 p dp fl f df nl dn c ph fh pt ft (pl + 1) gr nu tk t2 t3 t4 wd lo fs [v] ds n1 n2' n3 rest) (fun _ => False) := by
  intro dp' un gd cn cs a ccd cl outer A₀ base h₀ L m s Q E B F X N T hk hdp hun hG hret herr
  have dj' := dj
  obtain ⟨d1, d2, d3, d4, d5, d6, d7, d8, d9, e1, e2, e3, e4, e5, e6, e7, e8, e9, g1, g2, g3, r1, r2, r3, r4, r5, r6, r7⟩ := dj'
  refine wpAny_call ?_
  (k_dflt cell_enter)
  have hG' := Fr.lst (by assumption) hG
  k_steps
  refine' hret _ _ _ (led7 p dp fl f df nl dn c ph fh pt ft (pl + 1) gr nu _ t2 t3 t4 wd lo fs [_] ds n1 _ n3 rest) ?_ (sub_news ?_ ?_) ⟨_, _, _, rfl⟩ <;> first | (show News _ _ _ _; assumption) | (show Fr _ _ _ _; assumption) | (show InAll _ _; ktn_open) | skip
theorem step_bol1 (hlt : pl < (ns.length : Int)) (hs : sgAt ns pl = sS "^") (hne : nodes.isEmpty = false)
    (h0 : 0 ≤ pl) (dj : Dj p dp fl f df nl dn rest) (hi : IntsAre vs ns) (hz : ns.length ≤ 1000) (hch : Asc ns) (hzf : fs.length ≤ 1000) (hzn : nodes.length ≤ 1000) :
    Ctr w mean mg mb 175 [.ref p] (led7 p dp fl f df nl dn c ph fh pt ft pl gr nu t1 t2 t3 t4 wd lo fs nodes ds n1 n2 n3 rest) 16 400 (fun h => h.IsList c vs.toArray)
      (fun _ led' => ∃ v n2' tk, led' = led7 p dp fl f df nl dn c ph fh pt ft (pl + 1) gr nu tk t2 t3 t4 wd false fs (nodes ++ [v]) ds n1 n2' n3 rest) (fun _ => False) := by
  intro dp' un gd cn cs a ccd cl outer A₀ base h₀ L m s Q E B F X N T hk hdp hun hG hret herr
  refine wpAny_call ?_
  (k_dflt cell_enter)
  have hG' := Fr.lst (by assumption) hG
  k_steps
  exact hret _ _ _ _ (by assumption) (by assumption) ⟨_, _, _, rfl⟩
end
section
variable {w : World} {mean : ExcName → Option Value} {mg mb : PySem.Str → Option Value} {p dp fl f df nl dn c : Addr} {ph fh : Nat → Int} {pt ft : Nat → Tok} {pl gr nu : Int} {t1 t2 t3 t4 : Tok} {wd : PySem.Str} {lo : Bool} {fs nodes ds : List Value} {n1 n2 n3 : Nat} {vs : List Value} {ns : List Int} {rest : Led}
theorem rows_at24 : True := by
  k_with_none
  k_with "m:k_ne" => ((refine neN ?_; (try dsimp only); first | exact Ap.ne (by assumption) | exact Ap.swap (by assumption) | exact off_ne (by assumption) (by k_mem) | exact (off_ne (by assumption) (by k_mem)).symm | omega))
  k_with "m:k_all" => (first | exact Off.all (by assumption) | exact off_lt (by first | assumption | simp only [*]))
  k_with "m:size_fits" => ((simp only [List.size_toArray, PySem.sizeLine_eq]; omega))
  k_with "subscriptTail" => ((k_here; (with_reducible show wpAny _ _ (subscriptTail _ _ (Value.ref _) (Value.int (-1) _)) _ _ _); (with_unfolding_all refine' last_item ?k1 ?k2 ?_ ?k3; (case k1 => first | is_list | exact News.isList (by k_asm) (by k_mem)); (case k2 => assumption); (case k3 => with_unfolding_all rfl); k_whole)))
  k_with "exec Raise some none" => ((k_here; refine raise_D rfl ?_))
  k_with "call ref" => ((k_here; (with_reducible show wpAny _ _ (call (Value.ref 70) [Value.str _ _]) _ _ _); k_dflt (refine' bad_made ?k1 ?k2 ?k3 ?k4 ?k5 ?k6 ?k7 ?k8 ?_; (case k1 => k_asm); (case k2 => k_asm); (case k3 => k_asm); (case k4 => k_asm); (case k5 => k_asm); (case k6 => rfl); (case k7 => ktr_room); (case k8 => ktr_units); k_whole; intro e'z news'z h'z tk'z F'z N'z hin'z hX'z; (try k_sweep))))
  k_with "RaiseEnd" => ((k_here; refine raiseEnd_ (by k_asm) (by k_asm) (by k_asm) (by assumption) ?_))
  k_with "leaving ref" => ((k_here; first | (refine' leave_firstD ?k1 ?k2 ?k3 ?k4 ?k5 ?k6 ?_; (case k4 => assumption); (case k1 => assumption); (case k2 => assumption); (case k3 => k_asm); (case k5 => exact rfl); (case k6 => exact rfl); k_whole; intro h'z R'z; (try dsimp only at R'z ⊢)) | (refine' leave_onD ?k1 ?k2 ?kF ?k3 ?_; (case k3 => assumption); (case k1 => exact rfl); (case k2 => exact rfl); (case kF => assumption); k_whole; intro h'z R'z; (try dsimp only at R'z ⊢))))
  k_with "m:is_list" => (exact News.isList (by k_asm) (by k_mem))
  k_with "call builtin:len" => ((k_here; (with_reducible show wpAny _ _ (call (Value.builtin "len") [Value.ref _]) _ _ _); k_dflt (refine' len_led ?k1 ?k2 ?_; (case k1 => exact News.isList (by k_asm) (by k_mem)); (case k2 => ((try simp only [List.length_append, List.length_cons, List.length_nil] at *); omega)); intro t'z t2'z)))
  k_with "compareOp Eq ref ref" => ((k_here; (with_reducible show wpAny _ _ (compareOp CmpOp.Eq (Value.ref _) (Value.ref _)) _ _ _); k_dflt (refine' eq_empty ?k1 ?k2 ?k3 ?_; (case k1 => exact News.isList (by k_asm) (by k_mem)); (case k2 => exact News.isList (by k_asm) (by k_mem)); (case k3 => ktr_units))))
  k_with "call type:tuple" => ((k_here; (with_reducible show wpAny _ _ (call (Value.type _) [Value.ref _]) _ _ _); k_dflt (refine' tuple_led ?k1 ?k2 ?k3 ?k4 ?_; (case k1 => k_asm); (case k2 => k_asm); (case k3 => exact News.isList (by k_asm) (by k_mem)); (case k4 => ((try simp only [List.length_append, List.length_cons, List.length_nil] at *); omega)); k_whole; intro l'z h'z F'z N'z; (try k_sweep))))
  k_with "binaryOp Add ref ref" => ((k_here; (with_reducible show wpAny _ _ (binaryOp _ (Value.ref _) (Value.ref _)) _ _ _); k_dflt (refine' add_led ?k1 ?k2 ?k3 ?k5 ?k4 ?_; (case k1 => k_asm); (case k2 => k_asm); (case k3 => exact News.isList (by k_asm) (by k_mem)); (case k5 => exact News.isList (by k_asm) (by k_mem)); (case k4 => ((try simp only [List.length_append, List.length_cons, List.length_nil] at *); omega)); k_whole; intro l'z h'z F'z N'z l1; (try k_lt l1); (try k_sweep))))
  k_with "subscriptTail" => ((k_here; (with_reducible show wpAny _ _ (subscriptTail _ _ (Value.ref _) (Value.int 0 _)) _ _ _); (with_unfolding_all refine' first_item ?k1 ?k2 ?_ ?k3; (case k1 => exact News.isList (by k_asm) (by k_mem)); (case k2 => omega); (case k3 => with_unfolding_all rfl); k_whole; intro x'z)))
  k_with "call builtin:list.append" => ((k_here; (with_reducible show wpAny _ _ (call (Value.builtin _) [Value.ref _, _]) _ _ _); k_dflt (refine' append_led ?k1 ?k2 ?k3 ?k4 ?_; (case k1 => k_asm); (case k2 => k_asm); (case k3 => k_upd); (case k4 => ((try simp only [List.length_append, List.length_cons, List.length_nil] at *); omega)); k_whole); intro h'z F'z N'z; (try k_sweep)))
  k_with "ite" => ((k_closed; k_dflt (first | refine ite_pos (by decide +kernel) ?_ | refine ite_neg (by decide +kernel) ?_)))
  k_with "ite" => ((k_here; first | refine ite_pos (by with_reducible assumption) ?_ | refine ite_neg (ntt (by with_reducible assumption)) ?_))
  k_with "m:ktn_open" => (((repeat (refine InAll.cons (by k_mem) ?_)); (repeat (refine InAll.skip ?_)); exact InAll.refl _))
  k_with "call builtin:list.pop" => ((k_here; (with_reducible show wpAny _ _ (call (Value.builtin _) [Value.ref _]) _ _ _); k_dflt (refine' pop_end ?k1 ?k2 ?k3 ?k4 ?_; (case k1 => k_asm); (case k2 => k_asm); (case k3 => k_upd); (case k4 => ((try simp only [List.length_append, List.length_cons, List.length_nil] at *); omega)); k_whole); intro h'z F'z N'z; (try k_sweep)))
  k_with "eval Constant int" => ((k_here; refine const_int_mk ?_))
  k_with "eval Constant str" => ((k_here; refine const_str_mk ?_))
  k_with "binaryOp Add int int" => ((k_here; refine add_int_mk ?_))
  k_with "binaryOp Sub int int" => ((k_here; refine sub_int_mk ?_))
  trivial
/-- a frame, as the ledger bears it -/
structure FrO where
  f : Addr
  df : Addr
  nl : Addr
  dn : Addr
  fh : Nat → Int
  ft : Nat → Tok
  wd : PySem.Str
  nu : Int
  t3 : Tok
  t4 : Tok
  lo : Bool
  nodes : List Value
  ds : List Value
  n2 : Nat
  n3 : Nat
/-- a frame, as far as the parser's ways hang on it -/
structure Cf where
  wd : PySem.Str
  nu : Int
  lo : Bool
  ne : Bool
structure Ctl where
  gr : Int
  top : Cf
  low : List Cf
noncomputable def FrO.cf (x : FrO) : Cf := ⟨x.wd, x.nu, x.lo, !x.nodes.isEmpty⟩
noncomputable def fsOf : List FrO → List Value
  | [] => []
  | x :: r => fsOf r ++ [.ref x.f]
noncomputable def stLed : List FrO → Led
  | [] => []
  | x :: r => (x.f, instObj 129 x.df) :: (x.df, fDict x.fh x.ft x.wd x.t3 x.nu x.t4 x.dn x.nl x.lo) :: (x.nl, lst x.nodes x.n2) :: (x.dn, lst x.ds x.n3) :: stLed r
noncomputable abbrev PLed (p dp fl c : Addr) (ph : Nat → Int) (pt : Nat → Tok) (pl gr : Int) (t1 t2 : Tok) (n1 : Nat) (x : FrO) (r : List FrO) : Led :=
  led7 p dp fl x.f x.df x.nl x.dn c ph x.fh pt x.ft pl gr x.nu t1 t2 x.t3 x.t4 x.wd x.lo (fsOf r) x.nodes x.ds n1 x.n2 x.n3 (stLed r)
noncomputable def SzF (pl : Int) (y : FrO) : Prop := (y.nodes.length : Int) ≤ pl ∧ (y.ds.length : Int) ≤ pl ∧ (y.lo = false → y.nodes ≠ [])
noncomputable def PAt (p dp fl c : Addr) (ph : Nat → Int) (pt : Nat → Tok) (pl : Int) (k : Ctl) (l : Led) : Prop :=
  ∃ t1 t2 n1 x r, l = PLed p dp fl c ph pt pl k.gr t1 t2 n1 x r ∧ Dd l ∧ (∀ y ∈ x :: r, SzF pl y) ∧ (r.length : Int) ≤ pl ∧ x.cf = k.top ∧ r.map FrO.cf = k.low
theorem fsOf_len : ∀ r : List FrO, (fsOf r).length = r.length
  | [] => rfl
  | x :: r => by simp [fsOf, fsOf_len r]
theorem Dd.same {l l' : Led} (e : l.map (·.1) = l'.map (·.1)) (d : Dd l) : Dd l' := by
  unfold Dd at *
  have a : (l.map (·.1)).Pairwise (· ≠ ·) := List.pairwise_map.mpr d
  rw [e] at a
  exact List.pairwise_map.mp a
theorem Dd.tail {q : Addr × Obj} {l : Led} (d : Dd (q :: l)) : Dd l := (List.pairwise_cons.mp d).2
theorem Dd.tail7 {q1 q2 q3 q4 q5 q6 q7 : Addr × Obj} {l : Led} (d : Dd (q1 :: q2 :: q3 :: q4 :: q5 :: q6 :: q7 :: l)) : Dd l := d.tail.tail.tail.tail.tail.tail.tail
theorem Dd.of {o1 o2 o3 o4 o5 o6 o7 : Obj} (j : Dj p dp fl f df nl dn rest) (d : Dd rest) : Dd ((p, o1) :: (dp, o2) :: (fl, o3) :: (f, o4) :: (df, o5) :: (nl, o6) :: (dn, o7) :: rest) := by
  obtain ⟨d1, d2, d3, d4, d5, d6, d7, d8, d9, e1, e2, e3, e4, e5, e6, e7, e8, e9, g1, g2, g3, r1, r2, r3, r4, r5, r6, r7⟩ := j
  simp only [Dd, List.pairwise_cons, List.mem_cons, forall_eq_or_imp, ne_eq]
  have sr : ∀ {a : Addr}, Off rest a → ∀ q ∈ rest, ¬ a = q.1 := fun h q hq e => h q hq e.symm
  exact ⟨⟨d1, d2, d3, d4, d5, d6, sr r1⟩, ⟨d7, d8, d9, e1, e2, sr r2⟩, ⟨e3, e4, e5, e6, sr r3⟩, ⟨e7, e8, e9, sr r4⟩, ⟨g1, g2, sr r5⟩, ⟨g3, sr r6⟩, sr r7, d⟩
theorem Dd.pop {f2 df2 nl2 dn2 : Addr} {o1 o2 o3 o4 o5 o6 o7 s1 s2 s3 s4 : Obj} (d : Dd ((p, o1) :: (dp, o2) :: (fl, o3) :: (f, o4) :: (df, o5) :: (nl, o6) :: (dn, o7) :: (f2, s1) :: (df2, s2) :: (nl2, s3) :: (dn2, s4) :: rest)) {q1 q2 q3 q4 q5 q6 q7 : Obj} :
    Dd ((p, q1) :: (dp, q2) :: (fl, q3) :: (f2, q4) :: (df2, q5) :: (nl2, q6) :: (dn2, q7) :: rest) := by
  exact dd_map.mpr ((dd_map.mp d).sublist (.cons_cons _ (.cons_cons _ (.cons_cons _ (.cons _ (.cons _ (.cons _ (.cons _ (.refl _)))))))))
noncomputable def Cf.put (x : Cf) : Cf := { x with lo := false, ne := true }
noncomputable def Ctl.put (k : Ctl) : Ctl := { k with top := k.top.put }
variable {k k' : Ctl} {l : Led}
theorem SzF.mono {pl' : Int} {y : FrO} (h : SzF pl y) (e : pl ≤ pl') : SzF pl' y := ⟨by have := h.1; omega, by have := h.2.1; omega, h.2.2⟩
/-- a node is put -/
theorem PAt.put {pl' : Int} {t1' : Tok} {n2' : Nat} {x : FrO} {r : List FrO} {v : Value} {o1 o2 o3 o4 o5 o6 o7 : Obj} (d : Dd ((p, o1) :: (dp, o2) :: (fl, o3) :: (x.f, o4) :: (x.df, o5) :: (x.nl, o6) :: (x.dn, o7) :: stLed r)) (z : ∀ y ∈ x :: r, SzF pl y) (zr : (r.length : Int) ≤ pl) (e1 : x.cf = k.top) (e2 : r.map FrO.cf = k.low) (hl : pl + 1 ≤ pl') :
    PAt p dp fl c ph pt pl' k.put (led7 p dp fl x.f x.df x.nl x.dn c ph x.fh pt x.ft pl' k.gr x.nu t1' t2 x.t3 x.t4 x.wd false (fsOf r) (x.nodes ++ [v]) x.ds n1 n2' x.n3 (stLed r)) := by
  refine ⟨t1', t2, n1, { x with lo := false, nodes := x.nodes ++ [v], n2 := n2' }, r, rfl, Dd.same (by rfl) d, fun y hy => ?_, by omega, ?_, e2⟩
  · rcases List.mem_cons.mp hy with rfl | hy
    · have h := z x (.head _)
      exact ⟨by have := h.1; dsimp only; rw [List.length_append]; simp; omega, by have := h.2.1; dsimp only; omega, fun _ => by simp⟩
    · exact (z y (.tail _ hy)).mono (by omega)
  · simp only [FrO.cf, Ctl.put, Cf.put, ← e1]
    simp

theorem PAt.lt {ns : List Int} (hz : ns.length ≤ 900) (hlt : pl < (ns.length : Int)) {x : FrO} {r : List FrO} (z : ∀ y ∈ x :: r, SzF pl y) (zr : (r.length : Int) ≤ pl) : (fsOf r).length ≤ 1000 ∧ x.nodes.length ≤ 1000 ∧ x.ds.length ≤ 1000 := by
  have h := z x (.head _)
  refine ⟨by rw [fsOf_len]; omega, by have := h.1; omega, by have := h.2.1; omega⟩
/-- a list that is not empty has a last item -/
theorem snoc_of {l : List Value} (h : l ≠ []) : ∃ nd x, l = nd ++ [x] := ⟨l.dropLast, l.getLast h, (List.dropLast_concat_getLast h).symm⟩
noncomputable def hasE (m : PySem.Str) : PySem.Str → Prop := fun x => x = m
noncomputable abbrev GC (c : Addr) (vs : List Value) : Heap → Prop := fun h => h.IsList c vs.toArray
noncomputable abbrev StepOk (w : World) (mean : ExcName → Option Value) (mg mb : PySem.Str → Option Value) (p dp fl c : Addr) (ph : Nat → Int) (pt : Nat → Tok) (vs : List Value) (pl : Int) (k : Ctl) (pl' : Int) (k' : Ctl) : Prop :=
  ∀ l, PAt p dp fl c ph pt pl k l → Ctr w mean mg mb 175 [.ref p] l 16 400 (GC c vs) (fun _ l' => PAt p dp fl c ph pt pl' k' l') (fun _ => False)
noncomputable abbrev StepEr (w : World) (mean : ExcName → Option Value) (mg mb : PySem.Str → Option Value) (p dp fl c : Addr) (ph : Nat → Int) (pt : Nat → Tok) (vs : List Value) (pl : Int) (k : Ctl) (msg : PySem.Str) : Prop :=
  ∀ l, PAt p dp fl c ph pt pl k l → Ctr w mean mg mb 175 [.ref p] l 16 400 (GC c vs) (fun _ _ => False) (fun x => x = msg)
section
variable (hi : IntsAre vs ns) (hz : ns.length ≤ 900) (hch : Asc ns) (h0 : 0 ≤ pl) (hlt : pl < (ns.length : Int))
include hi hz hch h0 hlt
theorem ok_put {n : Nat} {r : Bool} (hs : sgAt ns pl = ⟨#[n]⟩) (q1 : ((⟨#[n]⟩ : PySem.Str) == PySem.Str.ofString "\\") = false) (q2 : isRep ⟨#[n]⟩ = r) (q2' : r = false ∨ k.top.lo = true) (q3 : ((⟨#[n]⟩ : PySem.Str) == PySem.Str.ofString ".") = false) (q4 : ((⟨#[n]⟩ : PySem.Str) == PySem.Str.ofString "[") = false) (q5 : ((⟨#[n]⟩ : PySem.Str) == PySem.Str.ofString "^") = false) (q6 : ((⟨#[n]⟩ : PySem.Str) == PySem.Str.ofString "$") = false) :
    StepOk w mean mg mb p dp fl c ph pt vs pl k (pl + 1) k.put := by
  rintro l ⟨t1, t2, n1, x, rr, rfl, dd, z, zr, e1, e2⟩
  obtain ⟨s1, s2, s3⟩ := PAt.lt hz hlt z zr
  have elo : x.lo = k.top.lo := by rw [← e1]; rfl
  refine (step_put hlt hs q1 q2 (by rw [elo]; exact q2') q3 q4 q5 q6 h0 (Dj.of dd) hi (by omega) hch s1 s2).mono ?_ fun _ q => q
  rintro v l ⟨v, n2', tk, rfl⟩
  exact PAt.put dd z zr e1 e2 (Int.le_refl _)
theorem ok_dot (hs : sgAt ns pl = sS ".") : StepOk w mean mg mb p dp fl c ph pt vs pl k (pl + 1) k.put := by
  rintro l ⟨t1, t2, n1, x, rr, rfl, dd, z, zr, e1, e2⟩
  obtain ⟨s1, s2, s3⟩ := PAt.lt hz hlt z zr
  refine (step_dot hlt hs h0 (Dj.of dd) hi (by omega) hch s1 s2).mono ?_ fun _ q => q
  rintro v l ⟨v, n2', tk, rfl⟩
  exact PAt.put dd z zr e1 e2 (Int.le_refl _)
theorem ok_bol1 (hs : sgAt ns pl = sS "^") (hn : k.top.ne = true) : StepOk w mean mg mb p dp fl c ph pt vs pl k (pl + 1) k.put := by
  rintro l ⟨t1, t2, n1, x, rr, rfl, dd, z, zr, e1, e2⟩
  obtain ⟨s1, s2, s3⟩ := PAt.lt hz hlt z zr
  have hne : x.nodes.isEmpty = false := by rw [← e1] at hn; simpa [FrO.cf] using hn
  refine (step_bol1 hlt hs hne h0 (Dj.of dd) hi (by omega) hch s1 s2).mono ?_ fun _ q => q
  rintro v l ⟨v, n2', tk, rfl⟩
  exact PAt.put dd z zr e1 e2 (Int.le_refl _)
theorem ok_bol0 (hs : sgAt ns pl = sS "^") (hn : k.top.ne = false) : StepOk w mean mg mb p dp fl c ph pt vs pl k (pl + 1) { k with top := { k.top with ne := true } } := by
  rintro l ⟨t1, t2, n1, x, rr, rfl, dd, z, zr, e1, e2⟩
  obtain ⟨s1, s2, s3⟩ := PAt.lt hz hlt z zr
  obtain ⟨f, df, nl, dn, fh, ft, wd, nu, t3, t4, lo, nodes, ds, n2, n3⟩ := x
  have hne : nodes = [] := by rw [← e1] at hn; simpa [FrO.cf] using hn
  subst hne
  have hx := z _ (.head _)
  refine (step_bol0 hlt hs h0 (Dj.of dd) hi (by omega) hch s1).mono ?_ fun _ q => q
  rintro v l ⟨v, n2', tk, rfl⟩
  refine ⟨tk, t2, n1, ⟨f, df, nl, dn, fh, ft, wd, nu, t3, t4, lo, [v], ds, n2', n3⟩, rr, rfl, Dd.same (by rfl) dd, fun y hy => ?_, by omega, ?_, e2⟩
  · rcases List.mem_cons.mp hy with rfl | hy
    · exact ⟨by simp; omega, by have := hx.2.1; dsimp only at this ⊢; omega, fun _ => by simp⟩
    · exact (z y (.tail _ hy)).mono (by omega)
  · simp only [FrO.cf, ← e1]
    simp
theorem ok_rep {sg : PySem.Str} {j : Nat} (hr : Run ns (pl + 1) j) (hs : sgAt ns pl = sg) (q1 : (sg == PySem.Str.ofString "\\") = false) (q2 : isRep sg = true) (hlo : k.top.lo = false) : StepOk w mean mg mb p dp fl c ph pt vs pl k (pl + 1 + j) k := by
  rintro l ⟨t1, t2, n1, x, rr, rfl, dd, z, zr, e1, e2⟩
  obtain ⟨s1, s2, s3⟩ := PAt.lt hz hlt z zr
  obtain ⟨f, df, nl, dn, fh, ft, wd, nu, t3, t4, lo, nodes, ds, n2, n3⟩ := x
  have elo : lo = false := by rw [← hlo, ← e1]; rfl
  subst elo
  have hx := z _ (.head _)
  obtain ⟨nd, y, rfl⟩ := snoc_of (hx.2.2 rfl)
  refine (step_rep hr hlt hs q1 q2 h0 (Dj.of dd) hi (by omega) hch s1 (by simp at s2; omega)).mono ?_ fun _ q => q
  rintro v l ⟨y', n2', tk, rfl⟩
  refine ⟨tk, t2, n1, ⟨f, df, nl, dn, fh, ft, wd, nu, t3, t4, false, nd ++ [y'], ds, n2', n3⟩, rr, rfl, Dd.same (by rfl) dd, fun y hy => ?_, by omega, ?_, e2⟩
  · rcases List.mem_cons.mp hy with rfl | hy
    · exact ⟨by have := hx.1; simp at this ⊢; omega, by have := hx.2.1; dsimp only at this ⊢; omega, fun _ => by simp⟩
    · exact (z y (.tail _ hy)).mono (by omega)
  · rw [← e1]; simp only [FrO.cf]; cases nd <;> rfl
theorem er_end (hlt2 : ¬ pl + 1 < (ns.length : Int)) (hs : sgAt ns pl = sS "\\") : StepEr w mean mg mb p dp fl c ph pt vs pl k (sS "Trailing backslash") := by
  rintro l ⟨t1, t2, n1, x, rr, rfl, dd, z, zr, e1, e2⟩
  exact step_end hlt hlt2 hs h0 (Dj.of dd) hi (by omega) hch
end
end
section
variable {w : World} {mean : ExcName → Option Value} {mg mb : PySem.Str → Option Value} {p dp fl f df nl dn c : Addr} {ph fh : Nat → Int} {pt ft : Nat → Tok} {pl gr nu : Int} {t1 t2 t3 t4 : Tok} {wd : PySem.Str} {lo : Bool} {fs nodes ds : List Value} {n1 n2 n3 : Nat} {vs : List Value} {ns : List Int} {rest : Led}
theorem rows_at25 : True := by
  k_with_none
  k_with "m:k_ne" => ((refine neN ?_; (try dsimp only); first | exact Ap.ne (by assumption) | exact Ap.swap (by assumption) | exact off_ne (by assumption) (by k_mem) | exact (off_ne (by assumption) (by k_mem)).symm | omega))
  k_with "m:k_all" => (first | exact Off.all (by assumption) | exact off_lt (by first | assumption | simp only [*]))
  k_with "m:size_fits" => ((simp only [List.size_toArray, PySem.sizeLine_eq]; omega))
  k_with "subscriptTail" => ((k_here; (with_reducible show wpAny _ _ (subscriptTail _ _ (Value.ref _) (Value.int (-1) _)) _ _ _); (with_unfolding_all refine' last_item ?k1 ?k2 ?_ ?k3; (case k1 => first | is_list | exact News.isList (by k_asm) (by k_mem)); (case k2 => assumption); (case k3 => with_unfolding_all rfl); k_whole)))
  k_with "exec Raise some none" => ((k_here; refine raise_D rfl ?_))
  k_with "call ref" => ((k_here; (with_reducible show wpAny _ _ (call (Value.ref 70) [Value.str _ _]) _ _ _); k_dflt (refine' bad_made ?k1 ?k2 ?k3 ?k4 ?k5 ?k6 ?k7 ?k8 ?_; (case k1 => k_asm); (case k2 => k_asm); (case k3 => k_asm); (case k4 => k_asm); (case k5 => k_asm); (case k6 => rfl); (case k7 => ktr_room); (case k8 => ktr_units); k_whole; intro e'z news'z h'z tk'z F'z N'z hin'z hX'z; (try k_sweep))))
  k_with "RaiseEnd" => ((k_here; refine raiseEnd_ (by k_asm) (by k_asm) (by k_asm) (by assumption) ?_))
  k_with "leaving ref" => ((k_here; first | (refine' leave_firstD ?k1 ?k2 ?k3 ?k4 ?k5 ?k6 ?_; (case k4 => assumption); (case k1 => assumption); (case k2 => assumption); (case k3 => k_asm); (case k5 => exact rfl); (case k6 => exact rfl); k_whole; intro h'z R'z; (try dsimp only at R'z ⊢)) | (refine' leave_onD ?k1 ?k2 ?kF ?k3 ?_; (case k3 => assumption); (case k1 => exact rfl); (case k2 => exact rfl); (case kF => assumption); k_whole; intro h'z R'z; (try dsimp only at R'z ⊢))))
  k_with "m:is_list" => (exact News.isList (by k_asm) (by k_mem))
  k_with "call builtin:len" => ((k_here; (with_reducible show wpAny _ _ (call (Value.builtin "len") [Value.ref _]) _ _ _); k_dflt (refine' len_led ?k1 ?k2 ?_; (case k1 => exact News.isList (by k_asm) (by k_mem)); (case k2 => ((try simp only [List.length_append, List.length_cons, List.length_nil] at *); omega)); intro t'z t2'z)))
  k_with "compareOp Eq ref ref" => ((k_here; (with_reducible show wpAny _ _ (compareOp CmpOp.Eq (Value.ref _) (Value.ref _)) _ _ _); k_dflt (refine' eq_empty ?k1 ?k2 ?k3 ?_; (case k1 => exact News.isList (by k_asm) (by k_mem)); (case k2 => exact News.isList (by k_asm) (by k_mem)); (case k3 => ktr_units))))
  k_with "call type:tuple" => ((k_here; (with_reducible show wpAny _ _ (call (Value.type _) [Value.ref _]) _ _ _); k_dflt (refine' tuple_led ?k1 ?k2 ?k3 ?k4 ?_; (case k1 => k_asm); (case k2 => k_asm); (case k3 => exact News.isList (by k_asm) (by k_mem)); (case k4 => ((try simp only [List.length_append, List.length_cons, List.length_nil] at *); omega)); k_whole; intro l'z h'z F'z N'z; (try k_sweep))))
  k_with "binaryOp Add ref ref" => ((k_here; (with_reducible show wpAny _ _ (binaryOp _ (Value.ref _) (Value.ref _)) _ _ _); k_dflt (refine' add_led ?k1 ?k2 ?k3 ?k5 ?k4 ?_; (case k1 => k_asm); (case k2 => k_asm); (case k3 => exact News.isList (by k_asm) (by k_mem)); (case k5 => exact News.isList (by k_asm) (by k_mem)); (case k4 => ((try simp only [List.length_append, List.length_cons, List.length_nil] at *); omega)); k_whole; intro l'z h'z F'z N'z l1; (try k_lt l1); (try k_sweep))))
  k_with "subscriptTail" => ((k_here; (with_reducible show wpAny _ _ (subscriptTail _ _ (Value.ref _) (Value.int 0 _)) _ _ _); (with_unfolding_all refine' first_item ?k1 ?k2 ?_ ?k3; (case k1 => exact News.isList (by k_asm) (by k_mem)); (case k2 => omega); (case k3 => with_unfolding_all rfl); k_whole; intro x'z)))
  k_with "call builtin:list.append" => ((k_here; (with_reducible show wpAny _ _ (call (Value.builtin _) [Value.ref _, _]) _ _ _); k_dflt (refine' append_led ?k1 ?k2 ?k3 ?k4 ?_; (case k1 => k_asm); (case k2 => k_asm); (case k3 => k_upd); (case k4 => ((try simp only [List.length_append, List.length_cons, List.length_nil] at *); omega)); k_whole); intro h'z F'z N'z; (try k_sweep)))
  k_with "ite" => ((k_closed; k_dflt (first | refine ite_pos (by decide +kernel) ?_ | refine ite_neg (by decide +kernel) ?_)))
  k_with "ite" => ((k_here; first | refine ite_pos (by with_reducible assumption) ?_ | refine ite_neg (ntt (by with_reducible assumption)) ?_))
  k_with "m:ktn_open" => (((repeat (refine InAll.cons (by k_mem) ?_)); (repeat (refine InAll.skip ?_)); exact InAll.refl _))
  k_with "call builtin:list.pop" => ((k_here; (with_reducible show wpAny _ _ (call (Value.builtin _) [Value.ref _]) _ _ _); k_dflt (refine' pop_end ?k1 ?k2 ?k3 ?k4 ?_; (case k1 => k_asm); (case k2 => k_asm); (case k3 => k_upd); (case k4 => ((try simp only [List.length_append, List.length_cons, List.length_nil] at *); omega)); k_whole); intro h'z F'z N'z; (try k_sweep)))
  k_with "eval Constant int" => ((k_here; refine const_int_mk ?_))
  k_with "eval Constant str" => ((k_here; refine const_str_mk ?_))
  k_with "binaryOp Add int int" => ((k_here; refine add_int_mk ?_))
  k_with "binaryOp Sub int int" => ((k_here; refine sub_int_mk ?_))
  trivial
variable {k k' : Ctl} {l : Led}
theorem gc_true {h : Heap} (_ : GC c vs h) : (fun _ : Heap => True) h := trivial
theorem PAt.opened {pl' gr' nu' : Int} {wd' : PySem.Str} {x : FrO} {r : List FrO} {led' : Led} (O : Opened p dp fl x.f x.df x.nl x.dn c ph x.fh pt x.ft pl gr x.nu x.t3 x.t4 x.wd x.lo (fsOf r) x.nodes x.ds x.n2 x.n3 (stLed r) pl' gr' nu' wd' led')
    {sz : Int} (h0 : 0 ≤ sz) (z : ∀ y ∈ x :: r, SzF sz y) (zr : (r.length : Int) ≤ sz) (e1 : x.cf = k.top) (e2 : r.map FrO.cf = k.low) (hl : sz + 1 ≤ pl') : PAt p dp fl c ph pt pl' ⟨gr', ⟨wd', nu', true, false⟩, k.top :: k.low⟩ led' := by
  obtain ⟨f', df', nl', dn', fh', ft', n1', n2', n3', u1, u2, u3, u4, dd, rfl⟩ := O
  refine ⟨u1, u2, n1', ⟨f', df', nl', dn', fh', ft', wd', nu', u3, u4, true, [], [], n2', n3'⟩, x :: r, rfl, dd, fun y hy => ?_, by rw [List.length_cons]; omega, rfl, by rw [List.map_cons, e1, e2]⟩
  rcases List.mem_cons.mp hy with rfl | hy
  · exact ⟨by simp; omega, by simp; omega, fun h => by cases h⟩
  · exact (z y hy).mono (by omega)
theorem frsAre_mono {l l' : Led} (h : ∀ q ∈ l, q ∈ l') : ∀ {vs : List Value} {xs : List (PySem.Str × Int)}, FrsAre l vs xs → FrsAre l' vs xs
  | _, _, .nil => .nil
  | _, _, .cons m1 m2 r => .cons (h _ m1) (h _ m2) (frsAre_mono h r)
theorem frsAre_snoc {l : Led} {f df nl dn : Addr} {fh : Nat → Int} {ft : Nat → Tok} {wd : PySem.Str} {nu : Int} {t3 t4 : Tok} {lo : Bool} (m1 : (f, instObj 129 df) ∈ l) (m2 : (df, fDict fh ft wd t3 nu t4 dn nl lo) ∈ l) : ∀ {vs : List Value} {xs : List (PySem.Str × Int)}, FrsAre l vs xs → FrsAre l (vs ++ [.ref f]) (xs ++ [(wd, nu)])
  | _, _, .nil => .cons m1 m2 .nil
  | _, _, .cons a1 a2 r => .cons a1 a2 (frsAre_snoc m1 m2 r)
theorem frsAre_st : ∀ r : List FrO, FrsAre (stLed r) (fsOf r) ((r.map fun y => (y.wd, y.nu)).reverse)
  | [] => .nil
  | x :: r => by
    rw [List.map_cons, List.reverse_cons]
    exact frsAre_snoc (.head _) (.tail _ (.head _)) (frsAre_mono (fun q hq => .tail _ (.tail _ (.tail _ (.tail _ hq)))) (frsAre_st r))
/-- the numbers of the groups that are open -/
noncomputable def Ctl.open (k : Ctl) : List Int := gnums (((k.top :: k.low).map fun y => (y.wd, y.nu)).reverse)
section
variable (hi : IntsAre vs ns) (hz : ns.length ≤ 900) (hch : Asc ns) (h0 : 0 ≤ pl) (hlt1 : pl + 1 < (ns.length : Int)) (hs : sgAt ns pl = sS "\\")
include hi hz hch h0 hlt1 hs
theorem esc_gen {sg : PySem.Str} {E : PySem.Str → Prop} {P : Led → Prop} (hs2 : sgAt ns (pl + 1) = sg)
    (Ho : ∀ t1 t2 n1 x r u, Dd (PLed p dp fl c ph pt (pl + 1 + 1) k.gr t1 t2 n1 x r) → (∀ y ∈ x :: r, SzF pl y) → (r.length : Int) ≤ pl → x.cf = k.top → r.map FrO.cf = k.low → (fsOf r).length ≤ 1000 ∧ x.nodes.length ≤ 1000 ∧ x.ds.length ≤ 1000 →
      Ctr w mean mg mb 196 [.ref p, .str sg u] (PLed p dp fl c ph pt (pl + 1 + 1) k.gr t1 t2 n1 x r) 12 340 (GC c vs) (fun _ l' => P l') E) :
    ∀ l, PAt p dp fl c ph pt pl k l → Ctr w mean mg mb 175 [.ref p] l 16 400 (GC c vs) (fun _ l' => P l') E := by
  rintro l ⟨t1, t2, n1, x, rr, rfl, dd, z, zr, e1, e2⟩
  have hs3 := PAt.lt hz (by omega : pl < (ns.length : Int)) z zr
  refine (step_esc (R := fun _ l' => P l') (Er := E) hlt1 hs hs2 h0 (Dj.of dd) hi (by omega) hch fun t u => Ho t t2 n1 x rr u (Dd.same (by rfl) dd) z zr e1 e2 hs3).mono ?_ fun _ q => q
  rintro v l ⟨_, q⟩
  exact q
theorem ok_b (hs2 : sgAt ns (pl + 1) = sS "b") : StepOk w mean mg mb p dp fl c ph pt vs pl k (pl + 1 + 1) k.put :=
  esc_gen hi hz hch h0 hlt1 hs hs2 fun t1 t2 n1 x r u dd z zr e1 e2 s => (disp_put_b (Dj.of dd) s.1 s.2.1).mono (by rintro v l ⟨_, v, n2', rfl⟩; exact PAt.put dd z zr e1 e2 (by omega)) fun _ q => q
theorem ok_r (hs2 : sgAt ns (pl + 1) = sS "}") : StepOk w mean mg mb p dp fl c ph pt vs pl k (pl + 1 + 1) k.put :=
  esc_gen hi hz hch h0 hlt1 hs hs2 fun t1 t2 n1 x r u dd z zr e1 e2 s => (disp_put_r (Dj.of dd) s.1 s.2.1).mono (by rintro v l ⟨_, v, n2', rfl⟩; exact PAt.put dd z zr e1 e2 (by omega)) fun _ q => q
theorem ok_part (hs2 : sgAt ns (pl + 1) = sS "|") : StepOk w mean mg mb p dp fl c ph pt vs pl k (pl + 1 + 1) { k with top := { k.top with lo := true, ne := false } } :=
  esc_gen hi hz hch h0 hlt1 hs hs2 fun t1 t2 n1 x r u dd z zr e1 e2 s => (disp_part (Dj.of dd) s.1 s.2.1 s.2.2).mono (by
    rintro v l ⟨_, nl', n2', n3', ds', dj', hd', rfl⟩
    have hx := z x (.head _)
    refine ⟨t1, t2, n1, { x with nl := nl', lo := true, nodes := [], ds := ds', n2 := n2', n3 := n3' }, r, rfl, Dd.of dj' dd.tail7, fun y hy => ?_, by omega, ?_, e2⟩
    · rcases List.mem_cons.mp hy with rfl | hy
      · exact ⟨by simp; omega, by have := hx.2.1; dsimp only; omega, fun h => by cases h⟩
      · exact (z y (.tail _ hy)).mono (by omega)
    · simp only [FrO.cf, ← e1]
      simp) fun _ q => q
theorem ok_open {sg : PySem.Str} (hs2 : sgAt ns (pl + 1) = sS "(") (hs3 : sgAt ns (pl + 1 + 1) = sg) (hq : isQ sg = true) : StepOk w mean mg mb p dp fl c ph pt vs pl k (pl + 1 + 1) ⟨k.gr + 1, ⟨sS "group", k.gr + 1, true, false⟩, k.top :: k.low⟩ :=
  esc_gen hi hz hch h0 hlt1 hs hs2 fun t1 t2 n1 x r u dd z zr e1 e2 s => (disp_open (R := fun _ l' => PAt p dp fl c ph pt (pl + 1 + 1) ⟨k.gr + 1, ⟨sS "group", k.gr + 1, true, false⟩, k.top :: k.low⟩ l') (Er := fun _ => False) (.head _) (.tail _ (.head _))
    (((opened_p hs3 hq (by omega) dd hi (by omega) hch s.1).mono (by rintro v l ⟨_, O⟩; exact PAt.opened O h0 z zr e1 e2 (by omega)) fun _ q => q).up (by decide) (by decide) fun _ q => q)).mono (by rintro v l ⟨_, _, q⟩; exact q) fun _ q => q
theorem ok_shy (hs2 : sgAt ns (pl + 1) = sS "(") (hs3 : sgAt ns (pl + 1 + 1) = sS "?") (hs4 : sgAt ns (pl + 1 + 1 + 1) = sS ":") : StepOk w mean mg mb p dp fl c ph pt vs pl k (pl + 1 + 1 + 1 + 1) ⟨k.gr, ⟨sS "shy", 0, true, false⟩, k.top :: k.low⟩ :=
  esc_gen hi hz hch h0 hlt1 hs hs2 fun t1 t2 n1 x r u dd z zr e1 e2 s => (disp_open (R := fun _ l' => PAt p dp fl c ph pt (pl + 1 + 1 + 1 + 1) ⟨k.gr, ⟨sS "shy", 0, true, false⟩, k.top :: k.low⟩ l') (Er := fun _ => False) (.head _) (.tail _ (.head _))
    (((opened_s hs3 hs4 (by omega) dd hi (by omega) hch s.1).mono (by rintro v l ⟨_, O⟩; exact PAt.opened O h0 z zr e1 e2 (by omega)) fun _ q => q).up (by decide) (by decide) fun _ q => q)).mono (by rintro v l ⟨_, _, q⟩; exact q) fun _ q => q
theorem ok_told {d : Int} (hs2 : sgAt ns (pl + 1) = sS "(") (hs3 : sgAt ns (pl + 1 + 1) = sS "?") (hd1 : 1 ≤ d) (hd9 : d ≤ 9) (c1 : ns.getD (pl + 1 + 1 + 1).toNat 0 = 48 + d) (hs5 : sgAt ns (pl + 1 + 1 + 2) = sS ":") (hl5 : pl + 1 + 1 + 2 < (ns.length : Int)) :
    StepOk w mean mg mb p dp fl c ph pt vs pl k (pl + 1 + 1 + 1 + 1 + 1) ⟨if d > k.gr then d else k.gr, ⟨sS "group", d, true, false⟩, k.top :: k.low⟩ :=
  esc_gen hi hz hch h0 hlt1 hs hs2 fun t1 t2 n1 x r u dd z zr e1 e2 s => (disp_open (R := fun _ l' => PAt p dp fl c ph pt (pl + 1 + 1 + 1 + 1 + 1) ⟨if d > k.gr then d else k.gr, ⟨sS "group", d, true, false⟩, k.top :: k.low⟩ l') (Er := fun _ => False) (.head _) (.tail _ (.head _))
    (((opened_t hs3 hd1 hd9 c1 hs5 hl5 (by omega) dd hi (by omega) hch s.1).mono (by rintro v l ⟨_, O⟩; exact PAt.opened O h0 z zr e1 e2 (by omega)) fun _ q => q).up (by decide) (by decide) fun _ q => q)).mono (by rintro v l ⟨_, _, q⟩; exact q) fun _ q => q
theorem ok_close {y : Cf} {low : List Cf} (hs2 : sgAt ns (pl + 1) = sS ")") (hlow : k.low = y :: low) (hw : k.top.wd = sS "shy" ∨ k.top.wd = sS "group") : StepOk w mean mg mb p dp fl c ph pt vs pl k (pl + 1 + 1) ⟨k.gr, y.put, low⟩ :=
  esc_gen hi hz hch h0 hlt1 hs hs2 fun t1 t2 n1 x r u dd z zr e1 e2 s => by
    obtain ⟨x2, r2, rfl⟩ : ∃ x2 r2, r = x2 :: r2 := by
      cases r with
      | nil => rw [hlow] at e2; cases e2
      | cons a b => exact ⟨a, b, rfl⟩
    rw [hlow, List.map_cons] at e2
    obtain ⟨e3, e4⟩ := List.cons.inj e2
    have hw' : x.wd = sS "shy" ∨ x.wd = sS "group" := by rw [← e1] at hw; exact hw
    have hx2 := z x2 (.tail _ (.head _))
    have zr' := zr
    rw [List.length_cons] at zr'
    refine (disp_close (R := fun _ l' => PAt p dp fl c ph pt (pl + 1 + 1) ⟨k.gr, y.put, low⟩ l') (Er := fun _ => False) (.head _) (.tail _ (.head _)) (((closed_c (fs2 := fsOf r2) hw' dd (by rw [fsOf_len]; omega) s.2.1 s.2.2 (by have := hx2.1; omega)).mono ?_ fun _ q => q).up (by decide) (by decide) fun _ _ => trivial)).mono (by rintro v l ⟨_, _, q⟩; exact q) fun _ q => q
    rintro v l ⟨_, v, n1', n2', rfl⟩
    exact PAt.put (k := ⟨k.gr, y, low⟩) (o1 := instObj 253 dp) (o2 := instObj 253 dp) (o3 := instObj 253 dp) (o4 := instObj 253 dp) (o5 := instObj 253 dp) (o6 := instObj 253 dp) (o7 := instObj 253 dp) dd.pop (fun y' hy' => z y' (.tail _ hy')) (by omega) e3 e4 (by omega)
theorem ok_back1 (hs2 : sgAt ns (pl + 1) = sS "1") (hg : ¬ (k.gr < 1 ∨ 1 ∈ k.open)) : StepOk w mean mg mb p dp fl c ph pt vs pl k (pl + 1 + 1) k.put :=
  esc_gen hi hz hch h0 hlt1 hs hs2 fun t1 t2 n1 x r u dd z zr e1 e2 s => by
    have fa := frsAre_snoc (.tail _ (.tail _ (.tail _ (.head _)))) (.tail _ (.tail _ (.tail _ (.tail _ (.head _))))) (frsAre_mono (l' := PLed p dp fl c ph pt (pl + 1 + 1) k.gr t1 t2 n1 x r) (fun q hq => .tail _ (.tail _ (.tail _ (.tail _ (.tail _ (.tail _ (.tail _ hq))))))) (frsAre_st r))
    have ho : gnums ((r.map fun y => (y.wd, y.nu)).reverse ++ [(x.wd, x.nu)]) = k.open := by
      unfold Ctl.open
      rw [← e1, ← e2, List.map_cons, List.reverse_cons, List.map_map]; rfl
    refine (disp_back1 (R := fun _ l' => PAt p dp fl c ph pt (pl + 1 + 1) k.put l') (Er := fun _ => False) (.head _) (.tail _ (.head _)) fun tk => ((back_c fa (by rw [ho]; exact hg) (Dj.of dd) s.1 s.2.1).mono ?_ fun _ q => q).up (by decide) (by decide) fun _ _ => trivial).mono (by rintro v l ⟨_, _, q⟩; exact q) fun _ q => q
    rintro v l ⟨_, v, n2', rfl⟩
    exact PAt.put dd z zr e1 e2 (by omega)
theorem ok_back2 (hs2 : sgAt ns (pl + 1) = sS "2") (hg : ¬ (k.gr < 2 ∨ 2 ∈ k.open)) : StepOk w mean mg mb p dp fl c ph pt vs pl k (pl + 1 + 1) k.put :=
  esc_gen hi hz hch h0 hlt1 hs hs2 fun t1 t2 n1 x r u dd z zr e1 e2 s => by
    have fa := frsAre_snoc (.tail _ (.tail _ (.tail _ (.head _)))) (.tail _ (.tail _ (.tail _ (.tail _ (.head _))))) (frsAre_mono (l' := PLed p dp fl c ph pt (pl + 1 + 1) k.gr t1 t2 n1 x r) (fun q hq => .tail _ (.tail _ (.tail _ (.tail _ (.tail _ (.tail _ (.tail _ hq))))))) (frsAre_st r))
    have ho : gnums ((r.map fun y => (y.wd, y.nu)).reverse ++ [(x.wd, x.nu)]) = k.open := by
      unfold Ctl.open
      rw [← e1, ← e2, List.map_cons, List.reverse_cons, List.map_map]; rfl
    refine (disp_back2 (R := fun _ l' => PAt p dp fl c ph pt (pl + 1 + 1) k.put l') (Er := fun _ => False) (.head _) (.tail _ (.head _)) fun tk => ((back_c fa (by rw [ho]; exact hg) (Dj.of dd) s.1 s.2.1).mono ?_ fun _ q => q).up (by decide) (by decide) fun _ _ => trivial).mono (by rintro v l ⟨_, _, q⟩; exact q) fun _ q => q
    rintro v l ⟨_, v, n2', rfl⟩
    exact PAt.put dd z zr e1 e2 (by omega)
theorem ok_syn (hs2 : sgAt ns (pl + 1) = sS "s") (hs3 : sgAt ns (pl + 1 + 1) = sS "w") (hl3 : pl + 1 + 1 < (ns.length : Int)) : StepOk w mean mg mb p dp fl c ph pt vs pl k (pl + 1 + 1 + 1) k.put :=
  esc_gen hi hz hch h0 hlt1 hs hs2 fun t1 t2 n1 x r u dd z zr e1 e2 s => (disp_syntax (R := fun _ l' => PAt p dp fl c ph pt (pl + 1 + 1 + 1) k.put l') (Er := fun _ => False) (.head _) (.tail _ (.head _))
    (((by_syntax_c hs3 hl3 (by omega) (Dj.of dd) hi (by omega) hch s.1 s.2.1).mono (by rintro v l ⟨_, v, n2', tk, rfl⟩; exact PAt.put dd z zr e1 e2 (by omega)) fun _ q => q).up (by decide) (by decide) fun _ q => q)).mono (by rintro v l ⟨_, _, q⟩; exact q) fun _ q => q
theorem ok_sym (hs2 : sgAt ns (pl + 1) = sS "_") (hs3 : sgAt ns (pl + 1 + 1) = sS "<") (hl3 : pl + 1 + 1 < (ns.length : Int)) : StepOk w mean mg mb p dp fl c ph pt vs pl k (pl + 1 + 1 + 1) k.put :=
  esc_gen hi hz hch h0 hlt1 hs hs2 fun t1 t2 n1 x r u dd z zr e1 e2 s => (disp_symbol (R := fun _ l' => PAt p dp fl c ph pt (pl + 1 + 1 + 1) k.put l') (Er := fun _ => False) (.head _) (.tail _ (.head _))
    (((by_symbol_c hs3 hl3 (by omega) (Dj.of dd) hi (by omega) hch s.1 s.2.1).mono (by rintro v l ⟨_, v, n2', tk, rfl⟩; exact PAt.put dd z zr e1 e2 (by omega)) fun _ q => q).up (by decide) (by decide) fun _ q => q)).mono (by rintro v l ⟨_, _, q⟩; exact q) fun _ q => q
theorem ok_cntl {least most j : Int} (hs2 : sgAt ns (pl + 1) = sS "{") (hb : BndOk ns (pl + 1 + 1) least most j) (hlo : k.top.lo = true) : StepOk w mean mg mb p dp fl c ph pt vs pl k (pl + 1 + 1) k.put :=
  esc_gen hi hz hch h0 hlt1 hs hs2 fun t1 t2 n1 x r u dd z zr e1 e2 s => by
    obtain ⟨f, df, nl, dn, fh, ft, wd, nu, t3, t4, lo, nodes, ds, n2, n3⟩ := x
    have elo : lo = true := by rw [← hlo, ← e1]; rfl
    subst elo
    refine (disp_count (R := fun _ l' => PAt p dp fl c ph pt (pl + 1 + 1) k.put l') (Er := fun _ => False) (.head _) (.tail _ (.head _)) (((counted_l hb (by omega) (Dj.of dd) hi (by omega) hch s.1 s.2.1).mono ?_ fun _ q => q).up (by decide) (by decide) fun _ q => q)).mono (by rintro v l ⟨_, _, q⟩; exact q) fun _ q => q
    rintro v l ⟨_, v, n2', tk, rfl⟩
    exact PAt.put (x := ⟨f, df, nl, dn, fh, ft, wd, nu, t3, t4, true, nodes, ds, n2, n3⟩) dd z zr e1 e2 (by omega)
theorem ok_cntt {least most j : Int} (hs2 : sgAt ns (pl + 1) = sS "{") (hb : BndOk ns (pl + 1 + 1) least most j) (hj : 0 ≤ j) (hlo : k.top.lo = false) : StepOk w mean mg mb p dp fl c ph pt vs pl k (pl + 1 + 1 + j) k :=
  esc_gen hi hz hch h0 hlt1 hs hs2 fun t1 t2 n1 x r u dd z zr e1 e2 s => by
    obtain ⟨f, df, nl, dn, fh, ft, wd, nu, t3, t4, lo, nodes, ds, n2, n3⟩ := x
    have elo : lo = false := by rw [← hlo, ← e1]; rfl
    subst elo
    have hx := z _ (.head _)
    obtain ⟨nd, y, rfl⟩ := snoc_of (hx.2.2 rfl)
    refine (disp_count (R := fun _ l' => PAt p dp fl c ph pt (pl + 1 + 1 + j) k l') (Er := fun _ => False) (.head _) (.tail _ (.head _)) (((counted_t hb (by omega) (Dj.of dd) hi (by omega) hch s.1 (by have := s.2.1; simp at this; omega)).mono ?_ fun _ q => q).up (by decide) (by decide) fun _ q => q)).mono (by rintro v l ⟨_, _, q⟩; exact q) fun _ q => q
    rintro v l ⟨_, y', n2', tk, rfl⟩
    refine ⟨tk, t2, n1, ⟨f, df, nl, dn, fh, ft, wd, nu, t3, t4, false, nd ++ [y'], ds, n2', n3⟩, r, rfl, Dd.same (by rfl) dd, fun y hy => ?_, by omega, ?_, e2⟩
    · rcases List.mem_cons.mp hy with rfl | hy
      · exact ⟨by have := hx.1; simp at this ⊢; omega, by have := hx.2.1; dsimp only at this ⊢; omega, fun _ => by simp⟩
      · exact (z y (.tail _ hy)).mono (by omega)
    · rw [← e1]; simp only [FrO.cf]; cases nd <;> rfl
theorem er_close (hs2 : sgAt ns (pl + 1) = sS ")") (hlow : k.low = []) : StepEr w mean mg mb p dp fl c ph pt vs pl k (sS "Unmatched ) or \\)") := fun l hl =>
  (esc_gen (P := fun _ => False) (E := fun x => x = sS "Unmatched ) or \\)") hi hz hch h0 hlt1 hs hs2 (fun t1 t2 n1 x r u dd z zr e1 e2 s => by
    obtain rfl : r = [] := by
      cases r with
      | nil => rfl
      | cons a b => rw [hlow] at e2; cases e2
    exact (disp_close (R := fun _ _ => False) (Er := fun x => x = sS "Unmatched ) or \\)") (.head _) (.tail _ (.head _)) (closed_e.up (by decide) (by decide) fun _ _ => trivial)).mono (by rintro v l ⟨_, _, q⟩; exact q) fun _ q => q) l hl).mono (fun _ _ q => q) fun _ q => q
theorem er_back1 (hs2 : sgAt ns (pl + 1) = sS "1") (hg : k.gr < 1 ∨ 1 ∈ k.open) : StepEr w mean mg mb p dp fl c ph pt vs pl k (sS "Invalid back reference") := fun l hl =>
  (esc_gen (P := fun _ => False) (E := fun x => x = sS "Invalid back reference") hi hz hch h0 hlt1 hs hs2 (fun t1 t2 n1 x r u dd z zr e1 e2 s => by
    have fa := frsAre_snoc (.tail _ (.tail _ (.tail _ (.head _)))) (.tail _ (.tail _ (.tail _ (.tail _ (.head _))))) (frsAre_mono (l' := PLed p dp fl c ph pt (pl + 1 + 1) k.gr t1 t2 n1 x r) (fun q hq => .tail _ (.tail _ (.tail _ (.tail _ (.tail _ (.tail _ (.tail _ hq))))))) (frsAre_st r))
    have ho : gnums ((r.map fun y => (y.wd, y.nu)).reverse ++ [(x.wd, x.nu)]) = k.open := by
      unfold Ctl.open
      rw [← e1, ← e2, List.map_cons, List.reverse_cons, List.map_map]; rfl
    exact (disp_back1 (R := fun _ _ => False) (Er := fun x => x = sS "Invalid back reference") (.head _) (.tail _ (.head _)) fun tk => (back_e fa (by rw [ho]; exact hg) (Dj.of dd) s.1 s.2.1).up (by decide) (by decide) fun _ _ => trivial).mono (by rintro v l ⟨_, _, q⟩; exact q) fun _ q => q) l hl).mono (fun _ _ q => q) fun _ q => q
theorem er_back2 (hs2 : sgAt ns (pl + 1) = sS "2") (hg : k.gr < 2 ∨ 2 ∈ k.open) : StepEr w mean mg mb p dp fl c ph pt vs pl k (sS "Invalid back reference") := fun l hl =>
  (esc_gen (P := fun _ => False) (E := fun x => x = sS "Invalid back reference") hi hz hch h0 hlt1 hs hs2 (fun t1 t2 n1 x r u dd z zr e1 e2 s => by
    have fa := frsAre_snoc (.tail _ (.tail _ (.tail _ (.head _)))) (.tail _ (.tail _ (.tail _ (.tail _ (.head _))))) (frsAre_mono (l' := PLed p dp fl c ph pt (pl + 1 + 1) k.gr t1 t2 n1 x r) (fun q hq => .tail _ (.tail _ (.tail _ (.tail _ (.tail _ (.tail _ (.tail _ hq))))))) (frsAre_st r))
    have ho : gnums ((r.map fun y => (y.wd, y.nu)).reverse ++ [(x.wd, x.nu)]) = k.open := by
      unfold Ctl.open
      rw [← e1, ← e2, List.map_cons, List.reverse_cons, List.map_map]; rfl
    exact (disp_back2 (R := fun _ _ => False) (Er := fun x => x = sS "Invalid back reference") (.head _) (.tail _ (.head _)) fun tk => (back_e fa (by rw [ho]; exact hg) (Dj.of dd) s.1 s.2.1).up (by decide) (by decide) fun _ _ => trivial).mono (by rintro v l ⟨_, _, q⟩; exact q) fun _ q => q) l hl).mono (fun _ _ q => q) fun _ q => q
theorem er_syn (hs2 : sgAt ns (pl + 1) = sS "s") (hs3 : sgAt ns (pl + 1 + 1) = sS "q") (hl3 : pl + 1 + 1 < (ns.length : Int)) : StepEr w mean mg mb p dp fl c ph pt vs pl k (sS "Invalid syntax designator") := fun l hl =>
  (esc_gen (P := fun _ => False) (E := fun x => x = sS "Invalid syntax designator") hi hz hch h0 hlt1 hs hs2 (fun t1 t2 n1 x r u dd z zr e1 e2 s =>
    (disp_syntax (R := fun _ _ => False) (Er := fun x => x = sS "Invalid syntax designator") (.head _) (.tail _ (.head _)) ((by_syntax_e hs3 hl3 (by omega) (Dj.of dd) hi (by omega) hch).up (by decide) (by decide) fun _ q => q)).mono (by rintro v l ⟨_, _, q⟩; exact q) fun _ q => q) l hl).mono (fun _ _ q => q) fun _ q => q
theorem er_sym (hs2 : sgAt ns (pl + 1) = sS "_") (hs3 : sgAt ns (pl + 1 + 1) = sS "x") (hl3 : pl + 1 + 1 < (ns.length : Int)) : StepEr w mean mg mb p dp fl c ph pt vs pl k (sS "Invalid regular expression") := fun l hl =>
  (esc_gen (P := fun _ => False) (E := fun x => x = sS "Invalid regular expression") hi hz hch h0 hlt1 hs hs2 (fun t1 t2 n1 x r u dd z zr e1 e2 s =>
    (disp_symbol (R := fun _ _ => False) (Er := fun x => x = sS "Invalid regular expression") (.head _) (.tail _ (.head _)) ((by_symbol_e hs3 hl3 (by omega) (Dj.of dd) hi (by omega) hch).up (by decide) (by decide) fun _ q => q)).mono (by rintro v l ⟨_, _, q⟩; exact q) fun _ q => q) l hl).mono (fun _ _ q => q) fun _ q => q
theorem er_open0 (hs2 : sgAt ns (pl + 1) = sS "(") (hs3 : sgAt ns (pl + 1 + 1) = sS "?") (c1 : ns.getD (pl + 1 + 1 + 1).toNat 0 = 48 + 0) (hs5 : sgAt ns (pl + 1 + 1 + 2) = sS ":") (hl5 : pl + 1 + 1 + 2 < (ns.length : Int)) : StepEr w mean mg mb p dp fl c ph pt vs pl k (sS "Invalid regular expression") := fun l hl =>
  (esc_gen (P := fun _ => False) (E := fun x => x = sS "Invalid regular expression") hi hz hch h0 hlt1 hs hs2 (fun t1 t2 n1 x r u dd z zr e1 e2 s =>
    (disp_open (R := fun _ _ => False) (Er := fun x => x = sS "Invalid regular expression") (.head _) (.tail _ (.head _)) ((opened_e0 hs3 c1 hs5 hl5 (by omega) (Dj.of dd) hi (by omega) hch).up (by decide) (by decide) fun _ q => q)).mono (by rintro v l ⟨_, _, q⟩; exact q) fun _ q => q) l hl).mono (fun _ _ q => q) fun _ q => q
theorem er_openx (hs2 : sgAt ns (pl + 1) = sS "(") (hs3 : sgAt ns (pl + 1 + 1) = sS "?") (hs4 : sgAt ns (pl + 1 + 1 + 1) = sS "x") (hl4 : pl + 1 + 1 + 1 < (ns.length : Int)) : StepEr w mean mg mb p dp fl c ph pt vs pl k (sS "Invalid regular expression") := fun l hl =>
  (esc_gen (P := fun _ => False) (E := fun x => x = sS "Invalid regular expression") hi hz hch h0 hlt1 hs hs2 (fun t1 t2 n1 x r u dd z zr e1 e2 s =>
    (disp_open (R := fun _ _ => False) (Er := fun x => x = sS "Invalid regular expression") (.head _) (.tail _ (.head _)) ((opened_ex hs3 hs4 hl4 (by omega) (Dj.of dd) hi (by omega) hch).up (by decide) (by decide) fun _ q => q)).mono (by rintro v l ⟨_, _, q⟩; exact q) fun _ q => q) l hl).mono (fun _ _ q => q) fun _ q => q
theorem er_bad (hs2 : sgAt ns (pl + 1) = sS "c") : StepEr w mean mg mb p dp fl c ph pt vs pl k (sS "Invalid regular expression") := fun l hl =>
  (esc_gen (P := fun _ => False) (E := fun x => x = sS "Invalid regular expression") hi hz hch h0 hlt1 hs hs2 (fun t1 t2 n1 x r u dd z zr e1 e2 s => disp_bad (.head _)) l hl).mono (fun _ _ q => q) fun _ q => q
theorem er_cnt {msg : PySem.Str} (hs2 : sgAt ns (pl + 1) = sS "{") (hb : BndEr ns (pl + 1 + 1) msg) : StepEr w mean mg mb p dp fl c ph pt vs pl k msg := fun l hl =>
  (esc_gen (P := fun _ => False) (E := fun x => x = msg) hi hz hch h0 hlt1 hs hs2 (fun t1 t2 n1 x r u dd z zr e1 e2 s =>
    (disp_count (R := fun _ _ => False) (Er := fun x => x = msg) (.head _) (.tail _ (.head _)) ((counted_e hb (by omega) (Dj.of dd) hi (by omega) hch).up (by decide) (by decide) fun _ q => q)).mono (by rintro v l ⟨_, _, q⟩; exact q) fun _ q => q) l hl).mono (fun _ _ q => q) fun _ q => q
end
end
section
variable {w : World} {mean : ExcName → Option Value} {mg mb : PySem.Str → Option Value} {p dp fl f df nl dn c : Addr} {ph fh : Nat → Int} {pt ft : Nat → Tok} {pl gr nu : Int} {t1 t2 t3 t4 : Tok} {wd : PySem.Str} {lo : Bool} {fs nodes ds : List Value} {n1 n2 n3 : Nat} {vs : List Value} {ns : List Int} {rest : Led}
theorem rows_at26 : True := by
  k_with_none
  k_with "m:k_ne" => ((refine neN ?_; (try dsimp only); first | exact Ap.ne (by assumption) | exact Ap.swap (by assumption) | exact off_ne (by assumption) (by k_mem) | exact (off_ne (by assumption) (by k_mem)).symm | omega))
  k_with "m:k_all" => (first | exact Off.all (by assumption) | exact off_lt (by first | assumption | simp only [*]))
  k_with "m:size_fits" => ((simp only [List.size_toArray, PySem.sizeLine_eq]; omega))
  k_with "subscriptTail" => ((k_here; (with_reducible show wpAny _ _ (subscriptTail _ _ (Value.ref _) (Value.int (-1) _)) _ _ _); (with_unfolding_all refine' last_item ?k1 ?k2 ?_ ?k3; (case k1 => first | is_list | exact News.isList (by k_asm) (by k_mem)); (case k2 => assumption); (case k3 => with_unfolding_all rfl); k_whole)))
  k_with "exec Raise some none" => ((k_here; refine raise_D rfl ?_))
  k_with "call ref" => ((k_here; (with_reducible show wpAny _ _ (call (Value.ref 70) [Value.str _ _]) _ _ _); k_dflt (refine' bad_made ?k1 ?k2 ?k3 ?k4 ?k5 ?k6 ?k7 ?k8 ?_; (case k1 => k_asm); (case k2 => k_asm); (case k3 => k_asm); (case k4 => k_asm); (case k5 => k_asm); (case k6 => rfl); (case k7 => ktr_room); (case k8 => ktr_units); k_whole; intro e'z news'z h'z tk'z F'z N'z hin'z hX'z; (try k_sweep))))
  k_with "RaiseEnd" => ((k_here; refine raiseEnd_ (by k_asm) (by k_asm) (by k_asm) (by assumption) ?_))
  k_with "leaving ref" => ((k_here; first | (refine' leave_firstD ?k1 ?k2 ?k3 ?k4 ?k5 ?k6 ?_; (case k4 => assumption); (case k1 => assumption); (case k2 => assumption); (case k3 => k_asm); (case k5 => exact rfl); (case k6 => exact rfl); k_whole; intro h'z R'z; (try dsimp only at R'z ⊢)) | (refine' leave_onD ?k1 ?k2 ?kF ?k3 ?_; (case k3 => assumption); (case k1 => exact rfl); (case k2 => exact rfl); (case kF => assumption); k_whole; intro h'z R'z; (try dsimp only at R'z ⊢))))
  k_with "m:is_list" => (exact News.isList (by k_asm) (by k_mem))
  k_with "call builtin:len" => ((k_here; (with_reducible show wpAny _ _ (call (Value.builtin "len") [Value.ref _]) _ _ _); k_dflt (refine' len_led ?k1 ?k2 ?_; (case k1 => exact News.isList (by k_asm) (by k_mem)); (case k2 => ((try simp only [List.length_append, List.length_cons, List.length_nil] at *); omega)); intro t'z t2'z)))
  k_with "compareOp Eq ref ref" => ((k_here; (with_reducible show wpAny _ _ (compareOp CmpOp.Eq (Value.ref _) (Value.ref _)) _ _ _); k_dflt (refine' eq_empty ?k1 ?k2 ?k3 ?_; (case k1 => exact News.isList (by k_asm) (by k_mem)); (case k2 => exact News.isList (by k_asm) (by k_mem)); (case k3 => ktr_units))))
  k_with "call type:tuple" => ((k_here; (with_reducible show wpAny _ _ (call (Value.type _) [Value.ref _]) _ _ _); k_dflt (refine' tuple_led ?k1 ?k2 ?k3 ?k4 ?_; (case k1 => k_asm); (case k2 => k_asm); (case k3 => exact News.isList (by k_asm) (by k_mem)); (case k4 => ((try simp only [List.length_append, List.length_cons, List.length_nil] at *); omega)); k_whole; intro l'z h'z F'z N'z; (try k_sweep))))
  k_with "binaryOp Add ref ref" => ((k_here; (with_reducible show wpAny _ _ (binaryOp _ (Value.ref _) (Value.ref _)) _ _ _); k_dflt (refine' add_led ?k1 ?k2 ?k3 ?k5 ?k4 ?_; (case k1 => k_asm); (case k2 => k_asm); (case k3 => exact News.isList (by k_asm) (by k_mem)); (case k5 => exact News.isList (by k_asm) (by k_mem)); (case k4 => ((try simp only [List.length_append, List.length_cons, List.length_nil] at *); omega)); k_whole; intro l'z h'z F'z N'z l1; (try k_lt l1); (try k_sweep))))
  k_with "subscriptTail" => ((k_here; (with_reducible show wpAny _ _ (subscriptTail _ _ (Value.ref _) (Value.int 0 _)) _ _ _); (with_unfolding_all refine' first_item ?k1 ?k2 ?_ ?k3; (case k1 => exact News.isList (by k_asm) (by k_mem)); (case k2 => omega); (case k3 => with_unfolding_all rfl); k_whole; intro x'z)))
  k_with "call builtin:list.append" => ((k_here; (with_reducible show wpAny _ _ (call (Value.builtin _) [Value.ref _, _]) _ _ _); k_dflt (refine' append_led ?k1 ?k2 ?k3 ?k4 ?_; (case k1 => k_asm); (case k2 => k_asm); (case k3 => k_upd); (case k4 => ((try simp only [List.length_append, List.length_cons, List.length_nil] at *); omega)); k_whole); intro h'z F'z N'z; (try k_sweep)))
  k_with "ite" => ((k_closed; k_dflt (first | refine ite_pos (by decide +kernel) ?_ | refine ite_neg (by decide +kernel) ?_)))
  k_with "ite" => ((k_here; first | refine ite_pos (by with_reducible assumption) ?_ | refine ite_neg (ntt (by with_reducible assumption)) ?_))
  k_with "m:ktn_open" => (((repeat (refine InAll.cons (by k_mem) ?_)); (repeat (refine InAll.skip ?_)); exact InAll.refl _))
  k_with "call builtin:list.pop" => ((k_here; (with_reducible show wpAny _ _ (call (Value.builtin _) [Value.ref _]) _ _ _); k_dflt (refine' pop_end ?k1 ?k2 ?k3 ?k4 ?_; (case k1 => k_asm); (case k2 => k_asm); (case k3 => k_upd); (case k4 => ((try simp only [List.length_append, List.length_cons, List.length_nil] at *); omega)); k_whole); intro h'z F'z N'z; (try k_sweep)))
  k_with "eval Constant int" => ((k_here; refine const_int_mk ?_))
  k_with "eval Constant str" => ((k_here; refine const_str_mk ?_))
  k_with "binaryOp Add int int" => ((k_here; refine add_int_mk ?_))
  k_with "binaryOp Sub int int" => ((k_here; refine sub_int_mk ?_))
  k_with "m:ktr_rel" => (first | exact InAll.refl _ | exact InAll.two (by k_mem) (by k_mem) | (refine InAll.skip ?_; ktr_rel) | (refine' InAll.seven ?a1 ?a2 ?a3 ?a4 ?a5 ?a6 ?a7 ?a8; (case a1 => k_mem); (case a2 => k_mem); (case a3 => k_mem); (case a4 => k_mem); (case a5 => k_mem); (case a6 => k_mem); (case a7 => k_mem); (case a8 => ((repeat (apply InAll.skip)); exact InAll.refl _))))
  k_with "call ref" => ((k_here; (with_reducible show wpAny _ _ (call (Value.ref 154) [_]) _ _ _); k_dflt (refine' Ctr.use (top_c ?m1 ?m2 ?m3 ?z) ?kB ?kF ?kX ?kN ?kI ?kT ?kk ?kd ?ku ?kG ?_ ?ke; (case kB => k_asm); (case kF => k_asm); (case kX => k_asm); (case kN => k_asm); (case kI => ktr_rel); (case m1 => k_mem); (case m2 => k_mem); (case m3 => k_mem); (case z => assumption); (case kT => k_asm); (case kk => exact rfl); (case kd => ktr_room); (case ku => ktr_units); (case kG => trivial); (case ke => (intro _ _ _ _ _ q; exact q.elim)); (intro v'z h'z tk'z led'z F'z N'z q'z; obtain ⟨e1'z, e2'z⟩ := q'z; subst e1'z e2'z; (try k_sweep)))))
  k_with "call ref" => ((k_here; (with_reducible show wpAny _ _ (call (Value.ref 126) [_]) _ _ _); k_dflt (refine' Ctr.use (node_c ?z1 ?z2) ?kB ?kF ?kX ?kN ?kI ?kT ?kk ?kd ?ku ?kG ?_ ?ke; (case kB => k_asm); (case kF => k_asm); (case kX => k_asm); (case kN => k_asm); (case kI => exact InAll.cons (by k_mem) (InAll.cons (by k_mem) (InAll.cons (by k_mem) (InAll.cons (by k_mem) (InAll.refl _))))); (case z1 => assumption); (case z2 => assumption); (case kT => k_asm); (case kk => exact rfl); (case kd => ktr_room); (case ku => ktr_units); (case kG => trivial); (case ke => (intro _ _ _ _ _ q; exact q.elim)); (intro v'z h'z tk'z led'z F'z N'z e2'z; subst e2'z; (try k_sweep)))))
  k_with "call ref" => ((k_here; (with_reducible show wpAny _ _ (call _ (_ ++ _)) _ _ _); dsimp only [List.nil_append, List.cons_append]; walk_at "call ref"))
  trivial
inductive Out where
  | read (g : Int)
  | err (m : PySem.Str)
noncomputable def UOk (ns : List Int) (pl : Int) (k : Ctl) (pl' : Int) (k' : Ctl) : Prop := ∀ (w : World) (mean : ExcName → Option Value) (mg mb : PySem.Str → Option Value) (p dp fl c : Addr) (ph : Nat → Int) (pt : Nat → Tok) (vs : List Value), IntsAre vs ns → StepOk w mean mg mb p dp fl c ph pt vs pl k pl' k'
noncomputable def UEr (ns : List Int) (pl : Int) (k : Ctl) (msg : PySem.Str) : Prop := ∀ (w : World) (mean : ExcName → Option Value) (mg mb : PySem.Str → Option Value) (p dp fl c : Addr) (ph : Nat → Int) (pt : Nat → Tok) (vs : List Value), IntsAre vs ns → StepEr w mean mg mb p dp fl c ph pt vs pl k msg
noncomputable def Ctl.fin (k : Ctl) : Out := if k.low.isEmpty then .read k.gr else .err (sS "Unmatched ( or \\(")
/-- how the parser runs from a place in a state -/
inductive PRun (ns : List Int) : Int → Ctl → Out → Prop
  | fin {pl : Int} {k : Ctl} (h : ¬ pl < (ns.length : Int)) (h2 : pl ≤ (ns.length : Int)) : PRun ns pl k k.fin
  | step {pl pl' : Int} {k k' : Ctl} {o : Out} (h : pl < (ns.length : Int)) (u : UOk ns pl k pl' k') (h1 : pl ≤ pl') (r : PRun ns pl' k' o) : PRun ns pl k o
  | err {pl : Int} {k : Ctl} {msg : PySem.Str} (h : pl < (ns.length : Int)) (u : UEr ns pl k msg) : PRun ns pl k (.err msg)
theorem run_ind {P : Int → Ctl → Shared → Prop} {W : Shared → Prop} {o : Out} (step : ∀ (pl : Int) (k : Ctl) (s : Shared), 0 ≤ pl → P pl k s →
      ((¬ pl < (ns.length : Int) ∧ pl ≤ (ns.length : Int) ∧ o = k.fin) ∨ (pl < (ns.length : Int) ∧ ∃ pl' k', UOk ns pl k pl' k' ∧ ∀ s', P pl' k' s' → W s') ∨ (pl < (ns.length : Int) ∧ ∃ msg, UEr ns pl k msg ∧ o = .err msg)) → W s) :
    ∀ {pl : Int} {k : Ctl}, PRun ns pl k o → 0 ≤ pl → ∀ s, P pl k s → W s := by
  intro pl k r
  induction r with
  | fin h h2 => intro h0 s hp; exact step _ _ s h0 hp (.inl ⟨h, h2, rfl⟩)
  | step h u h1 r ih => intro h0 s hp; exact step _ _ s h0 hp (.inr (.inl ⟨h, _, _, u, fun s' hp' => ih step (by omega) s' hp'⟩))
  | err h u => intro h0 s hp; exact step _ _ s h0 hp (.inr (.inr ⟨h, _, u, rfl⟩))
theorem rows_at27 : True := by
  k_with "eval Name" => ((k_here; k_dflt (refine' ld ?k1 ?k2 ?_; (case k1 => k_asm); (case k2 => first | exact rfl | assumption); k_whole)))
  k_with "WhlRest" => ((k_here; refine hold_ ?_))
  k_with "exec While" => ((k_here; k_dflt (refine whl_start 100 ?_)))
  k_with "exec While Compare" => ((k_here; k_dflt (refine whl_start 100 ?_)))
  k_with "call ref" => ((k_here; (with_reducible show wpAny _ _ (call (Value.ref 175) [_]) _ _ _); k_dflt (refine' Ctr.use ?C ?kB ?kF ?kX ?kN ?kI ?kT ?kk ?kd ?ku ?kG ?kR3 ?ke3; (case C => assumption); (case kB => k_asm); (case kF => k_asm); (case kX => k_asm); (case kN => k_asm); (case kI => exact InAll.refl _); (case kT => k_asm); (case kk => exact rfl); (case kd => ktr_room); (case ku => ktr_units); (case kG => assumption); (case' kR3 => (intro v'z h'z tk'z led'z F'z N'z q'z; (try k_sweep))); (case' ke3 => (intro e'z msg'z g'z h'z tk'z hm'z FG'z R'z; (try dsimp only at R'z ⊢); (try dsimp only at hm'z); (try subst hm'z))))))
  k_with "call ref" => ((k_here; (with_reducible show wpAny _ _ (call (Value.ref 175) [_]) _ _ _); k_dflt (refine' Ctr.use ?C ?kB ?kF ?kX ?kN ?kI ?kT ?kk ?kd ?ku ?kG ?kR2 ?ke2; (case C => assumption); (case kB => k_asm); (case kF => k_asm); (case kX => k_asm); (case kN => k_asm); (case kI => exact InAll.refl _); (case kT => k_asm); (case kk => exact rfl); (case kd => ktr_room); (case ku => ktr_units); (case kG => assumption); (case' kR2 => (intro v'z h'z tk'z led'z F'z N'z q'z; (try k_sweep))); (case' ke2 => (intro e'z msg'z g'z h'z tk'z hm'z FG'z R'z; (try dsimp only at R'z ⊢); (try dsimp only at hm'z); (try subst hm'z))))))
  k_with "call ref" => ((k_here; (with_reducible show wpAny _ _ (call (Value.ref 175) [_]) _ _ _); k_dflt (refine' Ctr.use ?C ?kB ?kF ?kX ?kN ?kI ?kT ?kk ?kd ?ku ?kG ?kR ?ke; (case C => assumption); (case kB => k_asm); (case kF => k_asm); (case kX => k_asm); (case kN => k_asm); (case kI => exact InAll.refl _); (case kT => k_asm); (case kk => exact rfl); (case kd => ktr_room); (case ku => ktr_units); (case kG => assumption); (case' kR => (intro v'z h'z tk'z led'z F'z N'z q'z; (try k_sweep))); (case' ke => (intro e'z msg'z g'z h'z tk'z hm'z FG'z R'z; (try dsimp only at R'z ⊢); (try dsimp only at hm'z); (try subst hm'z))))))
  k_with "call ref" => ((k_here; (with_reducible show wpAny _ _ (call _ (_ ++ _)) _ _ _); dsimp only [List.nil_append, List.cons_append]; walk_at "call ref"))
  k_with "WhlIf" => ((k_here; first | refine WhlIf.yes (decide_eq_true (by assumption)) ?_ | refine WhlIf.no (decide_eq_false (by assumption)) ?_))
  trivial
/-- what the whole leaves -/
noncomputable def WhAt (p dp fl c : Addr) (ph : Nat → Int) (pt : Nat → Tok) (g : Int) (l : Led) : Prop := ∃ pl t1 t2, l = [(p, instObj 253 dp), (dp, pDict ph pt c pl t1 fl g t2)]
theorem whole_c {l : Led} {k : Ctl} {o : Out} (hr : PRun ns pl k o) (hl : PAt p dp fl c ph pt pl k l) (h0 : 0 ≤ pl) (hi : IntsAre vs ns) (hz : ns.length ≤ 900) :
    Ctr w mean mg mb 168 [.ref p] l 20 500 (GC c vs) (fun _ l' => ∃ g, o = .read g ∧ WhAt p dp fl c ph pt g l') (fun msg => o = .err msg) := by
  intro dp' un gd cn cs a ccd cl outer A₀ base h₀ L m s Q E B F X N T hk hdp hun hG hret herr
  refine wpAny_call ?_
  (k_dflt cell_enter)
  have hG' := Fr.lst (by assumption) hG
  k_steps
  unfold Hold
  refine with_frame (by assumption) fun g9 L9 q1 q2 => ?_
  subst q1 q2
  generalize hW : WhlRest _ _ _ _ _ _ _ _ _ _ = W0
  refine run_ind (P := fun pl k s' => ∃ h tk m l, s' = { s with heap := h, toks := tk } ∧ m (sS "self") = some (.ref p) ∧ Fr g9 L9 h m ∧ News g9 L9 h l ∧ PAt p dp fl c ph pt pl k l) (W := W0) ?_ hr h0 _ ⟨_, _, _, _, rfl, rfl, by assumption, by assumption, hl⟩
  clear hr h0 hl
  intro pl1 k1 s1 h0 hP hcase
  subst hW
  obtain ⟨h1, tk1, m1, l1, rfl, b1, F1, N1, hl⟩ := hP
  refine whl_turn3 (fun _ => False) (by with_unfolding_all passes_own) (fun _ q => q.elim) ?_
  rcases hcase with ⟨q1, q2, q3⟩ | ⟨q1, pl', k', u, ih⟩ | ⟨q1, msg, u, q3⟩
  · obtain ⟨t1, t2, n1, x, r, rfl, dd, z, zr, e1, e2⟩ := hl
    obtain ⟨s1, s2, s3⟩ : (fsOf r).length ≤ 1000 ∧ x.nodes.length ≤ 1000 ∧ x.ds.length ≤ 1000 := by
      have h := z x (.head _)
      exact ⟨by rw [fsOf_len]; omega, by have := h.1; omega, by have := h.2.1; omega⟩
    have hlen : (fsOf r ++ [Value.ref x.f]).length = r.length + 1 := by rw [List.length_append, fsOf_len]; rfl
    cases r with
    | nil =>
      have hlen3 : (fsOf [] ++ [Value.ref x.f]).length = 1 := rfl
      k_steps
      refine hret _ _ _ [(p, instObj 253 dp), (dp, pDict ph pt c pl1 t1 fl k1.gr t2)] (by assumption) (sub_news (by assumption) (InAll.two (by k_mem) (by k_mem))) ⟨k1.gr, ?_, _, _, _, rfl⟩
      rw [q3]
      unfold Ctl.fin
      rw [← e2]
      rfl
    | cons y r =>
      have hlen2 : (y :: r).length = r.length + 1 := rfl
      k_steps
      refine herr _ _ _ _ _ ?_ (by assumption) (by assumption)
      rw [q3]
      unfold Ctl.fin
      rw [← e2]
      rfl
  · have hst := u w mean mg mb p dp fl c ph pt vs hi l1 hl
    obtain ⟨t1, t2, n1, x, r, rfl, dd, z, zr, e1, e2⟩ := hl
    k_steps
    · unfold Hold
      exact ih _ ⟨_, _, _, _, rfl, by assumption, by assumption, by assumption, by assumption⟩
  · have hst := u w mean mg mb p dp fl c ph pt vs hi l1 hl
    obtain ⟨t1, t2, n1, x, r, rfl, dd, z, zr, e1, e2⟩ := hl
    k_steps
    · exact herr _ _ _ _ _ q3 (by assumption) (by assumption)
    · exact (by assumption : False).elim
end
section
variable {w : World} {mean : ExcName → Option Value} {mg mb : PySem.Str → Option Value} {p dp fl f df nl dn c : Addr} {ph fh : Nat → Int} {pt ft : Nat → Tok} {pl gr nu : Int} {t1 t2 t3 t4 : Tok} {wd : PySem.Str} {lo : Bool} {fs nodes ds : List Value} {n1 n2 n3 : Nat} {vs : List Value} {ns : List Int} {rest : Led}
theorem rows_at28 : True := by
  k_with_none
  k_with "m:k_ne" => ((refine neN ?_; (try dsimp only); first | exact Ap.ne (by assumption) | exact Ap.swap (by assumption) | exact off_ne (by assumption) (by k_mem) | exact (off_ne (by assumption) (by k_mem)).symm | omega))
  k_with "m:k_all" => (first | exact Off.all (by assumption) | exact off_lt (by first | assumption | simp only [*]))
  k_with "m:size_fits" => ((simp only [List.size_toArray, PySem.sizeLine_eq]; omega))
  k_with "subscriptTail" => ((k_here; (with_reducible show wpAny _ _ (subscriptTail _ _ (Value.ref _) (Value.int (-1) _)) _ _ _); (with_unfolding_all refine' last_item ?k1 ?k2 ?_ ?k3; (case k1 => first | is_list | exact News.isList (by k_asm) (by k_mem)); (case k2 => assumption); (case k3 => with_unfolding_all rfl); k_whole)))
  k_with "exec Raise some none" => ((k_here; refine raise_D rfl ?_))
  k_with "call ref" => ((k_here; (with_reducible show wpAny _ _ (call (Value.ref 70) [Value.str _ _]) _ _ _); k_dflt (refine' bad_made ?k1 ?k2 ?k3 ?k4 ?k5 ?k6 ?k7 ?k8 ?_; (case k1 => k_asm); (case k2 => k_asm); (case k3 => k_asm); (case k4 => k_asm); (case k5 => k_asm); (case k6 => rfl); (case k7 => ktr_room); (case k8 => ktr_units); k_whole; intro e'z news'z h'z tk'z F'z N'z hin'z hX'z; (try k_sweep))))
  k_with "RaiseEnd" => ((k_here; refine raiseEnd_ (by k_asm) (by k_asm) (by k_asm) (by assumption) ?_))
  k_with "leaving ref" => ((k_here; first | (refine' leave_firstD ?k1 ?k2 ?k3 ?k4 ?k5 ?k6 ?_; (case k4 => assumption); (case k1 => assumption); (case k2 => assumption); (case k3 => k_asm); (case k5 => exact rfl); (case k6 => exact rfl); k_whole; intro h'z R'z; (try dsimp only at R'z ⊢)) | (refine' leave_onD ?k1 ?k2 ?kF ?k3 ?_; (case k3 => assumption); (case k1 => exact rfl); (case k2 => exact rfl); (case kF => assumption); k_whole; intro h'z R'z; (try dsimp only at R'z ⊢))))
  k_with "m:is_list" => (exact News.isList (by k_asm) (by k_mem))
  k_with "call builtin:len" => ((k_here; (with_reducible show wpAny _ _ (call (Value.builtin "len") [Value.ref _]) _ _ _); k_dflt (refine' len_led ?k1 ?k2 ?_; (case k1 => exact News.isList (by k_asm) (by k_mem)); (case k2 => ((try simp only [List.length_append, List.length_cons, List.length_nil] at *); omega)); intro t'z t2'z)))
  k_with "compareOp Eq ref ref" => ((k_here; (with_reducible show wpAny _ _ (compareOp CmpOp.Eq (Value.ref _) (Value.ref _)) _ _ _); k_dflt (refine' eq_empty ?k1 ?k2 ?k3 ?_; (case k1 => exact News.isList (by k_asm) (by k_mem)); (case k2 => exact News.isList (by k_asm) (by k_mem)); (case k3 => ktr_units))))
  k_with "call type:tuple" => ((k_here; (with_reducible show wpAny _ _ (call (Value.type _) [Value.ref _]) _ _ _); k_dflt (refine' tuple_led ?k1 ?k2 ?k3 ?k4 ?_; (case k1 => k_asm); (case k2 => k_asm); (case k3 => exact News.isList (by k_asm) (by k_mem)); (case k4 => ((try simp only [List.length_append, List.length_cons, List.length_nil] at *); omega)); k_whole; intro l'z h'z F'z N'z; (try k_sweep))))
  k_with "binaryOp Add ref ref" => ((k_here; (with_reducible show wpAny _ _ (binaryOp _ (Value.ref _) (Value.ref _)) _ _ _); k_dflt (refine' add_led ?k1 ?k2 ?k3 ?k5 ?k4 ?_; (case k1 => k_asm); (case k2 => k_asm); (case k3 => exact News.isList (by k_asm) (by k_mem)); (case k5 => exact News.isList (by k_asm) (by k_mem)); (case k4 => ((try simp only [List.length_append, List.length_cons, List.length_nil] at *); omega)); k_whole; intro l'z h'z F'z N'z l1; (try k_lt l1); (try k_sweep))))
  k_with "subscriptTail" => ((k_here; (with_reducible show wpAny _ _ (subscriptTail _ _ (Value.ref _) (Value.int 0 _)) _ _ _); (with_unfolding_all refine' first_item ?k1 ?k2 ?_ ?k3; (case k1 => exact News.isList (by k_asm) (by k_mem)); (case k2 => omega); (case k3 => with_unfolding_all rfl); k_whole; intro x'z)))
  k_with "call builtin:list.append" => ((k_here; (with_reducible show wpAny _ _ (call (Value.builtin _) [Value.ref _, _]) _ _ _); k_dflt (refine' append_led ?k1 ?k2 ?k3 ?k4 ?_; (case k1 => k_asm); (case k2 => k_asm); (case k3 => k_upd); (case k4 => ((try simp only [List.length_append, List.length_cons, List.length_nil] at *); omega)); k_whole); intro h'z F'z N'z; (try k_sweep)))
  k_with "ite" => ((k_closed; k_dflt (first | refine ite_pos (by decide +kernel) ?_ | refine ite_neg (by decide +kernel) ?_)))
  k_with "ite" => ((k_here; first | refine ite_pos (by with_reducible assumption) ?_ | refine ite_neg (ntt (by with_reducible assumption)) ?_))
  k_with "m:ktn_open" => (((repeat (refine InAll.cons (by k_mem) ?_)); (repeat (refine InAll.skip ?_)); exact InAll.refl _))
  k_with "call builtin:list.pop" => ((k_here; (with_reducible show wpAny _ _ (call (Value.builtin _) [Value.ref _]) _ _ _); k_dflt (refine' pop_end ?k1 ?k2 ?k3 ?k4 ?_; (case k1 => k_asm); (case k2 => k_asm); (case k3 => k_upd); (case k4 => ((try simp only [List.length_append, List.length_cons, List.length_nil] at *); omega)); k_whole); intro h'z F'z N'z; (try k_sweep)))
  k_with "eval Constant int" => ((k_here; refine const_int_mk ?_))
  k_with "eval Constant str" => ((k_here; refine const_str_mk ?_))
  k_with "binaryOp Add int int" => ((k_here; refine add_int_mk ?_))
  k_with "binaryOp Sub int int" => ((k_here; refine sub_int_mk ?_))
  k_with "m:ktr_rel" => (first | exact InAll.refl _ | exact InAll.two (by k_mem) (by k_mem) | (refine InAll.skip ?_; ktr_rel) | (refine' InAll.seven ?a1 ?a2 ?a3 ?a4 ?a5 ?a6 ?a7 ?a8; (case a1 => k_mem); (case a2 => k_mem); (case a3 => k_mem); (case a4 => k_mem); (case a5 => k_mem); (case a6 => k_mem); (case a7 => k_mem); (case a8 => ((repeat (apply InAll.skip)); exact InAll.refl _))))
  k_with "call ref" => ((k_here; (with_reducible show wpAny _ _ (call (Value.ref 129) [_, _]) _ _ _); k_dflt (refine' Ctr.use (mk_c) ?kB ?kF ?kX ?kN ?kI ?kT ?kk ?kd ?ku ?kG ?_ ?ke; (case kB => k_asm); (case kF => k_asm); (case kX => k_asm); (case kN => k_asm); (case kI => first | exact InAll.refl ((_, instObj 253 _) :: _) | (refine InAll.skip ?_; exact InAll.refl ((_, instObj 253 _) :: _)) | exact InAll.refl _); (case kT => k_asm); (case kk => exact rfl); (case kd => ktr_room); (case ku => ktr_units); (case kG => trivial); (case ke => (intro _ _ _ _ _ q; exact q.elim)); (intro v'z h'z tk'z led'z F'z N'z q'z; obtain ⟨f'z, df'z, nl'z, dn'z, fh'z, ft'z, n2'z, n3'z, e1'z, e2'z, ap'z, o1'z, o2'z, o3'z, o4'z⟩ := q'z; subst e1'z e2'z; (try k_sweep)))))
  k_with "call ref" => ((k_here; (with_reducible show wpAny _ _ (call _ (_ ++ _)) _ _ _); dsimp only [List.nil_append, List.cons_append]; walk_at "call ref"))
  trivial
section
variable {prog : Program} {A₀ A : Around} {s : Shared} {base h₀ : Heap} {outer : List Env} {L : Addr} {m : PySem.Str → Option Value} {env : Env} {K : Frag} {p : Program} {loose : List PySem.Str}
  {R : Result → Shared → Prop} {name qual : PySem.Str} {params : Arguments} {body : List Stmt} {scope : Scope} {dV kV doc pm cdv ct oc : Value} {an od : Option Addr} {osl : Array (Option Value)} {f : Addr} {args : Args} {binds : List (PySem.Str × Value)}
/-- a def is entered with all that stands shut: it is there, as it was, when the def is left -/
theorem code_def0 (B : Below A₀ base outer h₀) (F : Fr h₀ L s.heap m) (X₀ : K.In h₀) (T : Top p loose mean mg mb h₀) (hA : A.frames = some (env :: outer)) (hf : env.frame = some L) (hke : env.scope.kind = .function)
    (ho : K.lookup f = some ⟨oc, od, .func (fnOf name qual params body scope dV kV doc pm an cdv ct), osl⟩) (hcd : codeIn K cdv qual = true) (hroom : A.depth < recursionLimit)
    (hbind : BindsTo s (fnOf name qual params body scope dV kV doc pm an cdv ct) args binds) (hloc : ∀ y ∈ binds, scope.names.lookup y.1 = some .local)
    (h : ∀ g L' h₁, (∀ b o, s.heap.get? b = some o → g.get? b = some o) → Fr h₀ L g m → Fr g L' h₁ (fun y => binds.reverse.lookup y) → News g L' h₁ [] → Below A base (env :: outer) g → K.In g → Top p loose mean mg mb g →
      wpAny (model prog w) (A.deeper (envOf qual scope L' f cdv)) (execs body (envOf qual scope L' f cdv))
        (fun fl s' => LeaveK h₀ L m g (fun r s' => (∀ b o, g.get? b = some o → s'.heap.get? b = some o) → R r s') (match fl with | .ret v => v | _ => .none) s')
        (fun e s' => wpAny (model prog w) (A.deeper (envOf qual scope L' f cdv)) (leaving (envOf qual scope L' f cdv) e) (fun _ s'' => R (.error e) s'') (fun e' s'' => R (.error e') s'') s')
        { s with heap := h₁, toks := s.toks + binds.length })
    (hcell : ∀ x ∈ scope.names, x.2 ≠ .cell) (hco : scope.isCoroutine = false) (hgen : scope.isGenerator = false) (hk : scope.kind = .function) : codeAny (model prog w) A (.call (.ref f) args) R s := by
  obtain ⟨FG, BG, st, lv⟩ := groundX (R := R) B F (News.nil (h₀ := h₀) (L := L) (h := s.heap)) hA hf hke
  have X := X₀.keeps F.keep
  refine codeAny_call_def (fd := fnOf name qual params body scope dV kV doc pm an cdv ct) (body := body) (binds := binds) hroom (X _ _ ho) rfl (T.nolimit.keeps F.keep) (codeRec_of X hcd) rfl hbind hcell hloc (fun h₁ hns hk₁ => ?_) hco hgen hk
  refine wpAny_mono (h s.heap s.heap.objs.size h₁ (fun _ _ e => e) FG ⟨hns, fun b o e => hk₁ b o e, Nat.le_refl _⟩ News.nil BG (X₀.keeps st) (T.keeps st)) (fun fl s' hl => ?_) fun _ _ y => y
  obtain ⟨L', m', news', F', N', k⟩ := hl
  exact lv _ _ ⟨L', m', news', F', N', fun a b => k a b F'.keep⟩
end
theorem rows_at29 : True := by
  k_with "m:ktn_lt" => ((k_dflt (refine' code_def0 ?k1 ?k2 ?k3 ?k5 ?kA ?kF ?kK ?k6 ?k7 ?k8 ?k9 ?kB ?_ ?c5 ?c2 ?c3 ?c4; (case kA => exact rfl); (case kF => exact rfl); (case kK => assumption); (case k1 => k_asm); (case k2 => k_asm); (case k3 => k_asm); (case k5 => k_asm); (case k6 => k_is); (case k7 => k_is); (case k8 => ktr_room); (case k9 => exact BindsTo.of_eq rfl); (case c5 => decide); (case kB => exact locs rfl); (case c2 => exact rfl); (case c3 => exact rfl); (case c4 => exact rfl); k_whole; intro g'z L'z h'z hkp'z FG'z F'z N'z B'z X'z T'z; (try dsimp only); (try k_fold))))
  trivial
noncomputable def Hold4 (q : Prop) : Prop := q
theorem hold4_ {q : Prop} (h : Hold4 q) : q := h
theorem rows_at30 : True := by
  k_with "call ref" => ((k_here; (with_reducible show wpAny _ _ (call (Value.ref 168) [_]) _ _ _); refine hold4_ ?_))
  k_with "call ref" => ((k_here; (with_reducible show wpAny _ _ (call _ (_ ++ _)) _ _ _); dsimp only [List.nil_append, List.cons_append]; walk_at "call ref"))
  trivial
noncomputable def Ctl.init : Ctl := ⟨0, ⟨sS "top", 0, true, false⟩, []⟩
theorem mkp_end {h₀ h : Heap} {L x d fl f df nl dn : Addr} {fh : Nat → Int} {ft : Nat → Tok} {n1 n2 n3 : Nat} {u3 u4 v0 v1 v2 v3 t1 t2 : Tok} {a0 a1 a2 a3 : Int} (N : News h₀ L h ((fl, lst [.ref f] n1) :: frLed f df nl dn fh ft 0 u3 u4 (sS "top") true [] [] n2 n3 [(x, instObj 253 d), (d, dictOf [⟨a0, .str (PySem.Str.ofString "codes") v0, .ref c⟩, ⟨a1, .str (PySem.Str.ofString "place") v1, .int 0 t1⟩, ⟨a2, .str (PySem.Str.ofString "frames") v2, .ref fl⟩, ⟨a3, .str (PySem.Str.ofString "groups") v3, .int 0 t2⟩] 4)]))
    (e2 : d < x) (ap : Ap f df ∧ Ap f nl ∧ Ap f dn ∧ Ap df nl ∧ Ap df dn ∧ Ap nl dn) {q1 q2 : Obj} (o1 : Off [(x, q1), (d, q2)] f) (o2 : Off [(x, q1), (d, q2)] df) (o3 : Off [(x, q1), (d, q2)] nl) (o4 : Off [(x, q1), (d, q2)] dn)
    (hl : f < fl ∧ df < fl ∧ nl < fl ∧ dn < fl ∧ x < fl ∧ d < fl) : ∃ l', News h₀ L h l' ∧ ∃ p dp fl ph pt, Value.ref x = .ref p ∧ PAt p dp fl c ph pt 0 Ctl.init l' := by
  refine ⟨_, ?_, x, d, fl, (fun i => match i with | 0 => a0 | 1 => a1 | 2 => a2 | _ => a3), (fun i => match i with | 0 => v0 | 1 => v1 | 2 => v2 | _ => v3), rfl, t1, t2, n1, ⟨f, df, nl, dn, fh, ft, sS "top", 0, u3, u4, true, [], [], n2, n3⟩, [], rfl, ?_, ?_, Int.le_refl _, rfl, rfl⟩
  · intro q hq
    simp only [PLed, stLed, List.mem_cons, List.not_mem_nil, or_false] at hq
    rcases hq with rfl | rfl | rfl | rfl | rfl | rfl | rfl
    · exact N _ (by simp)
    · exact N _ (by simp [Ctl.init])
    · exact N _ (by simp [fsOf])
    · exact N _ (by simp)
    · exact N _ (by simp)
    · exact N _ (by simp)
    · exact N _ (by simp)
  · simp only [Dd, PLed, stLed, Ap, Off, List.pairwise_cons, List.mem_cons, forall_eq_or_imp, ne_eq, List.not_mem_nil, false_imp_iff, implies_true, and_true, List.Pairwise.nil] at ap o1 o2 o3 o4 ⊢
    refine ⟨⟨?_, ?_, o1.1, o2.1, o3.1, o4.1⟩, ⟨?_, o1.2, o2.2, o3.2, o4.2⟩, ⟨?_, ?_, ?_, ?_⟩, ⟨ap.1, ap.2.1, ap.2.2.1⟩, ⟨ap.2.2.2.1, ap.2.2.2.2.1⟩, ap.2.2.2.2.2⟩
    · exact Nat.ne_of_gt e2
    · exact Nat.ne_of_lt hl.2.2.2.2.1
    · exact Nat.ne_of_lt hl.2.2.2.2.2
    · exact Nat.ne_of_gt hl.1
    · exact Nat.ne_of_gt hl.2.1
    · exact Nat.ne_of_gt hl.2.2.1
    · exact Nat.ne_of_gt hl.2.2.2.1
  · intro y hy
    rw [List.mem_singleton.mp hy]
    exact ⟨by simp, by simp, fun h => by cases h⟩
theorem rows_at31 : True := by
  k_with "m:ktr_units" => ((have hcL9 := cLine_is; (try simp only [units_under_make, units_in1, units_deeper, Around.mark_units, units_caller] at *); (try dsimp only [ktrTop] at *); omega))
  trivial
theorem mkp_c : Ctr w mean mg mb 253 [.ref c] [] 8 100 (fun _ => True) (fun v l' => ∃ p dp fl ph pt, v = .ref p ∧ PAt p dp fl c ph pt 0 Ctl.init l') (fun _ => False) := by
  intro dp' un gd cn cs a ccd cl outer A₀ base h₀ L m s Q E B F X N T hk hdp hun hG hret herr
  (k_dflt (refine' call_cls ?k1 ?k2 ?k3 ?k4 ?k5 ?k6 ?_; (case k1 => k_asm); (case k2 => k_asm); (case k3 => k_asm); (case k4 => k_is); (case k5 => k_is); (case k6 => k_is); k_whole; intro x' d' h' F' N' l1 l2; (try k_lt l1); (try k_lt2 l2); (try k_sweep); cell_enter))
  k_steps
  obtain ⟨l', N9, r⟩ := mkp_end (by assumption) (by assumption) (by assumption) (by assumption) (by assumption) (by assumption) (by assumption) (by assumption)
  exact hret _ _ _ _ (by assumption) N9 r
theorem rows_at32 : True := by
  k_with "call ref" => ((k_here; (with_reducible show wpAny _ _ (call (Value.ref 253) [_]) _ _ _); k_dflt (refine' Ctr.use (mkp_c) ?kB ?kF ?kX ?kN ?kI ?kT ?kk ?kd ?ku ?kG ?_ ?ke; (case kB => k_asm); (case kF => k_asm); (case kX => k_asm); (case kN => k_asm); (case kI => exact InAll.nil); (case kT => k_asm); (case kk => exact rfl); (case kd => ktr_room); (case ku => ktr_units); (case kG => trivial); (case ke => (intro _ _ _ _ _ q; exact q.elim)); (intro v'z h'z tk'z led'z F'z N'z q'z; obtain ⟨p'z, dp'z, fl'z, ph'z, pt'z, e1'z, t1'z, t2'z, n1'z, x'z, r'z, e2'z, dd'z, z'z, zr'z, c1'z, c2'z⟩ := q'z; subst e1'z e2'z; (try k_sweep)))))
  trivial
theorem parse_c {n : Nat} {o : Out} (hr : PRun ns 0 Ctl.init o) (hi : IntsAre vs ns) (hz : ns.length ≤ 900) :
    Ctr w mean mg mb 264 [.ref c] [(c, lst vs n)] 26 600 (fun _ => True) (fun v l' => ∃ g t v0 tk, o = .read g ∧ v = .ref t ∧ l' = [(t, tup2 v0 (.int g tk))]) (fun msg => o = .err msg) := by
  intro dp' un gd cn cs a ccd cl outer A₀ base h₀ L m s Q E B F X N T hk hdp hun hG hret herr
  refine wpAny_call ?_
  ktn_lt
  k_steps
  unfold Hold4
  have hGc : ∀ g : Heap, (∀ b o, s.heap.get? b = some o → g.get? b = some o) → GC c vs g := fun g k => ⟨_, k _ _ (N _ (.head _)).1, rfl, _, rfl⟩
  refine Ctr.use (whole_c hr ⟨_, _, _, _, _, rfl, by assumption, by assumption, by assumption, by assumption, by assumption⟩ (Int.le_refl _) hi hz) (by assumption) (by assumption) (by assumption) (by assumption) (InAll.refl _) (by assumption) rfl (by ktr_room) (by ktr_units) (hGc _ (by assumption)) ?_ ?_
  · rintro v h' tk' led' F' N' ⟨g0, e1, pl0, t10, t20, rfl⟩
    k_steps
    exact hret _ _ _ [(_, tup2 _ (.int g0 _))] (by assumption) (sub_news (by assumption) (InAll.cons (.head _) InAll.nil)) ⟨g0, _, _, _, e1, rfl, rfl⟩
  · intro e' msg' g' h' tk' hm' FG' R'
    k_steps
    exact herr _ _ _ _ _ hm' (by assumption) (by assumption)
end
section
section
/-- what is left of the text from a place -/
structure At (ns : List Int) (pl : Int) (s : List Int) : Prop where
  h0 : 0 ≤ pl
  hd : ns.drop pl.toNat = s
  hl : pl ≤ (ns.length : Int)
variable {ns s : List Int} {pl x y : Int}
theorem At.lt (a : At ns pl (x :: s)) : pl < (ns.length : Int) := by
  have h := congrArg List.length a.hd
  rw [List.length_drop, List.length_cons] at h
  have := a.h0
  omega
theorem At.nlt (a : At ns pl []) : ¬ pl < (ns.length : Int) := by
  have h := congrArg List.length a.hd
  rw [List.length_drop, List.length_nil] at h
  have := a.h0
  omega
theorem At.get (a : At ns pl (x :: s)) : ns.getD pl.toNat 0 = x := by
  have h : (ns.drop pl.toNat).getD 0 0 = x := by rw [a.hd]; rfl
  rw [List.getD_eq_getElem?_getD, List.getElem?_drop] at h
  rw [List.getD_eq_getElem?_getD]
  simpa using h
theorem At.next (a : At ns pl (x :: s)) : At ns (pl + 1) s := by
  refine ⟨by have := a.h0; omega, ?_, by have := a.lt; omega⟩
  have h0 := a.h0
  rw [show (pl + 1).toNat = pl.toNat + 1 by omega, ← List.drop_drop, a.hd]
  rfl
theorem At.sg (a : At ns pl (x :: s)) : sgAt ns pl = ⟨#[x.toNat]⟩ := by
  rw [sgAt_in a.lt, a.get]
theorem At.sg0 (a : At ns pl []) : sgAt ns pl = ⟨#[]⟩ := sgAt_out a.nlt
theorem At.to {pl' : Int} (a : At ns pl s) (e : pl = pl') : At ns pl' s := e ▸ a
theorem At.app {t : List Int} (a : At ns pl (t ++ s)) : At ns (pl + t.length) s := by
  induction t generalizing pl with
  | nil => exact a.to (by simp)
  | cons z t ih => exact (ih a.next).to (by rw [List.length_cons]; omega)
noncomputable def isRepC (c : Int) : Bool := c == 42 || c == 43 || c == 63
set_option maxRecDepth 20000 in
theorem isRep128 : ∀ n : Fin 128, isRep ⟨#[n.val]⟩ = isRepC n.val := by decide +kernel
theorem isRep_of (h0 : 0 ≤ x) (h1 : x < 128) : isRep ⟨#[x.toNat]⟩ = isRepC x := by
  have h := isRep128 ⟨x.toNat, by omega⟩
  dsimp only at h
  rw [h, show ((x.toNat : Int)) = x by omega]
theorem notEmpty (n : Nat) : ((⟨#[n]⟩ : PySem.Str) == PySem.Str.ofString "") = false := by
  rw [beq_eq_false_iff_ne]
  intro e
  have := congrArg (fun q : PySem.Str => q.cps.size) e
  exact absurd (show (1 : Nat) = 0 from this) (by decide)
theorem At.asc (hch : Asc ns) (a : At ns pl (x :: s)) : 0 ≤ x ∧ x < 128 := by
  have := hch pl.toNat
  rw [a.get] at this
  exact this
theorem At.run (hch : Asc ns) (a : At ns pl s) : ∃ j : Nat, Run ns pl j ∧ At ns (pl + j) (s.dropWhile isRepC) := by
  induction s generalizing pl with
  | nil => exact ⟨0, .stop (.inl a.sg0), a.to (by simp)⟩
  | cons x s ih =>
    have q := a.asc hch
    cases hx : isRepC x with
    | false =>
      refine ⟨0, .stop (.inr ?_), ?_⟩
      · rw [a.sg]; exact ⟨notEmpty _, (isRep_of q.1 q.2).trans hx⟩
      · rw [List.dropWhile_cons_of_neg (by rw [hx]; decide)]; exact a.to (by simp)
    | true =>
      obtain ⟨j, r, b⟩ := ih a.next
      refine ⟨j + 1, .more (by rw [a.sg]; exact notEmpty _) (by rw [a.sg]; exact (isRep_of q.1 q.2).trans hx) r, ?_⟩
      rw [List.dropWhile_cons_of_pos hx]
      exact b.to (by omega)

/-- from this rest of the text, in this state, the parser ends so -/
noncomputable def S (ns s : List Int) (k : Ctl) (o : Out) : Prop := ∀ pl, At ns pl s → PRun ns pl k o
variable {k : Ctl} {o : Out} (hz : ns.length ≤ 900) (hch : Asc ns)
theorem S_nil : S ns [] k k.fin := fun pl a => .fin a.nlt a.hl
theorem S_ok {pl' : Int} {k' : Ctl} {t : List Int} (a : At ns pl s) (b : At ns pl' t) (l : pl < (ns.length : Int)) (e : pl ≤ pl') (u : UOk ns pl k pl' k') (h : S ns t k' o) : PRun ns pl k o :=
  .step l u e (h _ b)
noncomputable def plainC (x : Int) : Bool := !(((⟨#[x.toNat]⟩ : PySem.Str) == PySem.Str.ofString "\\") || ((⟨#[x.toNat]⟩ : PySem.Str) == PySem.Str.ofString ".") || ((⟨#[x.toNat]⟩ : PySem.Str) == PySem.Str.ofString "[") || ((⟨#[x.toNat]⟩ : PySem.Str) == PySem.Str.ofString "^") || ((⟨#[x.toNat]⟩ : PySem.Str) == PySem.Str.ofString "$"))
include hz hch
theorem S_put (q : plainC x = true) (q2 : isRepC x = false ∨ k.top.lo = true) (h : S ns s k.put o) : S ns (x :: s) k o := fun pl a => by
  have q3 := isRep_of (a.asc hch).1 (a.asc hch).2
  simp only [plainC, Bool.not_eq_true', Bool.or_eq_false_iff] at q
  exact S_ok a a.next a.lt (by omega) (fun w mean mg mb p dp fl c ph pt vs hi => ok_put hi hz hch a.h0 a.lt a.sg q.1.1.1.1 q3 q2 q.1.1.1.2 q.1.1.2 q.1.2 q.2) h
theorem S_dot (h : S ns s k.put o) : S ns (46 :: s) k o := fun pl a =>
  S_ok a a.next a.lt (by omega) (fun w mean mg mb p dp fl c ph pt vs hi => ok_dot hi hz hch a.h0 a.lt a.sg) h
theorem S_bol1 (hn : k.top.ne = true) (h : S ns s k.put o) : S ns (94 :: s) k o := fun pl a =>
  S_ok a a.next a.lt (by omega) (fun w mean mg mb p dp fl c ph pt vs hi => ok_bol1 hi hz hch a.h0 a.lt a.sg hn) h
theorem S_bol0 (hn : k.top.ne = false) (h : S ns s { k with top := { k.top with ne := true } } o) : S ns (94 :: s) k o := fun pl a =>
  S_ok a a.next a.lt (by omega) (fun w mean mg mb p dp fl c ph pt vs hi => ok_bol0 hi hz hch a.h0 a.lt a.sg hn) h
theorem S_rep (q : (((⟨#[x.toNat]⟩ : PySem.Str)) == PySem.Str.ofString "\\") = false) (q2 : isRepC x = true) (hlo : k.top.lo = false) (h : S ns (s.dropWhile isRepC) k o) : S ns (x :: s) k o := fun pl a => by
  obtain ⟨j, r, b⟩ := a.next.run hch
  exact S_ok a b a.lt (by omega) (fun w mean mg mb p dp fl c ph pt vs hi => ok_rep hi hz hch a.h0 a.lt r a.sg q ((isRep_of (a.asc hch).1 (a.asc hch).2).trans q2) hlo) h
theorem S_end : S ns [92] k (.err (sS "Trailing backslash")) := fun pl a =>
  .err a.lt (fun w mean mg mb p dp fl c ph pt vs hi => er_end hi hz hch a.h0 a.lt a.next.nlt a.sg)
theorem S_b (h : S ns s k.put o) : S ns (92 :: 98 :: s) k o := fun pl a =>
  S_ok a a.next.next a.lt (by omega) (fun w mean mg mb p dp fl c ph pt vs hi => ok_b hi hz hch a.h0 a.next.lt a.sg a.next.sg) h
theorem S_r (h : S ns s k.put o) : S ns (92 :: 125 :: s) k o := fun pl a =>
  S_ok a a.next.next a.lt (by omega) (fun w mean mg mb p dp fl c ph pt vs hi => ok_r hi hz hch a.h0 a.next.lt a.sg a.next.sg) h
theorem S_part (h : S ns s { k with top := { k.top with lo := true, ne := false } } o) : S ns (92 :: 124 :: s) k o := fun pl a =>
  S_ok a a.next.next a.lt (by omega) (fun w mean mg mb p dp fl c ph pt vs hi => ok_part hi hz hch a.h0 a.next.lt a.sg a.next.sg) h
omit hz hch in
theorem isQ_of (h0 : 0 ≤ x) (h : x ≠ 63) : isQ ⟨#[x.toNat]⟩ = true := by
  simp only [isQ, bne, Bool.not_eq_true', beq_eq_false_iff_ne]
  intro e
  have := congrArg (fun q : PySem.Str => q.cps.getD 0 0) e
  have h2 : x.toNat = 63 := this
  omega
theorem S_open (hs : s.head? ≠ some 63) (h : S ns s ⟨k.gr + 1, ⟨sS "group", k.gr + 1, true, false⟩, k.top :: k.low⟩ o) : S ns (92 :: 40 :: s) k o := fun pl a => by
  have hq : isQ (sgAt ns (pl + 1 + 1)) = true := by
    cases s with
    | nil => rw [a.next.next.sg0]; decide
    | cons x s =>
      rw [a.next.next.sg]
      exact isQ_of (a.next.next.asc hch).1 (fun e => hs (by rw [e]; rfl))
  exact S_ok a a.next.next a.lt (by omega) (fun w mean mg mb p dp fl c ph pt vs hi => ok_open hi hz hch a.h0 a.next.lt a.sg a.next.sg rfl hq) h
theorem S_shy (h : S ns s ⟨k.gr, ⟨sS "shy", 0, true, false⟩, k.top :: k.low⟩ o) : S ns (92 :: 40 :: 63 :: 58 :: s) k o := fun pl a =>
  S_ok a a.next.next.next.next a.lt (by omega) (fun w mean mg mb p dp fl c ph pt vs hi => ok_shy hi hz hch a.h0 a.next.lt a.sg a.next.sg a.next.next.sg a.next.next.next.sg) h
theorem S_told (h : S ns s ⟨if (3 : Int) > k.gr then 3 else k.gr, ⟨sS "group", 3, true, false⟩, k.top :: k.low⟩ o) : S ns (92 :: 40 :: 63 :: 51 :: 58 :: s) k o := fun pl a => by
  have b := a.next.next.next.next.to (pl' := pl + 1 + 1 + 2) (by omega)
  exact S_ok a a.next.next.next.next.next a.lt (by omega) (fun w mean mg mb p dp fl c ph pt vs hi => ok_told hi hz hch a.h0 a.next.lt a.sg a.next.sg a.next.next.sg (d := 3) (by decide) (by decide) a.next.next.next.get b.sg b.lt) h
theorem S_close {y : Cf} {low : List Cf} (hlow : k.low = y :: low) (hw : k.top.wd = sS "shy" ∨ k.top.wd = sS "group") (h : S ns s ⟨k.gr, y.put, low⟩ o) : S ns (92 :: 41 :: s) k o := fun pl a =>
  S_ok a a.next.next a.lt (by omega) (fun w mean mg mb p dp fl c ph pt vs hi => ok_close hi hz hch a.h0 a.next.lt a.sg a.next.sg hlow hw) h
theorem S_closeE (hlow : k.low = []) : S ns (92 :: 41 :: s) k (.err (sS "Unmatched ) or \\)")) := fun pl a =>
  .err a.lt (fun w mean mg mb p dp fl c ph pt vs hi => er_close hi hz hch a.h0 a.next.lt a.sg a.next.sg hlow)
theorem S_back1 (hg : ¬ (k.gr < 1 ∨ 1 ∈ k.open)) (h : S ns s k.put o) : S ns (92 :: 49 :: s) k o := fun pl a =>
  S_ok a a.next.next a.lt (by omega) (fun w mean mg mb p dp fl c ph pt vs hi => ok_back1 hi hz hch a.h0 a.next.lt a.sg a.next.sg hg) h
theorem S_back2 (hg : ¬ (k.gr < 2 ∨ 2 ∈ k.open)) (h : S ns s k.put o) : S ns (92 :: 50 :: s) k o := fun pl a =>
  S_ok a a.next.next a.lt (by omega) (fun w mean mg mb p dp fl c ph pt vs hi => ok_back2 hi hz hch a.h0 a.next.lt a.sg a.next.sg hg) h
theorem S_back1E (hg : k.gr < 1 ∨ 1 ∈ k.open) : S ns (92 :: 49 :: s) k (.err (sS "Invalid back reference")) := fun pl a =>
  .err a.lt (fun w mean mg mb p dp fl c ph pt vs hi => er_back1 hi hz hch a.h0 a.next.lt a.sg a.next.sg hg)
theorem S_back2E (hg : k.gr < 2 ∨ 2 ∈ k.open) : S ns (92 :: 50 :: s) k (.err (sS "Invalid back reference")) := fun pl a =>
  .err a.lt (fun w mean mg mb p dp fl c ph pt vs hi => er_back2 hi hz hch a.h0 a.next.lt a.sg a.next.sg hg)
theorem S_syn (h : S ns s k.put o) : S ns (92 :: 115 :: 119 :: s) k o := fun pl a =>
  S_ok a a.next.next.next a.lt (by omega) (fun w mean mg mb p dp fl c ph pt vs hi => ok_syn hi hz hch a.h0 a.next.lt a.sg a.next.sg a.next.next.sg a.next.next.lt) h
theorem S_synE : S ns (92 :: 115 :: 113 :: s) k (.err (sS "Invalid syntax designator")) := fun pl a =>
  .err a.lt (fun w mean mg mb p dp fl c ph pt vs hi => er_syn hi hz hch a.h0 a.next.lt a.sg a.next.sg a.next.next.sg a.next.next.lt)
theorem S_sym (h : S ns s k.put o) : S ns (92 :: 95 :: 60 :: s) k o := fun pl a =>
  S_ok a a.next.next.next a.lt (by omega) (fun w mean mg mb p dp fl c ph pt vs hi => ok_sym hi hz hch a.h0 a.next.lt a.sg a.next.sg a.next.next.sg a.next.next.lt) h
theorem S_symE : S ns (92 :: 95 :: 120 :: s) k (.err (sS "Invalid regular expression")) := fun pl a =>
  .err a.lt (fun w mean mg mb p dp fl c ph pt vs hi => er_sym hi hz hch a.h0 a.next.lt a.sg a.next.sg a.next.next.sg a.next.next.lt)
theorem S_open0 : S ns (92 :: 40 :: 63 :: 48 :: 58 :: s) k (.err (sS "Invalid regular expression")) := fun pl a => by
  have b := a.next.next.next.next.to (pl' := pl + 1 + 1 + 2) (by omega)
  exact .err a.lt (fun w mean mg mb p dp fl c ph pt vs hi => er_open0 hi hz hch a.h0 a.next.lt a.sg a.next.sg a.next.next.sg a.next.next.next.get b.sg b.lt)
theorem S_openx : S ns (92 :: 40 :: 63 :: 120 :: s) k (.err (sS "Invalid regular expression")) := fun pl a =>
  .err a.lt (fun w mean mg mb p dp fl c ph pt vs hi => er_openx hi hz hch a.h0 a.next.lt a.sg a.next.sg a.next.next.sg a.next.next.next.sg a.next.next.next.lt)
theorem S_bad : S ns (92 :: 99 :: s) k (.err (sS "Invalid regular expression")) := fun pl a =>
  .err a.lt (fun w mean mg mb p dp fl c ph pt vs hi => er_bad hi hz hch a.h0 a.next.lt a.sg a.next.sg)
omit hz hch in
theorem bnd12 (a : At ns pl (49 :: 44 :: 50 :: 92 :: 125 :: s)) : BndOk ns pl 1 2 5 := by
  have b2 := a.next.next.to (pl' := pl + 2) (by omega)
  have b3 := b2.next.to (pl' := pl + 3) (by omega)
  have b4 := b3.next.to (pl' := pl + 4) (by omega)
  exact .two 1 2 (by decide) (by decide) (by decide) (by decide) (by decide) b4.lt a.get a.next.sg b2.get b3.sg b4.sg
omit hz hch in
theorem bnd2 (a : At ns pl (50 :: 92 :: 125 :: s)) : BndOk ns pl 2 2 3 := by
  have b2 := a.next.next.to (pl' := pl + 2) (by omega)
  exact .one 2 (by decide) (by decide) b2.lt a.get a.next.sg b2.sg
omit hz hch in
theorem bnd21 (a : At ns pl (50 :: 44 :: 49 :: 92 :: 125 :: s)) : BndEr ns pl (sS "Invalid content of \\{\\}") := by
  have b2 := a.next.next.to (pl' := pl + 2) (by omega)
  have b3 := b2.next.to (pl' := pl + 3) (by omega)
  have b4 := b3.next.to (pl' := pl + 4) (by omega)
  exact .two 2 1 (by decide) (by decide) (by decide) (by decide) (by decide) b4.lt a.get a.next.sg b2.get b3.sg b4.sg
theorem S_c12t (hlo : k.top.lo = false) (h : S ns s k o) : S ns (92 :: 123 :: 49 :: 44 :: 50 :: 92 :: 125 :: s) k o := fun pl a =>
  S_ok a (a.next.next.next.next.next.next.next.to (pl' := pl + 1 + 1 + 5) (by omega)) a.lt (by omega) (fun w mean mg mb p dp fl c ph pt vs hi => ok_cntt hi hz hch a.h0 a.next.lt a.sg a.next.sg (bnd12 a.next.next) (by decide) hlo) h
theorem S_c2t (hlo : k.top.lo = false) (h : S ns s k o) : S ns (92 :: 123 :: 50 :: 92 :: 125 :: s) k o := fun pl a =>
  S_ok a (a.next.next.next.next.next.to (pl' := pl + 1 + 1 + 3) (by omega)) a.lt (by omega) (fun w mean mg mb p dp fl c ph pt vs hi => ok_cntt hi hz hch a.h0 a.next.lt a.sg a.next.sg (bnd2 a.next.next) (by decide) hlo) h
theorem S_c12l (hlo : k.top.lo = true) (h : S ns s k.put o) : S ns (92 :: 123 :: 49 :: 44 :: 50 :: 92 :: 125 :: s) k o := fun pl a =>
  S_ok a a.next.next a.lt (by omega) (fun w mean mg mb p dp fl c ph pt vs hi => ok_cntl hi hz hch a.h0 a.next.lt a.sg a.next.sg (bnd12 a.next.next) hlo)
    (S_put hz hch (by decide) (.inl (by decide)) (S_put hz hch (by decide) (.inl (by decide)) (S_put hz hch (by decide) (.inl (by decide)) (S_r hz hch h))))
theorem S_c2l (hlo : k.top.lo = true) (h : S ns s k.put o) : S ns (92 :: 123 :: 50 :: 92 :: 125 :: s) k o := fun pl a =>
  S_ok a a.next.next a.lt (by omega) (fun w mean mg mb p dp fl c ph pt vs hi => ok_cntl hi hz hch a.h0 a.next.lt a.sg a.next.sg (bnd2 a.next.next) hlo)
    (S_put hz hch (by decide) (.inl (by decide)) (S_r hz hch h))
theorem S_c21 : S ns (92 :: 123 :: 50 :: 44 :: 49 :: 92 :: 125 :: s) k (.err (sS "Invalid content of \\{\\}")) := fun pl a =>
  .err a.lt (fun w mean mg mb p dp fl c ph pt vs hi => er_cnt hi hz hch a.h0 a.next.lt a.sg a.next.sg (bnd21 a.next.next))
theorem S_c3 : S ns [92, 123, 51] k (.err (sS "Unmatched \\{")) := fun pl a =>
  .err a.lt (fun w mean mg mb p dp fl c ph pt vs hi => er_cnt hi hz hch a.h0 a.next.lt a.sg a.next.sg (.unm 3 (by decide) (by decide) a.next.next.lt a.next.next.next.nlt a.next.next.get a.next.next.next.sg0))
theorem S_c3x : S ns [92, 123, 51, 120] k (.err (sS "Invalid content of \\{\\}")) := fun pl a =>
  .err a.lt (fun w mean mg mb p dp fl c ph pt vs hi => er_cnt hi hz hch a.h0 a.next.lt a.sg a.next.sg (.badx 3 (by decide) (by decide) a.next.next.next.lt a.next.next.get a.next.next.next.sg))
end
section
/-- the pieces -/
inductive Pc where
  | ca | dot | star | op | shy | told | cl | alt | bol | b1 | b2 | c12 | c21 | sw | sq | sy | sx | bb | pq | z0 | ox | cg | c2 | br
inductive Ls where
  | no | bs | c3 | c3x
noncomputable def Pc.cd : Pc → List Int
  | .ca => [97] | .dot => [46] | .star => [42] | .op => [92, 40] | .shy => [92, 40, 63, 58] | .told => [92, 40, 63, 51, 58] | .cl => [92, 41] | .alt => [92, 124] | .bol => [94]
  | .b1 => [92, 49] | .b2 => [92, 50] | .c12 => [92, 123, 49, 44, 50, 92, 125] | .c21 => [92, 123, 50, 44, 49, 92, 125] | .sw => [92, 115, 119] | .sq => [92, 115, 113]
  | .sy => [92, 95, 60] | .sx => [92, 95, 120] | .bb => [92, 98] | .pq => [43, 63] | .z0 => [92, 40, 63, 48, 58] | .ox => [92, 40, 63, 120] | .cg => [92, 99, 103] | .c2 => [92, 123, 50, 92, 125] | .br => [93]
noncomputable def Ls.cd : Ls → List Int
  | .no => [] | .bs => [92] | .c3 => [92, 123, 51] | .c3x => [92, 123, 51, 120]
noncomputable def cds : List Pc → Ls → List Int
  | [], e => e.cd
  | p :: ps, e => p.cd ++ cds ps e
/-- what the law says of a list of pieces: opened groups (the top first), the greatest, the end -/
noncomputable def lk : List Pc → List Int → Int → Ls → Option PySem.Str × Int
  | [], op, gr, .no => (if op = [] then none else some (sS "Unmatched ( or \\("), gr)
  | [], op, gr, .bs => (some (sS "Trailing backslash"), gr)
  | [], op, gr, .c3 => (some (sS "Unmatched \\{"), gr)
  | [], op, gr, .c3x => (some (sS "Invalid content of \\{\\}"), gr)
  | .op :: ps, op, gr, e => lk ps ((gr + 1) :: op) (gr + 1) e
  | .shy :: ps, op, gr, e => lk ps (0 :: op) gr e
  | .told :: ps, op, gr, e => lk ps (3 :: op) (if (3 : Int) > gr then 3 else gr) e
  | .cl :: ps, [], gr, e => (some (sS "Unmatched ) or \\)"), gr)
  | .cl :: ps, _ :: op, gr, e => lk ps op gr e
  | .b1 :: ps, op, gr, e => if gr < 1 ∨ 1 ∈ op then (some (sS "Invalid back reference"), gr) else lk ps op gr e
  | .b2 :: ps, op, gr, e => if gr < 2 ∨ 2 ∈ op then (some (sS "Invalid back reference"), gr) else lk ps op gr e
  | .c21 :: ps, op, gr, e => (some (sS "Invalid content of \\{\\}"), gr)
  | .sq :: ps, op, gr, e => (some (sS "Invalid syntax designator"), gr)
  | .sx :: ps, op, gr, e => (some (sS "Invalid regular expression"), gr)
  | .z0 :: ps, op, gr, e => (some (sS "Invalid regular expression"), gr)
  | .ox :: ps, op, gr, e => (some (sS "Invalid regular expression"), gr)
  | .cg :: ps, op, gr, e => (some (sS "Invalid regular expression"), gr)
  | .alt :: ps, op, gr, e => lk ps op gr e
  | .bol :: ps, op, gr, e => lk ps op gr e
  | .ca :: ps, op, gr, e => lk ps op gr e
  | .dot :: ps, op, gr, e => lk ps op gr e
  | .star :: ps, op, gr, e => lk ps op gr e
  | .c12 :: ps, op, gr, e => lk ps op gr e
  | .sw :: ps, op, gr, e => lk ps op gr e
  | .sy :: ps, op, gr, e => lk ps op gr e
  | .bb :: ps, op, gr, e => lk ps op gr e
  | .pq :: ps, op, gr, e => lk ps op gr e
  | .c2 :: ps, op, gr, e => lk ps op gr e
  | .br :: ps, op, gr, e => lk ps op gr e
noncomputable def toOut : Option PySem.Str × Int → Out
  | (none, g) => .read g
  | (some m, _) => .err m
/-- the frames, the top first, and the law's list of opened groups -/
inductive Sh : List Cf → List Int → Prop
  | bot (nu : Int) (lo ne : Bool) : Sh [⟨sS "top", nu, lo, ne⟩] []
  | grp {d : Int} {lo ne : Bool} {r : List Cf} {op : List Int} (h : Sh r op) : Sh (⟨sS "group", d, lo, ne⟩ :: r) (d :: op)
  | shy {lo ne : Bool} {r : List Cf} {op : List Int} (h : Sh r op) : Sh (⟨sS "shy", 0, lo, ne⟩ :: r) (0 :: op)
theorem Sh.set {x : Cf} {r : List Cf} {op : List Int} (h : Sh (x :: r) op) (a b : Bool) : Sh ({ x with lo := a, ne := b } :: r) op := by
  cases h with
  | bot nu lo ne => exact .bot nu a b
  | grp h => exact .grp h
  | shy h => exact .shy h
theorem gnums_rev {fs : List Cf} {d : Int} : d ∈ gnums ((fs.map fun y => (y.wd, y.nu)).reverse) ↔ ∃ y ∈ fs, (y.wd == PySem.Str.ofString "group") = true ∧ y.nu = d := by
  unfold gnums
  rw [List.mem_map]
  constructor
  · rintro ⟨q, hq, e⟩
    rw [List.mem_filter, List.mem_reverse, List.mem_map] at hq
    obtain ⟨⟨y, hy, rfl⟩, hw⟩ := hq
    exact ⟨y, hy, hw, e⟩
  · rintro ⟨y, hy, hw, e⟩
    refine ⟨(y.wd, y.nu), ?_, e⟩
    rw [List.mem_filter, List.mem_reverse, List.mem_map]
    exact ⟨⟨y, hy, rfl⟩, hw⟩
theorem Sh.mem {fs : List Cf} {op : List Int} (h : Sh fs op) {d : Int} (hd : d ≠ 0) : (∃ y ∈ fs, (y.wd == PySem.Str.ofString "group") = true ∧ y.nu = d) ↔ d ∈ op := by
  induction h with
  | bot nu lo ne =>
    constructor
    · rintro ⟨y, hy, hw, e⟩
      rw [List.mem_singleton] at hy
      subst hy
      exact absurd hw (show ¬ ((sS "top") == PySem.Str.ofString "group") = true by decide)
    · intro h; cases h
  | @grp d' lo ne r op h ih =>
    rw [List.mem_cons, ← ih]
    constructor
    · rintro ⟨y, hy, hw, e⟩
      rcases List.mem_cons.mp hy with rfl | hy
      · exact .inl e.symm
      · exact .inr ⟨y, hy, hw, e⟩
    · rintro (e | ⟨y, hy, hw, e⟩)
      · exact ⟨_, .head _, (show ((sS "group") == PySem.Str.ofString "group") = true by decide), e.symm⟩
      · exact ⟨y, .tail _ hy, hw, e⟩
  | shy h ih =>
    rw [List.mem_cons, ← ih]
    constructor
    · rintro ⟨y, hy, hw, e⟩
      rcases List.mem_cons.mp hy with rfl | hy
      · exact absurd hw (show ¬ ((sS "shy") == PySem.Str.ofString "group") = true by decide)
      · exact .inr ⟨y, hy, hw, e⟩
    · rintro (e | ⟨y, hy, hw, e⟩)
      · exact absurd e hd
      · exact ⟨y, .tail _ hy, hw, e⟩
theorem Sh.nil_low {x : Cf} {r : List Cf} (h : Sh (x :: r) []) : r = [] := by cases h; rfl
theorem Sh.cons_low {x : Cf} {r : List Cf} {d : Int} {op : List Int} (h : Sh (x :: r) (d :: op)) : (x.wd = sS "shy" ∨ x.wd = sS "group") ∧ ∃ y low, r = y :: low ∧ Sh r op := by
  cases h with
  | grp h => cases h <;> exact ⟨.inr rfl, _, _, rfl, by first | exact .bot _ _ _ | exact .grp (by assumption) | exact .shy (by assumption)⟩
  | shy h => cases h <;> exact ⟨.inl rfl, _, _, rfl, by first | exact .bot _ _ _ | exact .grp (by assumption) | exact .shy (by assumption)⟩
theorem head_cds (ps : List Pc) (e : Ls) : (cds ps e).head? ≠ some 63 := by
  cases ps with
  | nil => cases e <;> decide
  | cons p ps => cases p <;> exact (fun h => absurd (Option.some.inj h) (by decide))
variable {ns : List Int} (hz : ns.length ≤ 900) (hch : Asc ns)
include hz hch
theorem law_runs (e : Ls) : ∀ (ps : List Pc) (op : List Int) (gr : Int) (k : Ctl), Sh (k.top :: k.low) op → k.gr = gr →
    S ns (cds ps e) k (toOut (lk ps op gr e)) ∧ (k.top.lo = false → S ns ((cds ps e).dropWhile isRepC) k (toOut (lk ps op gr e))) := by
  intro ps
  induction ps with
  | nil =>
    intro op gr k hs hg
    subst hg
    cases e with
    | no =>
      have h : S ns [] k (toOut (lk [] op k.gr .no)) := by
        have := S_nil (ns := ns) (k := k)
        cases op with
        | nil =>
          have hl := hs.nil_low
          have e : k.fin = .read k.gr := by unfold Ctl.fin; rw [hl]; rfl
          rw [e] at this
          exact this
        | cons d op =>
          obtain ⟨_, y, low, hl, _⟩ := hs.cons_low
          have e : k.fin = .err (sS "Unmatched ( or \\(") := by unfold Ctl.fin; rw [hl]; rfl
          rw [e] at this
          exact this
      exact ⟨h, fun _ => h⟩
    | bs => exact ⟨S_end hz hch, fun _ => S_end hz hch⟩
    | c3 => exact ⟨S_c3 hz hch, fun _ => S_c3 hz hch⟩
    | c3x => exact ⟨S_c3x hz hch, fun _ => S_c3x hz hch⟩
  | cons p ps ih =>
    intro op gr k hs hg
    subst hg
    have hput : S ns (cds ps e) k.put (toOut (lk ps op k.gr e)) := (ih op k.gr k.put (hs.set false true) rfl).1
    have hputR : S ns ((cds ps e).dropWhile isRepC) k.put (toOut (lk ps op k.gr e)) := (ih op k.gr k.put (hs.set false true) rfl).2 rfl
    have hkeep : S ns (cds ps e) k (toOut (lk ps op k.gr e)) := (ih op k.gr k hs rfl).1
    have hkeepR : k.top.lo = false → S ns ((cds ps e).dropWhile isRepC) k (toOut (lk ps op k.gr e)) := (ih op k.gr k hs rfl).2
    have both {s : List Int} {o : Out} (e : s.dropWhile isRepC = s) (h : S ns s k o) : S ns s k o ∧ (k.top.lo = false → S ns (s.dropWhile isRepC) k o) := ⟨h, fun _ => by rw [e]; exact h⟩
    cases p with
    | ca => exact both rfl (S_put hz hch (by decide) (.inl (by decide)) hput)
    | br => exact both rfl (S_put hz hch (by decide) (.inl (by decide)) hput)
    | dot => exact both rfl (S_dot hz hch hput)
    | star =>
      refine ⟨?_, fun h => hkeepR h⟩
      cases hlo : k.top.lo with
      | true => exact S_put hz hch (by decide) (.inr hlo) hput
      | false => exact S_rep hz hch (by decide) (by decide) hlo (hkeepR hlo)
    | pq =>
      refine ⟨?_, fun h => hkeepR h⟩
      cases hlo : k.top.lo with
      | true => exact S_put hz hch (by decide) (.inr hlo) (S_rep hz hch (by decide) (by decide) rfl hputR)
      | false => exact S_rep hz hch (by decide) (by decide) hlo (hkeepR hlo)
    | op => exact both rfl (S_open hz hch (head_cds ps e) (ih _ _ _ (.grp hs) rfl).1)
    | shy => exact both rfl (S_shy hz hch (ih _ _ _ (.shy hs) rfl).1)
    | told => exact both rfl (S_told hz hch (ih _ _ _ (.grp hs) rfl).1)
    | cl =>
      cases op with
      | nil => exact both rfl (S_closeE hz hch hs.nil_low)
      | cons d op =>
        obtain ⟨hw, y, low, hl, h2⟩ := hs.cons_low
        rw [hl] at h2
        exact both rfl (S_close hz hch hl hw (ih _ _ _ (h2.set false true) rfl).1)
    | alt => exact both rfl (S_part hz hch (ih _ _ _ (hs.set true false) rfl).1)
    | bol =>
      refine both rfl ?_
      cases hn : k.top.ne with
      | true => exact S_bol1 hz hch hn hput
      | false => exact S_bol0 hz hch hn (ih _ _ _ (hs.set k.top.lo true) rfl).1
    | b1 =>
      refine both rfl ?_
      have hm : 1 ∈ k.open ↔ 1 ∈ op := gnums_rev.trans (hs.mem (by decide))
      by_cases h : k.gr < 1 ∨ 1 ∈ op
      · have := S_back1E (s := cds ps e) hz hch (by rwa [hm] : k.gr < 1 ∨ 1 ∈ k.open)
        rw [show lk (.b1 :: ps) op k.gr e = (some (sS "Invalid back reference"), k.gr) from if_pos h]
        exact this
      · rw [show lk (.b1 :: ps) op k.gr e = lk ps op k.gr e from if_neg h]
        exact S_back1 hz hch (by rwa [hm]) hput
    | b2 =>
      refine both rfl ?_
      have hm : 2 ∈ k.open ↔ 2 ∈ op := gnums_rev.trans (hs.mem (by decide))
      by_cases h : k.gr < 2 ∨ 2 ∈ op
      · have := S_back2E (s := cds ps e) hz hch (by rwa [hm] : k.gr < 2 ∨ 2 ∈ k.open)
        rw [show lk (.b2 :: ps) op k.gr e = (some (sS "Invalid back reference"), k.gr) from if_pos h]
        exact this
      · rw [show lk (.b2 :: ps) op k.gr e = lk ps op k.gr e from if_neg h]
        exact S_back2 hz hch (by rwa [hm]) hput
    | c12 =>
      refine both rfl ?_
      cases hlo : k.top.lo with
      | true => exact S_c12l hz hch hlo hput
      | false => exact S_c12t hz hch hlo hkeep
    | c2 =>
      refine both rfl ?_
      cases hlo : k.top.lo with
      | true => exact S_c2l hz hch hlo hput
      | false => exact S_c2t hz hch hlo hkeep
    | c21 => exact both rfl (S_c21 hz hch)
    | sw => exact both rfl (S_syn hz hch hput)
    | sq => exact both rfl (S_synE hz hch)
    | sy => exact both rfl (S_sym hz hch hput)
    | sx => exact both rfl (S_symE hz hch)
    | bb => exact both rfl (S_b hz hch hput)
    | z0 => exact both rfl (S_open0 hz hch)
    | ox => exact both rfl (S_openx hz hch)
    | cg => exact both rfl (S_bad hz hch)
end
section
theorem cd_asc (p : Pc) : p.cd.length ≤ 7 ∧ ∀ x ∈ p.cd, 0 ≤ x ∧ x < 128 := by cases p <;> decide
theorem ls_asc (e : Ls) : e.cd.length ≤ 4 ∧ ∀ x ∈ e.cd, 0 ≤ x ∧ x < 128 := by cases e <;> decide
theorem cds_asc (ps : List Pc) (e : Ls) : (cds ps e).length ≤ 7 * ps.length + 4 ∧ ∀ x ∈ cds ps e, 0 ≤ x ∧ x < 128 := by
  induction ps with
  | nil => have := ls_asc e; exact ⟨by simpa [cds] using this.1, this.2⟩
  | cons p ps ih =>
    have := cd_asc p
    refine ⟨by simp only [cds, List.length_append, List.length_cons]; omega, fun x hx => ?_⟩
    rcases List.mem_append.mp hx with h | h
    · exact this.2 x h
    · exact ih.2 x h
theorem asc_of {ns : List Int} (h : ∀ x ∈ ns, 0 ≤ x ∧ x < 128) : Asc ns := by
  intro i
  rw [List.getD_eq_getElem?_getD]
  cases e : ns[i]? with
  | none => exact ⟨by decide, by decide⟩
  | some x => exact h x (List.mem_of_getElem? e)
/-- the parser's run over the pieces' text ends as the law says -/
theorem law_run (ps : List Pc) (e : Ls) (h : ps.length ≤ 100) : PRun (cds ps e) 0 Ctl.init (toOut (lk ps [] 0 e)) := by
  have q := cds_asc ps e
  exact (law_runs (by omega) (asc_of q.2) e ps [] 0 Ctl.init (.bot _ _ _) rfl).1 0 ⟨by decide, rfl, by omega⟩
end
end
section
variable {w : World} {mean : ExcName → Option Value} {mg mb : PySem.Str → Option Value} {p dp fl f df nl dn c : Addr} {ph fh : Nat → Int} {pt ft : Nat → Tok} {pl gr nu : Int} {t1 t2 t3 t4 : Tok} {wd : PySem.Str} {lo : Bool} {fs nodes ds : List Value} {n1 n2 n3 : Nat} {vs : List Value} {ns : List Int} {rest : Led}
theorem rows_at33 : True := by
  k_with_none
  k_with "m:k_ne" => ((refine neN ?_; (try dsimp only); first | exact Ap.ne (by assumption) | exact Ap.swap (by assumption) | exact off_ne (by assumption) (by k_mem) | exact (off_ne (by assumption) (by k_mem)).symm | omega))
  k_with "m:k_all" => (first | exact Off.all (by assumption) | exact off_lt (by first | assumption | simp only [*]))
  k_with "m:size_fits" => ((simp only [List.size_toArray, PySem.sizeLine_eq]; omega))
  k_with "subscriptTail" => ((k_here; (with_reducible show wpAny _ _ (subscriptTail _ _ (Value.ref _) (Value.int (-1) _)) _ _ _); (with_unfolding_all refine' last_item ?k1 ?k2 ?_ ?k3; (case k1 => first | is_list | exact News.isList (by k_asm) (by k_mem)); (case k2 => assumption); (case k3 => with_unfolding_all rfl); k_whole)))
  k_with "exec Raise some none" => ((k_here; refine raise_D rfl ?_))
  k_with "call ref" => ((k_here; (with_reducible show wpAny _ _ (call (Value.ref 70) [Value.str _ _]) _ _ _); k_dflt (refine' bad_made ?k1 ?k2 ?k3 ?k4 ?k5 ?k6 ?k7 ?k8 ?_; (case k1 => k_asm); (case k2 => k_asm); (case k3 => k_asm); (case k4 => k_asm); (case k5 => k_asm); (case k6 => rfl); (case k7 => ktr_room); (case k8 => ktr_units); k_whole; intro e'z news'z h'z tk'z F'z N'z hin'z hX'z; (try k_sweep))))
  k_with "RaiseEnd" => ((k_here; refine raiseEnd_ (by k_asm) (by k_asm) (by k_asm) (by assumption) ?_))
  k_with "leaving ref" => ((k_here; first | (refine' leave_firstD ?k1 ?k2 ?k3 ?k4 ?k5 ?k6 ?_; (case k4 => assumption); (case k1 => assumption); (case k2 => assumption); (case k3 => k_asm); (case k5 => exact rfl); (case k6 => exact rfl); k_whole; intro h'z R'z; (try dsimp only at R'z ⊢)) | (refine' leave_onD ?k1 ?k2 ?kF ?k3 ?_; (case k3 => assumption); (case k1 => exact rfl); (case k2 => exact rfl); (case kF => assumption); k_whole; intro h'z R'z; (try dsimp only at R'z ⊢))))
  k_with "m:is_list" => (exact News.isList (by k_asm) (by k_mem))
  k_with "call builtin:len" => ((k_here; (with_reducible show wpAny _ _ (call (Value.builtin "len") [Value.ref _]) _ _ _); k_dflt (refine' len_led ?k1 ?k2 ?_; (case k1 => exact News.isList (by k_asm) (by k_mem)); (case k2 => ((try simp only [List.length_append, List.length_cons, List.length_nil] at *); omega)); intro t'z t2'z)))
  k_with "compareOp Eq ref ref" => ((k_here; (with_reducible show wpAny _ _ (compareOp CmpOp.Eq (Value.ref _) (Value.ref _)) _ _ _); k_dflt (refine' eq_empty ?k1 ?k2 ?k3 ?_; (case k1 => exact News.isList (by k_asm) (by k_mem)); (case k2 => exact News.isList (by k_asm) (by k_mem)); (case k3 => ktr_units))))
  k_with "call type:tuple" => ((k_here; (with_reducible show wpAny _ _ (call (Value.type _) [Value.ref _]) _ _ _); k_dflt (refine' tuple_led ?k1 ?k2 ?k3 ?k4 ?_; (case k1 => k_asm); (case k2 => k_asm); (case k3 => exact News.isList (by k_asm) (by k_mem)); (case k4 => ((try simp only [List.length_append, List.length_cons, List.length_nil] at *); omega)); k_whole; intro l'z h'z F'z N'z; (try k_sweep))))
  k_with "binaryOp Add ref ref" => ((k_here; (with_reducible show wpAny _ _ (binaryOp _ (Value.ref _) (Value.ref _)) _ _ _); k_dflt (refine' add_led ?k1 ?k2 ?k3 ?k5 ?k4 ?_; (case k1 => k_asm); (case k2 => k_asm); (case k3 => exact News.isList (by k_asm) (by k_mem)); (case k5 => exact News.isList (by k_asm) (by k_mem)); (case k4 => ((try simp only [List.length_append, List.length_cons, List.length_nil] at *); omega)); k_whole; intro l'z h'z F'z N'z l1; (try k_lt l1); (try k_sweep))))
  k_with "subscriptTail" => ((k_here; (with_reducible show wpAny _ _ (subscriptTail _ _ (Value.ref _) (Value.int 0 _)) _ _ _); (with_unfolding_all refine' first_item ?k1 ?k2 ?_ ?k3; (case k1 => exact News.isList (by k_asm) (by k_mem)); (case k2 => omega); (case k3 => with_unfolding_all rfl); k_whole; intro x'z)))
  k_with "call builtin:list.append" => ((k_here; (with_reducible show wpAny _ _ (call (Value.builtin _) [Value.ref _, _]) _ _ _); k_dflt (refine' append_led ?k1 ?k2 ?k3 ?k4 ?_; (case k1 => k_asm); (case k2 => k_asm); (case k3 => k_upd); (case k4 => ((try simp only [List.length_append, List.length_cons, List.length_nil] at *); omega)); k_whole); intro h'z F'z N'z; (try k_sweep)))
  k_with "ite" => ((k_closed; k_dflt (first | refine ite_pos (by decide +kernel) ?_ | refine ite_neg (by decide +kernel) ?_)))
  k_with "ite" => ((k_here; first | refine ite_pos (by with_reducible assumption) ?_ | refine ite_neg (ntt (by with_reducible assumption)) ?_))
  k_with "m:ktn_open" => (((repeat (refine InAll.cons (by k_mem) ?_)); (repeat (refine InAll.skip ?_)); exact InAll.refl _))
  k_with "call builtin:list.pop" => ((k_here; (with_reducible show wpAny _ _ (call (Value.builtin _) [Value.ref _]) _ _ _); k_dflt (refine' pop_end ?k1 ?k2 ?k3 ?k4 ?_; (case k1 => k_asm); (case k2 => k_asm); (case k3 => k_upd); (case k4 => ((try simp only [List.length_append, List.length_cons, List.length_nil] at *); omega)); k_whole); intro h'z F'z N'z; (try k_sweep)))
  k_with "eval Constant int" => ((k_here; refine const_int_mk ?_))
  k_with "eval Constant str" => ((k_here; refine const_str_mk ?_))
  k_with "binaryOp Add int int" => ((k_here; refine add_int_mk ?_))
  k_with "binaryOp Sub int int" => ((k_here; refine sub_int_mk ?_))
  trivial
section
/-- what the told list says of the parser's end -/
noncomputable def ToldIs (o : Out) (vs : List Value) : Prop := match o with
  | .read g => ∃ t1 t2, vs = [.str (sS "read") t1, .int g t2]
  | .err m => ∃ t1 t2, vs = [.str (sS "invalid-regexp") t1, .str m t2]
theorem exc_getK {A : Around} {E : Value → Shared → Prop} {s : Shared} {h₀ : Heap} {L : Addr} {m mA : PySem.Str → Option Value} {big : Led} {e dd : Addr} {oe od : Obj} {vs : Array Value} {name : PySem.Str} {v : Value} {Q : Value → Shared → Prop} {expr : Bool}
    (F : Fr h₀ L s.heap m) (X : (heapK w.params).In h₀) (N : News h₀ L s.heap big) (m1 : (e, oe) ∈ big) (m2 : (dd, od) ∈ big) (c1 : oe.cls = .ref 31) (c2 : oe.dict = some dd) (c3 : oe.data = .fields vs) (hO : ObNs od mA)
    (hs : name = sS "symbol" ∨ name = sS "data") (hv : mA name = some v) (hh : handedOut v = pure v) (hq : Q v { s with toks := s.toks + 1 }) : wpAny (model PR w) A (getAttr (.ref e) name expr) Q E s := by
  obtain ⟨h, g, d, t, os⟩ := s
  obtain ⟨es, ep, e1, k1, a1, a2, a3, a4⟩ := k30g w.params
  have X' := X.keeps F.keep
  refine exc_get0 (mN := nsFind es) (X' _ _ (k31 w.params)) ⟨_, es, ep, X' _ _ e1, rfl, k1, fun _ => rfl⟩ a4 a1 ?_ ?_ (N _ m1).1 c1 c3 c2 (N _ m2).1 hO hv hh hq
  · rcases hs with rfl | rfl
    · exact a2
    · exact a3
  · rcases hs with rfl | rfl
    · exact lk_symbol
    · exact lk_data
theorem rows_at34 : True := by
  k_with "m:ktn_lt" => ((k_dflt (refine' code_defT ?k1 ?k2 ?k3 ?kN ?k5 ?kA ?kF ?kK ?k6 ?k7 ?k8 ?k9 ?kB ?_ ?c5 ?c2 ?c3 ?c4; (case kA => exact rfl); (case kF => exact rfl); (case kK => assumption); (case k1 => k_asm); (case k2 => k_asm); (case k3 => k_asm); (case kN => k_asm); (case k5 => k_asm); (case k6 => k_is); (case k7 => k_is); (case k8 => ktr_room); (case k9 => exact BindsTo.of_eq rfl); (case c5 => decide); (case kB => exact locs rfl); (case c2 => exact rfl); (case c3 => exact rfl); (case c4 => exact rfl); k_whole; intro g'z L'z h'z F'z N'z B'z X'z T'z hst'z; (try dsimp only); (try k_fold))))
  k_with "exec Try cons cons nil nil" => ((k_here; refine wpAny_Try_except ?_))
  k_with "exec Try" => ((k_here; refine wpAny_Try_except ?_))
  k_with "CompEnd" => ((k_here; refine hold2_ ?_))
  k_with "eval ListComp" => ((k_here; refine hold2_ ?_))
  k_with "call ref" => ((k_here; (with_reducible show wpAny _ _ (call (Value.ref 264) [_]) _ _ _); refine hold2_ ?_))
  k_with "call ref" => ((k_here; (with_reducible show wpAny _ _ (call _ (_ ++ _)) _ _ _); dsimp only [List.nil_append, List.cons_append]; walk_at "call ref"))
  trivial
theorem told_c {o : Out} {text : PySem.Str} {t0 : Tok} (hr : PRun ns 0 Ctl.init o) (hns : text.cps.toList.map (fun n : Nat => (n : Int)) = ns) (ha : text.cps.all (· < 128) = true) (hz : ns.length ≤ 900)
    {dp un : Nat} {gd : Option (List Code)} {cn : PySem.Str} {cs : Scope} {a : Addr} {ccd : Value} {cl : List (PySem.Str × Addr)} {A₀ : Around} {base h₀ : Heap} {L : Addr} {m : PySem.Str → Option Value} {s : Shared} {news : Led} {Q E : Value → Shared → Prop}
    (B : Below A₀ base [] h₀) (F : Fr h₀ L s.heap m) (X : (heapK w.params).In h₀) (N : News h₀ L s.heap news) (T : Top viewQ LO mean mg mb h₀) (hk : cs.kind = .function) (hdp : dp + 28 < recursionLimit) (hun : un + 700 < cLine)
    (hret : ∀ r vs h' tk' n, Fr h₀ L h' m → News h₀ L h' [(r, lst vs n)] → News h₀ L h' news → ToldIs o vs → Q (.ref r) { s with heap := h', toks := tk' }) :
    wpAny (model PR w) (ktrTop dp un gd cn cs L a ccd cl []) (call (.ref 290) [.str text t0]) Q E s := by
  refine wpAny_call ?_
  ktn_lt
  k_steps
  unfold Hold2
  have hlen : text.cps.size = ns.length := by rw [← hns, List.length_map, Array.length_toList]
  refine ListComp_str (cl := []) (y := text) (t := t0) (by k_asm) (by k_asm) (by rfl) (by rfl) (by decide) (by rfl) (by decide) (by rfl) (by rw [PySem.sizeLine_eq]; omega) ha (by k_steps) ?_
  intro g9
  refine comp_ind (fun i ys nw => IntsAre ys (ns.take i) ∧ nw = []) ?_ ?_ text.cps.size 0 [] [] (Nat.zero_add _) ⟨.nil, rfl⟩
  · intro i ys nw v I oI C oC D m₂ h tk E' hi hv hys hC hx F' N' off ne
    obtain ⟨c, u, hc, rfl⟩ := hv
    obtain ⟨hys, rfl⟩ := hys
    k_steps
    unfold Hold2
    refine LCg.CompEnd.intro (by assumption) (by assumption) [] (fun _ h => h) (by assumption) trivial ⟨?_, rfl⟩
    have e : ns.take (i + 1) = ns.take i ++ [(c : Int)] := by
      rw [List.take_add_one, ← hns, List.getElem?_map, Array.getElem?_toList, hc]; rfl
    rw [e]
    exact intsAre_app hys (.cons _ _ .nil)
  · rintro ys nw ⟨hys, rfl⟩
    rw [List.take_of_length_le (by omega)] at hys
    unfold LCg.FinE
    intro D h tk F N o1
    simp only [LCg.Off1] at o1
    k_steps
    unfold Hold2
    refine Ctr.use (parse_c hr hys hz) (by assumption) (by assumption) (by assumption) N (InAll.refl _) (by assumption) rfl (by ktr_room) (by ktr_units) trivial ?_ ?_
    · rintro v h' tk' led' F' N' ⟨g0, t', v0, tk, rfl, rfl, rfl⟩
      k_steps
      rename News h₀ L _ (_ :: _) => kN
      exact hret _ _ _ _ _ (by assumption) (fun q hq => by rw [List.mem_singleton.mp hq]; exact kN _ (.head _)) (by assumption) ⟨_, _, rfl⟩
    · intro e' msg' g' h' tk' hm' FG' R'
      refine caughtD R' FG' (by assumption) (by assumption) X T (by k_is) ?_
      intro h2 g2 tk2 oe dd od dl n1 tk1 tk3 vs KT F2 N2 c1 c2 c3 c4 B2 X2 T2
      k_steps
      refine exc_getK F2 X2 (by assumption) (by k_mem) (by k_mem) c1 c2 c3 c4 (.inl rfl) (by rfl) (by rfl) ?_
      k_steps
      refine exc_getK (by assumption) X2 (by assumption) (by k_mem) (by k_mem) c1 c2 c3 c4 (.inr rfl) (by rfl) (by rfl) ?_
      k_steps
      rename News h₀ L _ (_ :: _) => kN
      refine hret _ _ _ _ _ (by assumption) (fun q hq => by rw [List.mem_singleton.mp hq]; exact kN _ (.head _)) (by assumption) ?_
      rw [hm']
      exact ⟨_, _, rfl⟩
end
end
section
variable {w : World} {mean : ExcName → Option Value} {mg mb : PySem.Str → Option Value} {p dp fl f df nl dn c : Addr} {ph fh : Nat → Int} {pt ft : Nat → Tok} {pl gr nu : Int} {t1 t2 t3 t4 : Tok} {wd : PySem.Str} {lo : Bool} {fs nodes ds : List Value} {n1 n2 n3 : Nat} {vs : List Value} {ns : List Int} {rest : Led}
theorem rows_at35 : True := by
  k_with_none
  k_with "m:k_ne" => ((refine neN ?_; (try dsimp only); first | exact Ap.ne (by assumption) | exact Ap.swap (by assumption) | exact off_ne (by assumption) (by k_mem) | exact (off_ne (by assumption) (by k_mem)).symm | omega))
  k_with "m:k_all" => (first | exact Off.all (by assumption) | exact off_lt (by first | assumption | simp only [*]))
  k_with "m:size_fits" => ((simp only [List.size_toArray, PySem.sizeLine_eq]; omega))
  k_with "subscriptTail" => ((k_here; (with_reducible show wpAny _ _ (subscriptTail _ _ (Value.ref _) (Value.int (-1) _)) _ _ _); (with_unfolding_all refine' last_item ?k1 ?k2 ?_ ?k3; (case k1 => first | is_list | exact News.isList (by k_asm) (by k_mem)); (case k2 => assumption); (case k3 => with_unfolding_all rfl); k_whole)))
  k_with "exec Raise some none" => ((k_here; refine raise_D rfl ?_))
  k_with "call ref" => ((k_here; (with_reducible show wpAny _ _ (call (Value.ref 70) [Value.str _ _]) _ _ _); k_dflt (refine' bad_made ?k1 ?k2 ?k3 ?k4 ?k5 ?k6 ?k7 ?k8 ?_; (case k1 => k_asm); (case k2 => k_asm); (case k3 => k_asm); (case k4 => k_asm); (case k5 => k_asm); (case k6 => rfl); (case k7 => ktr_room); (case k8 => ktr_units); k_whole; intro e'z news'z h'z tk'z F'z N'z hin'z hX'z; (try k_sweep))))
  k_with "RaiseEnd" => ((k_here; refine raiseEnd_ (by k_asm) (by k_asm) (by k_asm) (by assumption) ?_))
  k_with "leaving ref" => ((k_here; first | (refine' leave_firstD ?k1 ?k2 ?k3 ?k4 ?k5 ?k6 ?_; (case k4 => assumption); (case k1 => assumption); (case k2 => assumption); (case k3 => k_asm); (case k5 => exact rfl); (case k6 => exact rfl); k_whole; intro h'z R'z; (try dsimp only at R'z ⊢)) | (refine' leave_onD ?k1 ?k2 ?kF ?k3 ?_; (case k3 => assumption); (case k1 => exact rfl); (case k2 => exact rfl); (case kF => assumption); k_whole; intro h'z R'z; (try dsimp only at R'z ⊢))))
  k_with "m:is_list" => (exact News.isList (by k_asm) (by k_mem))
  k_with "call builtin:len" => ((k_here; (with_reducible show wpAny _ _ (call (Value.builtin "len") [Value.ref _]) _ _ _); k_dflt (refine' len_led ?k1 ?k2 ?_; (case k1 => exact News.isList (by k_asm) (by k_mem)); (case k2 => ((try simp only [List.length_append, List.length_cons, List.length_nil] at *); omega)); intro t'z t2'z)))
  k_with "compareOp Eq ref ref" => ((k_here; (with_reducible show wpAny _ _ (compareOp CmpOp.Eq (Value.ref _) (Value.ref _)) _ _ _); k_dflt (refine' eq_empty ?k1 ?k2 ?k3 ?_; (case k1 => exact News.isList (by k_asm) (by k_mem)); (case k2 => exact News.isList (by k_asm) (by k_mem)); (case k3 => ktr_units))))
  k_with "call type:tuple" => ((k_here; (with_reducible show wpAny _ _ (call (Value.type _) [Value.ref _]) _ _ _); k_dflt (refine' tuple_led ?k1 ?k2 ?k3 ?k4 ?_; (case k1 => k_asm); (case k2 => k_asm); (case k3 => exact News.isList (by k_asm) (by k_mem)); (case k4 => ((try simp only [List.length_append, List.length_cons, List.length_nil] at *); omega)); k_whole; intro l'z h'z F'z N'z; (try k_sweep))))
  k_with "binaryOp Add ref ref" => ((k_here; (with_reducible show wpAny _ _ (binaryOp _ (Value.ref _) (Value.ref _)) _ _ _); k_dflt (refine' add_led ?k1 ?k2 ?k3 ?k5 ?k4 ?_; (case k1 => k_asm); (case k2 => k_asm); (case k3 => exact News.isList (by k_asm) (by k_mem)); (case k5 => exact News.isList (by k_asm) (by k_mem)); (case k4 => ((try simp only [List.length_append, List.length_cons, List.length_nil] at *); omega)); k_whole; intro l'z h'z F'z N'z l1; (try k_lt l1); (try k_sweep))))
  k_with "subscriptTail" => ((k_here; (with_reducible show wpAny _ _ (subscriptTail _ _ (Value.ref _) (Value.int 0 _)) _ _ _); (with_unfolding_all refine' first_item ?k1 ?k2 ?_ ?k3; (case k1 => exact News.isList (by k_asm) (by k_mem)); (case k2 => omega); (case k3 => with_unfolding_all rfl); k_whole; intro x'z)))
  k_with "call builtin:list.append" => ((k_here; (with_reducible show wpAny _ _ (call (Value.builtin _) [Value.ref _, _]) _ _ _); k_dflt (refine' append_led ?k1 ?k2 ?k3 ?k4 ?_; (case k1 => k_asm); (case k2 => k_asm); (case k3 => k_upd); (case k4 => ((try simp only [List.length_append, List.length_cons, List.length_nil] at *); omega)); k_whole); intro h'z F'z N'z; (try k_sweep)))
  k_with "ite" => ((k_closed; k_dflt (first | refine ite_pos (by decide +kernel) ?_ | refine ite_neg (by decide +kernel) ?_)))
  k_with "ite" => ((k_here; first | refine ite_pos (by with_reducible assumption) ?_ | refine ite_neg (ntt (by with_reducible assumption)) ?_))
  k_with "m:ktn_open" => (((repeat (refine InAll.cons (by k_mem) ?_)); (repeat (refine InAll.skip ?_)); exact InAll.refl _))
  k_with "call builtin:list.pop" => ((k_here; (with_reducible show wpAny _ _ (call (Value.builtin _) [Value.ref _]) _ _ _); k_dflt (refine' pop_end ?k1 ?k2 ?k3 ?k4 ?_; (case k1 => k_asm); (case k2 => k_asm); (case k3 => k_upd); (case k4 => ((try simp only [List.length_append, List.length_cons, List.length_nil] at *); omega)); k_whole); intro h'z F'z N'z; (try k_sweep)))
  k_with "eval Constant int" => ((k_here; refine const_int_mk ?_))
  k_with "eval Constant str" => ((k_here; refine const_str_mk ?_))
  k_with "binaryOp Add int int" => ((k_here; refine add_int_mk ?_))
  k_with "binaryOp Sub int int" => ((k_here; refine sub_int_mk ?_))
  trivial
section
theorem draw_c {dk c0 : Addr} {xs : List Int} {ws : List Value} {q M : Int} {tq tM : Tok} {n n0 : Nat} (hi : IntsAre ws xs) (hz : xs.length ≤ 100) (hq : 0 ≤ q) (hq2 : q ≤ 1000) (hM : 0 < M) (ap : Ap dk c0) :
    CtrR w mean mg mb 271 [.ref dk, .int M tM] [(dk, lst [.ref c0, .int q tq] n), (c0, lst ws n0)] 4 100
      (fun v l' => ∃ r t tq' n', 0 ≤ r ∧ r < M ∧ v = .int r t ∧ l' = [(dk, lst [.ref c0, .int (q + 1) tq'] n'), (c0, lst ws n0)]) := by
  intro dp' un gd cn cs a ccd cl outer A₀ base h₀ L m s rest Q E B F X N NR offR T hk hdp hun hret
  refine wpAny_call ?_
  ((k_dflt (refine' code_defR ?k1 ?k2 ?k3 ?kN ?k5 ?kA ?kF ?kK ?k6 ?k7 ?k8 ?k9 ?kB ?_ ?c5 ?c2 ?c3 ?c4; (case kN => exact N); (case kA => exact rfl); (case kF => exact rfl); (case kK => assumption); (case k1 => k_asm); (case k2 => k_asm); (case k3 => k_asm); (case k5 => k_asm); (case k6 => k_is); (case k7 => k_is); (case k8 => ktr_room); (case k9 => exact BindsTo.of_eq rfl); (case c5 => decide); (case kB => exact locs rfl); (case c2 => exact rfl); (case c3 => exact rfl); (case c4 => exact rfl); k_whole; intro g' L' h' hkp' FG' F' N' B' X' T'; (try dsimp only); (try k_fold))))
  k_steps
  · exact hret _ _ _ _ (by assumption) (by assumption) (rest_keeps (by assumption) NR offR (by assumption)) (rest_lt NR) ⟨_, _, _, _, Int.fmod_nonneg_of_pos _ hM, Int.fmod_lt_of_pos _ hM, rfl, rfl⟩
  · exact hret _ _ _ _ (by assumption) (by assumption) (rest_keeps (by assumption) NR offR (by assumption)) (rest_lt NR) ⟨_, _, _, _, Int.fmod_nonneg_of_pos _ hM, Int.fmod_lt_of_pos _ hM, rfl, rfl⟩
end
end
section
variable {w : World} {mean : ExcName → Option Value} {mg mb : PySem.Str → Option Value} {p dp fl f df nl dn c : Addr} {ph fh : Nat → Int} {pt ft : Nat → Tok} {pl gr nu : Int} {t1 t2 t3 t4 : Tok} {wd : PySem.Str} {lo : Bool} {fs nodes ds : List Value} {n1 n2 n3 : Nat} {vs : List Value} {ns : List Int} {rest : Led}
theorem rows_at36 : True := by
  k_with_none
  k_with "m:k_ne" => ((refine neN ?_; (try dsimp only); first | exact Ap.ne (by assumption) | exact Ap.swap (by assumption) | exact off_ne (by assumption) (by k_mem) | exact (off_ne (by assumption) (by k_mem)).symm | omega))
  k_with "m:k_all" => (first | exact Off.all (by assumption) | exact off_lt (by first | assumption | simp only [*]))
  k_with "m:size_fits" => ((simp only [List.size_toArray, PySem.sizeLine_eq]; omega))
  k_with "subscriptTail" => ((k_here; (with_reducible show wpAny _ _ (subscriptTail _ _ (Value.ref _) (Value.int (-1) _)) _ _ _); (with_unfolding_all refine' last_item ?k1 ?k2 ?_ ?k3; (case k1 => first | is_list | exact News.isList (by k_asm) (by k_mem)); (case k2 => assumption); (case k3 => with_unfolding_all rfl); k_whole)))
  k_with "exec Raise some none" => ((k_here; refine raise_D rfl ?_))
  k_with "call ref" => ((k_here; (with_reducible show wpAny _ _ (call (Value.ref 70) [Value.str _ _]) _ _ _); k_dflt (refine' bad_made ?k1 ?k2 ?k3 ?k4 ?k5 ?k6 ?k7 ?k8 ?_; (case k1 => k_asm); (case k2 => k_asm); (case k3 => k_asm); (case k4 => k_asm); (case k5 => k_asm); (case k6 => rfl); (case k7 => ktr_room); (case k8 => ktr_units); k_whole; intro e'z news'z h'z tk'z F'z N'z hin'z hX'z; (try k_sweep))))
  k_with "RaiseEnd" => ((k_here; refine raiseEnd_ (by k_asm) (by k_asm) (by k_asm) (by assumption) ?_))
  k_with "leaving ref" => ((k_here; first | (refine' leave_firstD ?k1 ?k2 ?k3 ?k4 ?k5 ?k6 ?_; (case k4 => assumption); (case k1 => assumption); (case k2 => assumption); (case k3 => k_asm); (case k5 => exact rfl); (case k6 => exact rfl); k_whole; intro h'z R'z; (try dsimp only at R'z ⊢)) | (refine' leave_onD ?k1 ?k2 ?kF ?k3 ?_; (case k3 => assumption); (case k1 => exact rfl); (case k2 => exact rfl); (case kF => assumption); k_whole; intro h'z R'z; (try dsimp only at R'z ⊢))))
  k_with "m:is_list" => (exact News.isList (by k_asm) (by k_mem))
  k_with "call builtin:len" => ((k_here; (with_reducible show wpAny _ _ (call (Value.builtin "len") [Value.ref _]) _ _ _); k_dflt (refine' len_led ?k1 ?k2 ?_; (case k1 => exact News.isList (by k_asm) (by k_mem)); (case k2 => ((try simp only [List.length_append, List.length_cons, List.length_nil] at *); omega)); intro t'z t2'z)))
  k_with "compareOp Eq ref ref" => ((k_here; (with_reducible show wpAny _ _ (compareOp CmpOp.Eq (Value.ref _) (Value.ref _)) _ _ _); k_dflt (refine' eq_empty ?k1 ?k2 ?k3 ?_; (case k1 => exact News.isList (by k_asm) (by k_mem)); (case k2 => exact News.isList (by k_asm) (by k_mem)); (case k3 => ktr_units))))
  k_with "call type:tuple" => ((k_here; (with_reducible show wpAny _ _ (call (Value.type _) [Value.ref _]) _ _ _); k_dflt (refine' tuple_led ?k1 ?k2 ?k3 ?k4 ?_; (case k1 => k_asm); (case k2 => k_asm); (case k3 => exact News.isList (by k_asm) (by k_mem)); (case k4 => ((try simp only [List.length_append, List.length_cons, List.length_nil] at *); omega)); k_whole; intro l'z h'z F'z N'z; (try k_sweep))))
  k_with "binaryOp Add ref ref" => ((k_here; (with_reducible show wpAny _ _ (binaryOp _ (Value.ref _) (Value.ref _)) _ _ _); k_dflt (refine' add_led ?k1 ?k2 ?k3 ?k5 ?k4 ?_; (case k1 => k_asm); (case k2 => k_asm); (case k3 => exact News.isList (by k_asm) (by k_mem)); (case k5 => exact News.isList (by k_asm) (by k_mem)); (case k4 => ((try simp only [List.length_append, List.length_cons, List.length_nil] at *); omega)); k_whole; intro l'z h'z F'z N'z l1; (try k_lt l1); (try k_sweep))))
  k_with "subscriptTail" => ((k_here; (with_reducible show wpAny _ _ (subscriptTail _ _ (Value.ref _) (Value.int 0 _)) _ _ _); (with_unfolding_all refine' first_item ?k1 ?k2 ?_ ?k3; (case k1 => exact News.isList (by k_asm) (by k_mem)); (case k2 => omega); (case k3 => with_unfolding_all rfl); k_whole; intro x'z)))
  k_with "call builtin:list.append" => ((k_here; (with_reducible show wpAny _ _ (call (Value.builtin _) [Value.ref _, _]) _ _ _); k_dflt (refine' append_led ?k1 ?k2 ?k3 ?k4 ?_; (case k1 => k_asm); (case k2 => k_asm); (case k3 => k_upd); (case k4 => ((try simp only [List.length_append, List.length_cons, List.length_nil] at *); omega)); k_whole); intro h'z F'z N'z; (try k_sweep)))
  k_with "ite" => ((k_closed; k_dflt (first | refine ite_pos (by decide +kernel) ?_ | refine ite_neg (by decide +kernel) ?_)))
  k_with "ite" => ((k_here; first | refine ite_pos (by with_reducible assumption) ?_ | refine ite_neg (ntt (by with_reducible assumption)) ?_))
  k_with "m:ktn_open" => (((repeat (refine InAll.cons (by k_mem) ?_)); (repeat (refine InAll.skip ?_)); exact InAll.refl _))
  k_with "call builtin:list.pop" => ((k_here; (with_reducible show wpAny _ _ (call (Value.builtin _) [Value.ref _]) _ _ _); k_dflt (refine' pop_end ?k1 ?k2 ?k3 ?k4 ?_; (case k1 => k_asm); (case k2 => k_asm); (case k3 => k_upd); (case k4 => ((try simp only [List.length_append, List.length_cons, List.length_nil] at *); omega)); k_whole); intro h'z F'z N'z; (try k_sweep)))
  k_with "eval Constant int" => ((k_here; refine const_int_mk ?_))
  k_with "eval Constant str" => ((k_here; refine const_str_mk ?_))
  k_with "binaryOp Add int int" => ((k_here; refine add_int_mk ?_))
  k_with "binaryOp Sub int int" => ((k_here; refine sub_int_mk ?_))
  trivial
section
noncomputable def Pc.st : Pc → PySem.Str
  | .ca => sS "a"
  | .dot => sS "."
  | .star => sS "*"
  | .op => sS "\\("
  | .shy => sS "\\(?:"
  | .told => sS "\\(?3:"
  | .cl => sS "\\)"
  | .alt => sS "\\|"
  | .bol => sS "^"
  | .b1 => sS "\\1"
  | .b2 => sS "\\2"
  | .c12 => sS "\\{1,2\\}"
  | .c21 => sS "\\{2,1\\}"
  | .sw => sS "\\sw"
  | .sq => sS "\\sq"
  | .sy => sS "\\_<"
  | .sx => sS "\\_x"
  | .bb => sS "\\b"
  | .pq => sS "+?"
  | .z0 => sS "\\(?0:"
  | .ox => sS "\\(?x"
  | .cg => sS "\\cg"
  | .c2 => sS "\\{2\\}"
  | .br => sS "]"
noncomputable def Ls.st : Ls → PySem.Str
  | .no => sS ""
  | .bs => sS "\\"
  | .c3 => sS "\\{3"
  | .c3x => sS "\\{3x"
noncomputable def all25 : List Pc := [.ca, .dot, .star, .op, .shy, .told, .cl, .alt, .bol, .b1, .b2, .c12, .c21, .sw, .sq, .sy, .sx, .bb, .pq, .cl, .z0, .ox, .cg, .c2, .br]
/-- the pieces as values -/
inductive PcsAre : List Value → List Pc → Prop
  | nil : PcsAre [] []
  | cons (p : Pc) (t : Tok) {vs : List Value} {ps : List Pc} (r : PcsAre vs ps) : PcsAre (.str p.st t :: vs) (p :: ps)
theorem PcsAre.app {vs ws : List Value} {ps qs : List Pc} (a : PcsAre vs ps) (b : PcsAre ws qs) : PcsAre (vs ++ ws) (ps ++ qs) := by
  induction a with
  | nil => exact b
  | cons p t _ ih => exact .cons p t ih
theorem PcsAre.len {vs : List Value} {ps : List Pc} (a : PcsAre vs ps) : vs.length = ps.length := by
  induction a with
  | nil => rfl
  | cons p t _ ih => rw [List.length_cons, List.length_cons, ih]
theorem PcsAre.at {vs : List Value} {ps : List Pc} (a : PcsAre vs ps) : ∀ {i : Nat} {v : Value}, vs[i]? = some v → ∃ p t, ps[i]? = some p ∧ v = .str p.st t := by
  induction a with
  | nil => intro i v h; cases h
  | cons p t _ ih =>
    intro i v h
    cases i with
    | zero => cases h; exact ⟨p, t, rfl, rfl⟩
    | succ i => exact ih h
end
end
section
variable {w : World} {mean : ExcName → Option Value} {mg mb : PySem.Str → Option Value} {p dp fl f df nl dn c : Addr} {ph fh : Nat → Int} {pt ft : Nat → Tok} {pl gr nu : Int} {t1 t2 t3 t4 : Tok} {wd : PySem.Str} {lo : Bool} {fs nodes ds : List Value} {n1 n2 n3 : Nat} {vs : List Value} {ns : List Int} {rest : Led}
theorem rows_at37 : True := by
  k_with_none
  k_with "m:k_ne" => ((refine neN ?_; (try dsimp only); first | exact Ap.ne (by assumption) | exact Ap.swap (by assumption) | exact off_ne (by assumption) (by k_mem) | exact (off_ne (by assumption) (by k_mem)).symm | omega))
  k_with "m:k_all" => (first | exact Off.all (by assumption) | exact off_lt (by first | assumption | simp only [*]))
  k_with "m:size_fits" => ((simp only [List.size_toArray, PySem.sizeLine_eq]; omega))
  k_with "subscriptTail" => ((k_here; (with_reducible show wpAny _ _ (subscriptTail _ _ (Value.ref _) (Value.int (-1) _)) _ _ _); (with_unfolding_all refine' last_item ?k1 ?k2 ?_ ?k3; (case k1 => first | is_list | exact News.isList (by k_asm) (by k_mem)); (case k2 => assumption); (case k3 => with_unfolding_all rfl); k_whole)))
  k_with "exec Raise some none" => ((k_here; refine raise_D rfl ?_))
  k_with "call ref" => ((k_here; (with_reducible show wpAny _ _ (call (Value.ref 70) [Value.str _ _]) _ _ _); k_dflt (refine' bad_made ?k1 ?k2 ?k3 ?k4 ?k5 ?k6 ?k7 ?k8 ?_; (case k1 => k_asm); (case k2 => k_asm); (case k3 => k_asm); (case k4 => k_asm); (case k5 => k_asm); (case k6 => rfl); (case k7 => ktr_room); (case k8 => ktr_units); k_whole; intro e'z news'z h'z tk'z F'z N'z hin'z hX'z; (try k_sweep))))
  k_with "RaiseEnd" => ((k_here; refine raiseEnd_ (by k_asm) (by k_asm) (by k_asm) (by assumption) ?_))
  k_with "leaving ref" => ((k_here; first | (refine' leave_firstD ?k1 ?k2 ?k3 ?k4 ?k5 ?k6 ?_; (case k4 => assumption); (case k1 => assumption); (case k2 => assumption); (case k3 => k_asm); (case k5 => exact rfl); (case k6 => exact rfl); k_whole; intro h'z R'z; (try dsimp only at R'z ⊢)) | (refine' leave_onD ?k1 ?k2 ?kF ?k3 ?_; (case k3 => assumption); (case k1 => exact rfl); (case k2 => exact rfl); (case kF => assumption); k_whole; intro h'z R'z; (try dsimp only at R'z ⊢))))
  k_with "m:is_list" => (exact News.isList (by k_asm) (by k_mem))
  k_with "call builtin:len" => ((k_here; (with_reducible show wpAny _ _ (call (Value.builtin "len") [Value.ref _]) _ _ _); k_dflt (refine' len_led ?k1 ?k2 ?_; (case k1 => exact News.isList (by k_asm) (by k_mem)); (case k2 => ((try simp only [List.length_append, List.length_cons, List.length_nil] at *); omega)); intro t'z t2'z)))
  k_with "compareOp Eq ref ref" => ((k_here; (with_reducible show wpAny _ _ (compareOp CmpOp.Eq (Value.ref _) (Value.ref _)) _ _ _); k_dflt (refine' eq_empty ?k1 ?k2 ?k3 ?_; (case k1 => exact News.isList (by k_asm) (by k_mem)); (case k2 => exact News.isList (by k_asm) (by k_mem)); (case k3 => ktr_units))))
  k_with "call type:tuple" => ((k_here; (with_reducible show wpAny _ _ (call (Value.type _) [Value.ref _]) _ _ _); k_dflt (refine' tuple_led ?k1 ?k2 ?k3 ?k4 ?_; (case k1 => k_asm); (case k2 => k_asm); (case k3 => exact News.isList (by k_asm) (by k_mem)); (case k4 => ((try simp only [List.length_append, List.length_cons, List.length_nil] at *); omega)); k_whole; intro l'z h'z F'z N'z; (try k_sweep))))
  k_with "binaryOp Add ref ref" => ((k_here; (with_reducible show wpAny _ _ (binaryOp _ (Value.ref _) (Value.ref _)) _ _ _); k_dflt (refine' add_led ?k1 ?k2 ?k3 ?k5 ?k4 ?_; (case k1 => k_asm); (case k2 => k_asm); (case k3 => exact News.isList (by k_asm) (by k_mem)); (case k5 => exact News.isList (by k_asm) (by k_mem)); (case k4 => ((try simp only [List.length_append, List.length_cons, List.length_nil] at *); omega)); k_whole; intro l'z h'z F'z N'z l1; (try k_lt l1); (try k_sweep))))
  k_with "subscriptTail" => ((k_here; (with_reducible show wpAny _ _ (subscriptTail _ _ (Value.ref _) (Value.int 0 _)) _ _ _); (with_unfolding_all refine' first_item ?k1 ?k2 ?_ ?k3; (case k1 => exact News.isList (by k_asm) (by k_mem)); (case k2 => omega); (case k3 => with_unfolding_all rfl); k_whole; intro x'z)))
  k_with "call builtin:list.append" => ((k_here; (with_reducible show wpAny _ _ (call (Value.builtin _) [Value.ref _, _]) _ _ _); k_dflt (refine' append_led ?k1 ?k2 ?k3 ?k4 ?_; (case k1 => k_asm); (case k2 => k_asm); (case k3 => k_upd); (case k4 => ((try simp only [List.length_append, List.length_cons, List.length_nil] at *); omega)); k_whole); intro h'z F'z N'z; (try k_sweep)))
  k_with "ite" => ((k_closed; k_dflt (first | refine ite_pos (by decide +kernel) ?_ | refine ite_neg (by decide +kernel) ?_)))
  k_with "ite" => ((k_here; first | refine ite_pos (by with_reducible assumption) ?_ | refine ite_neg (ntt (by with_reducible assumption)) ?_))
  k_with "m:ktn_open" => (((repeat (refine InAll.cons (by k_mem) ?_)); (repeat (refine InAll.skip ?_)); exact InAll.refl _))
  k_with "call builtin:list.pop" => ((k_here; (with_reducible show wpAny _ _ (call (Value.builtin _) [Value.ref _]) _ _ _); k_dflt (refine' pop_end ?k1 ?k2 ?k3 ?k4 ?_; (case k1 => k_asm); (case k2 => k_asm); (case k3 => k_upd); (case k4 => ((try simp only [List.length_append, List.length_cons, List.length_nil] at *); omega)); k_whole); intro h'z F'z N'z; (try k_sweep)))
  k_with "eval Constant int" => ((k_here; refine const_int_mk ?_))
  k_with "eval Constant str" => ((k_here; refine const_str_mk ?_))
  k_with "binaryOp Add int int" => ((k_here; refine add_int_mk ?_))
  k_with "binaryOp Sub int int" => ((k_here; refine sub_int_mk ?_))
  trivial
section
theorem rows_at38 : True := by
  k_with "exec For Name Name cons nil" => ((k_here; refine hold2_ ?_))
  k_with "eval Name" => ((k_here; k_dflt (refine' ld ?k1 ?k2 ?_; (case k1 => k_asm); (case k2 => first | exact rfl | assumption | (dsimp only; (repeat (refine (if_neg (by decide)).trans ?_)); assumption)); k_whole)))
  k_with "ForEnd" => ((k_here; refine hold2_ ?_))
  trivial
noncomputable def LkIs (x : Option PySem.Str × Int) (rv : Value) (g : Int) : Prop := g = x.2 ∧ match x.1 with
  | none => rv = .none
  | some m => ∃ tk, rv = .str m tk
/-- what holds between two pieces -/
noncomputable def LkJ (ps : List Pc) (e : Ls) (te : Tok) (r : Addr) (vs : List Value) (n : Nat) (i : Nat) (m' : PySem.Str → Option Value) (l' : Led) : Prop :=
  ∃ op gr b t1 oo vo no, l' = [(oo, lst vo no), (r, lst vs n)] ∧ IntsAre vo (List.reverse op) ∧ lk ps [] 0 e = lk (ps.drop i) op gr e ∧ m' (sS "last") = some (.str e.st te) ∧ m' (sS "opened_own") = some (.ref oo) ∧
    m' (sS "greatest_own") = some (.int gr t1) ∧ m' (sS "is_loose_own") = some (.bool b) ∧ op.length ≤ i ∧ Ap oo r
noncomputable def Pc.isR : Pc → Bool
  | .op | .shy | .told | .cl | .b1 | .b2 => false
  | _ => true
theorem rest1 (p : Pc) (h : p.isR = true) : ([PySem.Str.ofString "\\(", PySem.Str.ofString "\\(?:", PySem.Str.ofString "\\(?3:"].any fun x => x == p.st) = false := by revert h; cases p <;> decide
theorem rest2 (p : Pc) (h : p.isR = true) : (p.st == PySem.Str.ofString "\\)") = false := by revert h; cases p <;> decide
theorem rest3 (p : Pc) (h : p.isR = true) : ([PySem.Str.ofString "\\1", PySem.Str.ofString "\\2"].any fun x => x == p.st) = false := by revert h; cases p <;> decide
section
variable {ps : List Pc} {op : List Int} {gr : Int} {e : Ls}
theorem lk_alt (p : Pc) (h : (p.st == PySem.Str.ofString "\\|") = true) : lk (p :: ps) op gr e = lk ps op gr e := by cases p <;> first | rfl | exact absurd h (by decide)
theorem lk_bol (p : Pc) (h : (p.st == PySem.Str.ofString "^") = true) : lk (p :: ps) op gr e = lk ps op gr e := by cases p <;> first | rfl | exact absurd h (by decide)
theorem lk_c21 (p : Pc) (h : (p.st == PySem.Str.ofString "\\{2,1\\}") = true) : lk (p :: ps) op gr e = (some (sS "Invalid content of \\{\\}"), gr) := by cases p <;> first | rfl | exact absurd h (by decide)
theorem lk_sq (p : Pc) (h : (p.st == PySem.Str.ofString "\\sq") = true) : lk (p :: ps) op gr e = (some (sS "Invalid syntax designator"), gr) := by cases p <;> first | rfl | exact absurd h (by decide)
theorem lk_four (p : Pc) (h : ([PySem.Str.ofString "\\_x", PySem.Str.ofString "\\(?0:", PySem.Str.ofString "\\(?x", PySem.Str.ofString "\\cg"].any fun x => x == p.st) = true) : lk (p :: ps) op gr e = (some (sS "Invalid regular expression"), gr) := by cases p <;> first | rfl | exact absurd h (by decide)
theorem lk_keep (p : Pc) (hr : p.isR = true) (h1 : (p.st == PySem.Str.ofString "\\{2,1\\}") = false) (h2 : (p.st == PySem.Str.ofString "\\sq") = false) (h3 : ([PySem.Str.ofString "\\_x", PySem.Str.ofString "\\(?0:", PySem.Str.ofString "\\(?x", PySem.Str.ofString "\\cg"].any fun x => x == p.st) = false) : lk (p :: ps) op gr e = lk ps op gr e := by
  cases p <;> first | rfl | exact absurd hr (by decide) | exact absurd h1 (by decide) | exact absurd h2 (by decide) | exact absurd h3 (by decide)
end
theorem off2 {oo r I : Addr} {a b a' b' : Obj} (h : ∀ p ∈ [(oo, a), (r, b)], p.1 ≠ I) : ∀ p ∈ [(oo, a'), (r, b')], p.1 ≠ I := fun p hp => by
  rcases List.mem_cons.mp hp with rfl | hp
  · exact h (oo, a) (.head _)
  rw [List.mem_singleton.mp hp]
  exact h (r, b) (.tail _ (.head _))
theorem ints_snoc {vo : List Value} {xs : List Int} {d : Int} (h : IntsAre vo (xs ++ [d])) : ∃ vo' t, vo = vo' ++ [.int d t] ∧ IntsAre vo' xs := by
  induction xs generalizing vo with
  | nil => cases h with | cons _ t r => cases r; exact ⟨[], t, rfl, .nil⟩
  | cons x xs ih => cases h with
    | cons _ t r => obtain ⟨vo', t', e, k⟩ := ih r; exact ⟨.int x t :: vo', t', by rw [e]; rfl, .cons x t k⟩
theorem looked_c {ps : List Pc} {vs : List Value} {e : Ls} {te : Tok} {r : Addr} {n : Nat} (hp : PcsAre vs ps) (hz : ps.length ≤ 100) :
    CtrR w mean mg mb 285 [.ref r, .str e.st te] [(r, lst vs n)] 4 100
      (fun v l' => ∃ t rv g tk, v = .ref t ∧ l' = [(t, tup2 rv (.int g tk)), (r, lst vs n)] ∧ LkIs (lk ps [] 0 e) rv g) := by
  intro dp' un gd cn cs a ccd cl outer A₀ base h₀ L m s rest Q E B F X N NR offR T hk hdp hun hret
  refine wpAny_call ?_
  ((k_dflt (refine' code_defR ?k1 ?k2 ?k3 ?kN ?k5 ?kA ?kF ?kK ?k6 ?k7 ?k8 ?k9 ?kB ?_ ?c5 ?c2 ?c3 ?c4; (case kN => exact N); (case kA => exact rfl); (case kF => exact rfl); (case kK => assumption); (case k1 => k_asm); (case k2 => k_asm); (case k3 => k_asm); (case k5 => k_asm); (case k6 => k_is); (case k7 => k_is); (case k8 => ktr_room); (case k9 => exact BindsTo.of_eq rfl); (case c5 => decide); (case kB => exact locs rfl); (case c2 => exact rfl); (case c3 => exact rfl); (case c4 => exact rfl); k_whole; intro g' L' h' hkp' FG' F' N' B' X' T'; (try dsimp only); (try k_fold))))
  k_steps
  unfold Hold2
  refine for_list (ax := r) (its := vs) (k := n) (by with_unfolding_all passes_own) (by rfl) (by assumption) (sub_news (by assumption) (InAll.two (.tail _ (.head _)) (.tail _ (.tail _ (.head _))))) (.tail _ (.head _)) (by k_steps)
    (LkJ ps e te r vs n) ⟨[], 0, true, _, _, [], 0, rfl, .nil, rfl, rfl, rfl, rfl, rfl, Nat.le_refl _, by k_ne⟩ ?_ ?_
  · rintro i v m₁ l₁ I oI h₁ tk₁ hv ⟨op, gr, b, t1, oo, vo, no, rfl, hvo, hlk, b1, b2, b3, b4, hop, ap⟩ _ off F₁ N₁
    obtain ⟨p, tp, hpi, rfl⟩ := hp.at hv
    have hd : ps.drop i = p :: ps.drop (i + 1) := by
      obtain ⟨q1, q2⟩ := List.getElem?_eq_some_iff.mp hpi
      rw [List.drop_eq_getElem_cons q1, q2]
    rw [hd] at hlk
    have hi9 : i < ps.length := (List.getElem?_eq_some_iff.mp hpi).1
    have hvl : vo.length ≤ 100 := by rw [hvo.length, List.length_reverse]; omega
    refine wp_gen2 fun Qb hQb => ?_
    cases hrest : p.isR
    case true =>
      have g1 := rest1 p hrest
      have g2 := rest2 p hrest
      have g3 := rest3 p hrest
      have k1 := fun h => lk_alt (ps := ps.drop (i + 1)) (op := op) (gr := gr) (e := e) p h
      have k2 := fun h => lk_bol (ps := ps.drop (i + 1)) (op := op) (gr := gr) (e := e) p h
      have k3 := fun h => lk_c21 (ps := ps.drop (i + 1)) (op := op) (gr := gr) (e := e) p h
      have k4 := fun h => lk_sq (ps := ps.drop (i + 1)) (op := op) (gr := gr) (e := e) p h
      have k5 := fun h => lk_four (ps := ps.drop (i + 1)) (op := op) (gr := gr) (e := e) p h
      have k6 := fun h1 h2 h3 => lk_keep (ps := ps.drop (i + 1)) (op := op) (gr := gr) (e := e) p hrest h1 h2 h3
      generalize p.st = q at *
      k_steps
      · ((subst hQb; (try dsimp only); unfold ForEnd; dsimp only; refine ⟨_, _, _, [(_, lst vo _), (_, lst _ _)], rfl, by assumption, sub_news (by assumption) (InAll.cons (by k_mem) (InAll.two (by k_mem) (by k_mem))), off2 (by assumption), .tail _ (.head _), op, gr, _, _, _, vo, _, rfl, ?_, ?_, by (first | exact rfl | assumption | (dsimp only; (repeat (refine (if_neg (by decide)).trans ?_)); first | assumption | exact if_pos rfl)), by (first | exact rfl | assumption | (dsimp only; (repeat (refine (if_neg (by decide)).trans ?_)); first | assumption | exact if_pos rfl)), by (first | exact rfl | assumption | (dsimp only; (repeat (refine (if_neg (by decide)).trans ?_)); first | assumption | exact if_pos rfl)), by (first | exact rfl | assumption | (dsimp only; (repeat (refine (if_neg (by decide)).trans ?_)); first | assumption | exact if_pos rfl)), ?_, by assumption⟩))
        · exact hvo
        · exact hlk.trans (k1 (by assumption))
        · omega
      · ((subst hQb; (try dsimp only); unfold ForEnd; dsimp only; refine ⟨_, _, _, [(_, lst vo _), (_, lst _ _)], rfl, by assumption, sub_news (by assumption) (InAll.cons (by k_mem) (InAll.two (by k_mem) (by k_mem))), off2 (by assumption), .tail _ (.head _), op, gr, _, _, _, vo, _, rfl, ?_, ?_, by (first | exact rfl | assumption | (dsimp only; (repeat (refine (if_neg (by decide)).trans ?_)); first | assumption | exact if_pos rfl)), by (first | exact rfl | assumption | (dsimp only; (repeat (refine (if_neg (by decide)).trans ?_)); first | assumption | exact if_pos rfl)), by (first | exact rfl | assumption | (dsimp only; (repeat (refine (if_neg (by decide)).trans ?_)); first | assumption | exact if_pos rfl)), by (first | exact rfl | assumption | (dsimp only; (repeat (refine (if_neg (by decide)).trans ?_)); first | assumption | exact if_pos rfl)), ?_, by assumption⟩))
        · exact hvo
        · exact hlk.trans (k2 (by assumption))
        · omega
      · ((subst hQb; (try dsimp only); unfold ForEnd; dsimp only; k_steps))
        ((refine hret _ _ _ [(_, tup2 _ (.int gr _)), (_, lst _ _)] (by assumption) (sub_news (by assumption) (InAll.two (by k_mem) (by k_mem))) (rest_keeps (by assumption) NR offR (by assumption)) (rest_lt NR) ⟨_, _, _, _, rfl, rfl, ?_⟩))
        rw [hlk, k3 (by assumption)]; exact ⟨rfl, _, rfl⟩
      · ((subst hQb; (try dsimp only); unfold ForEnd; dsimp only; k_steps))
        ((refine hret _ _ _ [(_, tup2 _ (.int gr _)), (_, lst _ _)] (by assumption) (sub_news (by assumption) (InAll.two (by k_mem) (by k_mem))) (rest_keeps (by assumption) NR offR (by assumption)) (rest_lt NR) ⟨_, _, _, _, rfl, rfl, ?_⟩))
        rw [hlk, k4 (by assumption)]; exact ⟨rfl, _, rfl⟩
      · ((subst hQb; (try dsimp only); unfold ForEnd; dsimp only; k_steps))
        ((refine hret _ _ _ [(_, tup2 _ (.int gr _)), (_, lst _ _)] (by assumption) (sub_news (by assumption) (InAll.two (by k_mem) (by k_mem))) (rest_keeps (by assumption) NR offR (by assumption)) (rest_lt NR) ⟨_, _, _, _, rfl, rfl, ?_⟩))
        rw [hlk, k5 (by assumption)]; exact ⟨rfl, _, rfl⟩
      · ((subst hQb; (try dsimp only); unfold ForEnd; dsimp only; refine ⟨_, _, _, [(_, lst vo _), (_, lst _ _)], rfl, by assumption, sub_news (by assumption) (InAll.cons (by k_mem) (InAll.two (by k_mem) (by k_mem))), off2 (by assumption), .tail _ (.head _), op, gr, _, _, _, vo, _, rfl, ?_, ?_, by (first | exact rfl | assumption | (dsimp only; (repeat (refine (if_neg (by decide)).trans ?_)); first | assumption | exact if_pos rfl)), by (first | exact rfl | assumption | (dsimp only; (repeat (refine (if_neg (by decide)).trans ?_)); first | assumption | exact if_pos rfl)), by (first | exact rfl | assumption | (dsimp only; (repeat (refine (if_neg (by decide)).trans ?_)); first | assumption | exact if_pos rfl)), by (first | exact rfl | assumption | (dsimp only; (repeat (refine (if_neg (by decide)).trans ?_)); first | assumption | exact if_pos rfl)), ?_, by assumption⟩))
        · exact hvo
        · exact hlk.trans (k6 (by assumption) (by assumption) (by assumption))
        · omega
    case false =>
      cases p
      case op =>
        dsimp only [Pc.st]
        k_steps
        ((subst hQb; (try dsimp only); unfold ForEnd; dsimp only; refine ⟨_, _, _, [(_, lst (vo ++ [.int (gr + 1) _]) _), (_, lst _ _)], rfl, by assumption, sub_news (by assumption) (InAll.cons (by k_mem) (InAll.two (by k_mem) (by k_mem))), off2 (by assumption), .tail _ (.head _), ((gr + 1) :: op), (gr + 1), _, _, _, (vo ++ [.int (gr + 1) _]), _, rfl, ?_, ?_, by (first | exact rfl | assumption | (dsimp only; (repeat (refine (if_neg (by decide)).trans ?_)); first | assumption | exact if_pos rfl)), by (first | exact rfl | assumption | (dsimp only; (repeat (refine (if_neg (by decide)).trans ?_)); first | assumption | exact if_pos rfl)), by (first | exact rfl | assumption | (dsimp only; (repeat (refine (if_neg (by decide)).trans ?_)); first | assumption | exact if_pos rfl)), by (first | exact rfl | assumption | (dsimp only; (repeat (refine (if_neg (by decide)).trans ?_)); first | assumption | exact if_pos rfl)), ?_, by assumption⟩))
        · rw [List.reverse_cons]; exact intsAre_app hvo (.cons _ _ .nil)
        · exact hlk
        · rw [List.length_cons]; omega
      case shy =>
        dsimp only [Pc.st]
        k_steps
        ((subst hQb; (try dsimp only); unfold ForEnd; dsimp only; refine ⟨_, _, _, [(_, lst (vo ++ [.int 0 _]) _), (_, lst _ _)], rfl, by assumption, sub_news (by assumption) (InAll.cons (by k_mem) (InAll.two (by k_mem) (by k_mem))), off2 (by assumption), .tail _ (.head _), (0 :: op), gr, _, _, _, (vo ++ [.int 0 _]), _, rfl, ?_, ?_, by (first | exact rfl | assumption | (dsimp only; (repeat (refine (if_neg (by decide)).trans ?_)); first | assumption | exact if_pos rfl)), by (first | exact rfl | assumption | (dsimp only; (repeat (refine (if_neg (by decide)).trans ?_)); first | assumption | exact if_pos rfl)), by (first | exact rfl | assumption | (dsimp only; (repeat (refine (if_neg (by decide)).trans ?_)); first | assumption | exact if_pos rfl)), by (first | exact rfl | assumption | (dsimp only; (repeat (refine (if_neg (by decide)).trans ?_)); first | assumption | exact if_pos rfl)), ?_, by assumption⟩))
        · rw [List.reverse_cons]; exact intsAre_app hvo (.cons _ _ .nil)
        · exact hlk
        · rw [List.length_cons]; omega
      case told =>
        dsimp only [Pc.st]
        k_steps
        ((subst hQb; (try dsimp only); unfold ForEnd; dsimp only; refine ⟨_, _, _, [(_, lst (vo ++ [.int 3 _]) _), (_, lst _ _)], rfl, by assumption, sub_news (by assumption) (InAll.cons (by k_mem) (InAll.two (by k_mem) (by k_mem))), off2 (by assumption), .tail _ (.head _), (3 :: op), (if (3 : Int) > gr then 3 else gr), _, _, _, (vo ++ [.int 3 _]), _, rfl, ?_, ?_, by (first | exact rfl | assumption | (dsimp only; (repeat (refine (if_neg (by decide)).trans ?_)); first | assumption | exact if_pos rfl)), by (first | exact rfl | assumption | (dsimp only; (repeat (refine (if_neg (by decide)).trans ?_)); first | assumption | exact if_pos rfl)), by (first | exact rfl | assumption | (dsimp only; (repeat (refine (if_neg (by decide)).trans ?_)); first | assumption | exact if_pos rfl)), by (first | exact rfl | assumption | (dsimp only; (repeat (refine (if_neg (by decide)).trans ?_)); first | assumption | exact if_pos rfl)), ?_, by assumption⟩))
        · rw [List.reverse_cons]; exact intsAre_app hvo (.cons _ _ .nil)
        · exact hlk
        · rw [List.length_cons]; omega
      case cl =>
        cases op with
        | nil =>
          cases hvo
          dsimp only [Pc.st]
          k_steps
          all_goals trace "CL0"
          ((subst hQb; (try dsimp only); unfold ForEnd; dsimp only; k_steps))
          ((refine hret _ _ _ [(_, tup2 _ (.int gr _)), (_, lst _ _)] (by assumption) (sub_news (by assumption) (InAll.two (by k_mem) (by k_mem))) (rest_keeps (by assumption) NR offR (by assumption)) (rest_lt NR) ⟨_, _, _, _, rfl, rfl, ?_⟩))
          rw [hlk]; exact ⟨rfl, _, rfl⟩
        | cons d op =>
          rw [List.reverse_cons] at hvo
          obtain ⟨vo', t, rfl, hvo'⟩ := ints_snoc hvo
          have hne : (vo' ++ [Value.int d t]).isEmpty = false := by cases vo' <;> rfl
          dsimp only [Pc.st]
          k_steps
          all_goals trace "CL1"
          ((subst hQb; (try dsimp only); unfold ForEnd; dsimp only; refine ⟨_, _, _, [(_, lst vo' _), (_, lst _ _)], rfl, by assumption, sub_news (by assumption) (InAll.cons (by k_mem) (InAll.two (by k_mem) (by k_mem))), off2 (by assumption), .tail _ (.head _), op, gr, _, _, _, vo', _, rfl, ?_, ?_, by (first | exact rfl | assumption | (dsimp only; (repeat (refine (if_neg (by decide)).trans ?_)); first | assumption | exact if_pos rfl)), by (first | exact rfl | assumption | (dsimp only; (repeat (refine (if_neg (by decide)).trans ?_)); first | assumption | exact if_pos rfl)), by (first | exact rfl | assumption | (dsimp only; (repeat (refine (if_neg (by decide)).trans ?_)); first | assumption | exact if_pos rfl)), by (first | exact rfl | assumption | (dsimp only; (repeat (refine (if_neg (by decide)).trans ?_)); first | assumption | exact if_pos rfl)), ?_, by assumption⟩))
          · exact hvo'
          · exact hlk
          · rw [List.length_cons] at hop; omega
      case b1 =>
        dsimp only [Pc.st]
        k_steps
        all_goals trace "B1"
        · ((subst hQb; (try dsimp only); unfold ForEnd; dsimp only; k_steps))
          ((refine hret _ _ _ [(_, tup2 _ (.int gr _)), (_, lst _ _)] (by assumption) (sub_news (by assumption) (InAll.two (by k_mem) (by k_mem))) (rest_keeps (by assumption) NR offR (by assumption)) (rest_lt NR) ⟨_, _, _, _, rfl, rfl, ?_⟩))
          rw [hlk, show lk (.b1 :: ps.drop (i + 1)) op gr e = _ from if_pos (.inl (by omega))]; exact ⟨rfl, _, rfl⟩
        · ((subst hQb; (try dsimp only); unfold ForEnd; dsimp only; k_steps))
          ((refine hret _ _ _ [(_, tup2 _ (.int gr _)), (_, lst _ _)] (by assumption) (sub_news (by assumption) (InAll.two (by k_mem) (by k_mem))) (rest_keeps (by assumption) NR offR (by assumption)) (rest_lt NR) ⟨_, _, _, _, rfl, rfl, ?_⟩))
          rw [hlk, show lk (.b1 :: ps.drop (i + 1)) op gr e = _ from if_pos (.inr (List.mem_reverse.mp (any_mem (by assumption))))]; exact ⟨rfl, _, rfl⟩
        · ((subst hQb; (try dsimp only); unfold ForEnd; dsimp only; refine ⟨_, _, _, [(_, lst vo _), (_, lst _ _)], rfl, by assumption, sub_news (by assumption) (InAll.cons (by k_mem) (InAll.two (by k_mem) (by k_mem))), off2 (by assumption), .tail _ (.head _), op, gr, _, _, _, vo, _, rfl, ?_, ?_, by (first | exact rfl | assumption | (dsimp only; (repeat (refine (if_neg (by decide)).trans ?_)); first | assumption | exact if_pos rfl)), by (first | exact rfl | assumption | (dsimp only; (repeat (refine (if_neg (by decide)).trans ?_)); first | assumption | exact if_pos rfl)), by (first | exact rfl | assumption | (dsimp only; (repeat (refine (if_neg (by decide)).trans ?_)); first | assumption | exact if_pos rfl)), by (first | exact rfl | assumption | (dsimp only; (repeat (refine (if_neg (by decide)).trans ?_)); first | assumption | exact if_pos rfl)), ?_, by assumption⟩))
          · exact hvo
          · exact hlk.trans (if_neg (by rintro (z | z) <;> first | omega | exact any_nmem (by assumption) (List.mem_reverse.mpr z)))
          · omega
      case b2 =>
        dsimp only [Pc.st]
        k_steps
        · ((subst hQb; (try dsimp only); unfold ForEnd; dsimp only; k_steps))
          ((refine hret _ _ _ [(_, tup2 _ (.int gr _)), (_, lst _ _)] (by assumption) (sub_news (by assumption) (InAll.two (by k_mem) (by k_mem))) (rest_keeps (by assumption) NR offR (by assumption)) (rest_lt NR) ⟨_, _, _, _, rfl, rfl, ?_⟩))
          rw [hlk, show lk (.b2 :: ps.drop (i + 1)) op gr e = _ from if_pos (.inl (by omega))]; exact ⟨rfl, _, rfl⟩
        · ((subst hQb; (try dsimp only); unfold ForEnd; dsimp only; k_steps))
          ((refine hret _ _ _ [(_, tup2 _ (.int gr _)), (_, lst _ _)] (by assumption) (sub_news (by assumption) (InAll.two (by k_mem) (by k_mem))) (rest_keeps (by assumption) NR offR (by assumption)) (rest_lt NR) ⟨_, _, _, _, rfl, rfl, ?_⟩))
          rw [hlk, show lk (.b2 :: ps.drop (i + 1)) op gr e = _ from if_pos (.inr (List.mem_reverse.mp (any_mem (by assumption))))]; exact ⟨rfl, _, rfl⟩
        · ((subst hQb; (try dsimp only); unfold ForEnd; dsimp only; refine ⟨_, _, _, [(_, lst vo _), (_, lst _ _)], rfl, by assumption, sub_news (by assumption) (InAll.cons (by k_mem) (InAll.two (by k_mem) (by k_mem))), off2 (by assumption), .tail _ (.head _), op, gr, _, _, _, vo, _, rfl, ?_, ?_, by (first | exact rfl | assumption | (dsimp only; (repeat (refine (if_neg (by decide)).trans ?_)); first | assumption | exact if_pos rfl)), by (first | exact rfl | assumption | (dsimp only; (repeat (refine (if_neg (by decide)).trans ?_)); first | assumption | exact if_pos rfl)), by (first | exact rfl | assumption | (dsimp only; (repeat (refine (if_neg (by decide)).trans ?_)); first | assumption | exact if_pos rfl)), by (first | exact rfl | assumption | (dsimp only; (repeat (refine (if_neg (by decide)).trans ?_)); first | assumption | exact if_pos rfl)), ?_, by assumption⟩))
          · exact hvo
          · exact hlk.trans (if_neg (by rintro (z | z) <;> first | omega | exact any_nmem (by assumption) (List.mem_reverse.mpr z)))
          · omega
      all_goals exact absurd hrest (by decide)
  · rintro h' tk' m' l' F' N' ⟨op, gr, b, t1, oo, vo, no, rfl, hvo, hlk, b1, b2, b3, b4, hop, ap⟩
    rw [hp.len, List.drop_length] at hlk
    cases op with
    | nil =>
      cases hvo
      cases e <;> dsimp only [Ls.st] at b1 <;> k_steps
      all_goals (((refine hret _ _ _ [(_, tup2 _ (.int gr _)), (_, lst _ _)] (by assumption) (sub_news (by assumption) (InAll.two (by k_mem) (by k_mem))) (rest_keeps (by assumption) NR offR (by assumption)) (rest_lt NR) ⟨_, _, _, _, rfl, rfl, ?_⟩)); rw [hlk]; first | exact ⟨rfl, rfl⟩ | exact ⟨rfl, _, rfl⟩)
    | cons d op =>
      rw [List.reverse_cons] at hvo
      obtain ⟨vo', t, rfl, hvo'⟩ : ∃ vo' t, vo = vo' ++ [.int d t] ∧ IntsAre vo' op.reverse := ints_snoc hvo
      have hne : (vo' ++ [Value.int d t]).isEmpty = false := by cases vo' <;> rfl
      have hne2 : (!(vo' ++ [Value.int d t]).isEmpty) = true := by cases vo' <;> rfl
      cases e <;> dsimp only [Ls.st] at b1 <;> k_steps
      all_goals first
        | (((refine hret _ _ _ [(_, tup2 _ (.int gr _)), (_, lst _ _)] (by assumption) (sub_news (by assumption) (InAll.two (by k_mem) (by k_mem))) (rest_keeps (by assumption) NR offR (by assumption)) (rest_lt NR) ⟨_, _, _, _, rfl, rfl, ?_⟩)); rw [hlk]; exact ⟨rfl, _, rfl⟩)
        | (exfalso; simp_all; done)
end
end
section
noncomputable def cdOf (x : PySem.Str) : List Int := x.cps.toList.map fun n : Nat => (n : Int)
theorem cdOf_app (x y : PySem.Str) : cdOf (x ++ y) = cdOf x ++ cdOf y := by
  show List.map _ (x.cps ++ y.cps).toList = _
  rw [Array.toList_append, List.map_append]; rfl
theorem st_cd (p : Pc) : cdOf p.st = p.cd := by cases p <;> rfl
theorem ls_cd (e : Ls) : cdOf e.st = e.cd := by cases e <;> rfl
theorem join_cd : ∀ ps : List Pc, cdOf (PySem.Str.join (PySem.Str.ofString "") (ps.map Pc.st)) = (ps.map Pc.cd).flatten
  | [] => rfl
  | [p] => by simpa [PySem.Str.join] using st_cd p
  | p :: q :: r => by
    have ih := join_cd (q :: r)
    show cdOf (p.st ++ PySem.Str.ofString "" ++ PySem.Str.join (PySem.Str.ofString "") ((q :: r).map Pc.st)) = _
    rw [cdOf_app, cdOf_app, ih, st_cd]
    show p.cd ++ [] ++ _ = _
    rw [List.append_nil]; rfl
theorem cds_eq (ps : List Pc) (e : Ls) : cds ps e = (ps.map Pc.cd).flatten ++ e.cd := by
  induction ps with
  | nil => rfl
  | cons p ps ih => show p.cd ++ cds ps e = _; rw [ih, List.map_cons, List.flatten_cons, List.append_assoc]
theorem text_cd (ps : List Pc) (e : Ls) : cdOf (PySem.Str.join (PySem.Str.ofString "") (ps.map Pc.st) ++ e.st) = cds ps e := by
  rw [cdOf_app, join_cd, ls_cd, cds_eq]
theorem ascii_of {x : PySem.Str} {ns : List Int} (h : cdOf x = ns) (ha : ∀ n ∈ ns, 0 ≤ n ∧ n < 128) : x.cps.all (· < 128) = true := by
  rw [Array.all_eq_true_iff_forall_mem]
  intro n hn
  have := ha (n : Int) (by rw [← h]; exact List.mem_map_of_mem (Array.mem_toList_iff.mpr hn))
  simp; omega
end
section
theorem PcsAre.strs {vs : List Value} {ps : List Pc} (a : PcsAre vs ps) : StrsAre vs (ps.map Pc.st) := by
  induction a with
  | nil => exact .nil
  | cons p t _ ih => exact .cons _ _ ih
theorem st_len (p : Pc) : p.st.length ≤ 7 := by cases p <;> decide
theorem ls_len (e : Ls) : e.st.length ≤ 4 := by cases e <;> decide
theorem sum_len : ∀ ps : List Pc, ((ps.map Pc.st).map (·.length)).sum ≤ 7 * ps.length
  | [] => Nat.le_refl _
  | p :: ps => by
    have ih := sum_len ps
    have h := st_len p
    simp only [List.map_cons, List.sum_cons, List.length_cons] at *
    omega
theorem join_len (ps : List Pc) : (PySem.Str.join (PySem.Str.ofString "") (ps.map Pc.st)).length ≤ 7 * ps.length := by
  have e : (cdOf (PySem.Str.join (PySem.Str.ofString "") (ps.map Pc.st))).length = (PySem.Str.join (PySem.Str.ofString "") (ps.map Pc.st)).length := by
    unfold cdOf
    rw [List.length_map, Array.length_toList]; rfl
  rw [← e, join_cd]
  induction ps with
  | nil => exact Nat.le_refl _
  | cons p ps ih =>
    have h := (cd_asc p).1
    rw [List.map_cons, List.flatten_cons, List.length_append, List.length_cons]
    have ih' := ih (by unfold cdOf; rw [List.length_map, Array.length_toList]; rfl)
    omega
theorem joins_eq (x : PySem.Str) (ys : List PySem.Str) : Txt.join x ys = PySem.Str.join x ys := eq_of_beq (join_closes (sep := x) (sep' := x) (ys := ys) rfl)
section
variable {prog : Program} {w : World} {A : Around} {E : Value → Shared → Prop} {s : Shared}
theorem join_pcs {D : Addr} {vs : List Value} {ps : List Pc} {t : Tok} {Q : Value → Shared → Prop} (hl : s.heap.IsList D vs.toArray) (a : PcsAre vs ps) (hz : ps.length ≤ 100)
    (h : ∀ t' k, Q (.str (PySem.Str.join (PySem.Str.ofString "") (ps.map Pc.st)) t') { s with toks := k }) : wpAny (model prog w) A (call (.builtin "str.join") [.str (PySem.Str.ofString "") t, .ref D]) Q E s :=
  join_list hl (by simpa using a.strs) (by have := sum_len ps; have e : (PySem.Str.ofString "").length = 0 := by decide +kernel
                                           rw [e, Nat.mul_zero]; omega) (fun t' k => by rw [joins_eq]; exact h t' k)
theorem add_last {ps : List Pc} {e : Ls} {t u : Tok} {Q : Value → Shared → Prop} (hz : ps.length ≤ 100)
    (h : ∀ t' k, Q (.str (PySem.Str.join (PySem.Str.ofString "") (ps.map Pc.st) ++ e.st) t') { s with toks := k }) : wpAny (model prog w) A (binaryOp .Add (.str (PySem.Str.join (PySem.Str.ofString "") (ps.map Pc.st)) t) (.str e.st u)) Q E s :=
  PyProof.Rows.add_str h (by have := join_len ps; have := ls_len e; rw [PySem.sizeLine_eq]; omega)
theorem piece_item {value slice : PySem.Expr} {l : Addr} {vs : List Value} {ps : List Pc} {k : Int} {u : Tok} {Q : Value → Shared → Prop}
    (hl : s.heap.IsList l vs.toArray) (a : PcsAre vs ps) (h0 : 0 ≤ k) (hk : k < (ps.length : Int)) (hz : ps.length ≤ 100) (h : ∀ (p : Pc) (t : Tok), Q (.str p.st t) s)
    (hs : subscripted slice false (.ref l) (.int k u) = operate [.ref l, .int k u] (getItem (.ref l) (.int k u))) :
    wpAny (model prog w) A (subscriptTail value slice (.ref l) (.int k u)) Q E s := by
  have hlt : k.toNat < vs.length := by rw [a.len]; omega
  obtain ⟨v, hv⟩ : ∃ v, vs[k.toNat]? = some v := ⟨_, List.getElem?_eq_getElem hlt⟩
  obtain ⟨p, t, _, rfl⟩ := a.at hv
  exact tail_any hl.typeIs PySem.F.slot_list_getitem.lookup (wpAny_getItem_list hl h0 (by omega) (by simpa using hv) (h p t)) hs
/-- the six ends -/
inductive LsAre : List Value → List Ls → Prop
  | nil : LsAre [] []
  | cons (p : Ls) (t : Tok) {vs : List Value} {ps : List Ls} (r : LsAre vs ps) : LsAre (.str p.st t :: vs) (p :: ps)
theorem LsAre.len {vs : List Value} {ps : List Ls} (a : LsAre vs ps) : vs.length = ps.length := by
  induction a with
  | nil => rfl
  | cons p t _ ih => rw [List.length_cons, List.length_cons, ih]
theorem LsAre.at {vs : List Value} {ps : List Ls} (a : LsAre vs ps) : ∀ {i : Nat} {v : Value}, vs[i]? = some v → ∃ p t, v = .str (Ls.st p) t := by
  induction a with
  | nil => intro i v h; cases h
  | cons p t _ ih =>
    intro i v h
    cases i with
    | zero => cases h; exact ⟨p, t, rfl⟩
    | succ i => exact ih h
theorem last_of {value slice : PySem.Expr} {l : Addr} {vs : List Value} {ps : List Ls} {k : Int} {u : Tok} {Q : Value → Shared → Prop}
    (hl : s.heap.IsList l vs.toArray) (a : LsAre vs ps) (h0 : 0 ≤ k) (hk : k < (ps.length : Int)) (hz : ps.length ≤ 100) (h : ∀ (p : Ls) (t : Tok), Q (.str p.st t) s)
    (hs : subscripted slice false (.ref l) (.int k u) = operate [.ref l, .int k u] (getItem (.ref l) (.int k u))) :
    wpAny (model prog w) A (subscriptTail value slice (.ref l) (.int k u)) Q E s := by
  have hlt : k.toNat < vs.length := by rw [a.len]; omega
  obtain ⟨v, hv⟩ : ∃ v, vs[k.toNat]? = some v := ⟨_, List.getElem?_eq_getElem hlt⟩
  obtain ⟨p, t, rfl⟩ := a.at hv
  exact tail_any hl.typeIs PySem.F.slot_list_getitem.lookup (wpAny_getItem_list hl h0 (by omega) (by simpa using hv) (h p t)) hs
theorem lk_ok (e : Ls) : ∀ (ps : List Pc) (op : List Int) (gr : Int) (m : PySem.Str) (g : Int), lk ps op gr e = (some m, g) → PyData.strOk m = true := by
  have ok (x : PySem.Str) (hx : PyData.strOk x = true) {m : PySem.Str} {g gr : Int} (h : ((some x, gr) : Option PySem.Str × Int) = (some m, g)) : PyData.strOk m = true := by
    cases h; exact hx
  intro ps
  induction ps with
  | nil =>
    intro op gr m g h
    cases e with
    | no =>
      simp only [lk] at h
      split at h
      · cases h
      · exact ok _ (by decide +kernel) h
    | bs => exact ok _ (by decide +kernel) h
    | c3 => exact ok _ (by decide +kernel) h
    | c3x => exact ok _ (by decide +kernel) h
  | cons p ps ih =>
    intro op gr m g h
    cases p with
    | cl =>
      cases op with
      | nil => exact ok _ (by decide +kernel) h
      | cons d op => exact ih _ _ _ _ h
    | b1 =>
      simp only [lk] at h
      split at h
      · exact ok _ (by decide +kernel) h
      · exact ih _ _ _ _ h
    | b2 =>
      simp only [lk] at h
      split at h
      · exact ok _ (by decide +kernel) h
      · exact ih _ _ _ _ h
    | c21 => exact ok _ (by decide +kernel) h
    | sq => exact ok _ (by decide +kernel) h
    | sx => exact ok _ (by decide +kernel) h
    | z0 => exact ok _ (by decide +kernel) h
    | ox => exact ok _ (by decide +kernel) h
    | cg => exact ok _ (by decide +kernel) h
    | _ => exact ih _ _ _ _ h
/-- the told list is the due one -/
theorem ne_told {r1 r2 : Addr} {o : Out} {vs ws : List Value} {Q : Value → Shared → Prop} (h1 : s.heap.IsList r1 vs.toArray) (h2 : s.heap.IsList r2 ws.toArray) (t1 : ToldIs o vs) (t2 : ToldIs o ws) (hm : ∀ m, o = .err m → PyData.strOk m = true) (hu : A.units + 64 < cLine) (h : Q (.bool false) s) :
    wpAny (model prog w) A (compareOp .NotEq (.ref r1) (.ref r2)) Q E s := by
  obtain ⟨o1, e1, c1, n1, d1⟩ := h1
  obtain ⟨o2, e2, c2, n2, d2⟩ := h2
  cases o with
  | read g =>
    obtain ⟨a, b, rfl⟩ := t1
    obtain ⟨a', b', rfl⟩ := t2
    refine ne_dataH (.list e1 c1 d1 (.cons (.str _ _) (.cons (.int _ _) .nil))) (.list e2 c2 d2 (.cons (.str _ _) (.cons (.int _ _) .nil))) (by
      have e : PyData.strOk (sS "read") = true := by decide +kernel
      simp [SeqAt.shaped, PyData.canLay0, PyData.canLayAll0, PyData.depth, PyData.depthAll, e]) (by
      have e : PyData.strOk (sS "read") = true := by decide +kernel
      simp [SeqAt.shaped, PyData.canLay0, PyData.canLayAll0, PyData.depth, PyData.depthAll, e]) hu ?_
    simpa [PyData.eqv, PyData.eqvAll] using h
  | err m =>
    obtain ⟨a, b, rfl⟩ := t1
    obtain ⟨a', b', rfl⟩ := t2
    refine ne_dataH (.list e1 c1 d1 (.cons (.str _ _) (.cons (.str _ _) .nil))) (.list e2 c2 d2 (.cons (.str _ _) (.cons (.str _ _) .nil))) (by
      have e : PyData.strOk (sS "invalid-regexp") = true := by decide +kernel
      simp [SeqAt.shaped, PyData.canLay0, PyData.canLayAll0, PyData.depth, PyData.depthAll, e, hm m rfl]) (by
      have e : PyData.strOk (sS "invalid-regexp") = true := by decide +kernel
      simp [SeqAt.shaped, PyData.canLay0, PyData.canLayAll0, PyData.depth, PyData.depthAll, e, hm m rfl]) hu ?_
    simpa [PyData.eqv, PyData.eqvAll] using h
end
end
section
variable {w : World} {mean : ExcName → Option Value} {mg mb : PySem.Str → Option Value} {p dp fl f df nl dn c : Addr} {ph fh : Nat → Int} {pt ft : Nat → Tok} {pl gr nu : Int} {t1 t2 t3 t4 : Tok} {wd : PySem.Str} {lo : Bool} {fs nodes ds : List Value} {n1 n2 n3 : Nat} {vs : List Value} {ns : List Int} {rest : Led}
theorem rows_at39 : True := by
  k_with_none
  k_with "m:k_ne" => ((refine neN ?_; (try dsimp only); first | exact Ap.ne (by assumption) | exact Ap.swap (by assumption) | exact off_ne (by assumption) (by k_mem) | exact (off_ne (by assumption) (by k_mem)).symm | omega))
  k_with "m:k_all" => (first | exact Off.all (by assumption) | exact off_lt (by first | assumption | simp only [*]))
  k_with "m:size_fits" => ((simp only [List.size_toArray, PySem.sizeLine_eq]; omega))
  k_with "subscriptTail" => ((k_here; (with_reducible show wpAny _ _ (subscriptTail _ _ (Value.ref _) (Value.int (-1) _)) _ _ _); (with_unfolding_all refine' last_item ?k1 ?k2 ?_ ?k3; (case k1 => first | is_list | exact News.isList (by k_asm) (by k_mem)); (case k2 => assumption); (case k3 => with_unfolding_all rfl); k_whole)))
  k_with "exec Raise some none" => ((k_here; refine raise_D rfl ?_))
  k_with "call ref" => ((k_here; (with_reducible show wpAny _ _ (call (Value.ref 70) [Value.str _ _]) _ _ _); k_dflt (refine' bad_made ?k1 ?k2 ?k3 ?k4 ?k5 ?k6 ?k7 ?k8 ?_; (case k1 => k_asm); (case k2 => k_asm); (case k3 => k_asm); (case k4 => k_asm); (case k5 => k_asm); (case k6 => rfl); (case k7 => ktr_room); (case k8 => ktr_units); k_whole; intro e'z news'z h'z tk'z F'z N'z hin'z hX'z; (try k_sweep))))
  k_with "RaiseEnd" => ((k_here; refine raiseEnd_ (by k_asm) (by k_asm) (by k_asm) (by assumption) ?_))
  k_with "leaving ref" => ((k_here; first | (refine' leave_firstD ?k1 ?k2 ?k3 ?k4 ?k5 ?k6 ?_; (case k4 => assumption); (case k1 => assumption); (case k2 => assumption); (case k3 => k_asm); (case k5 => exact rfl); (case k6 => exact rfl); k_whole; intro h'z R'z; (try dsimp only at R'z ⊢)) | (refine' leave_onD ?k1 ?k2 ?kF ?k3 ?_; (case k3 => assumption); (case k1 => exact rfl); (case k2 => exact rfl); (case kF => assumption); k_whole; intro h'z R'z; (try dsimp only at R'z ⊢))))
  k_with "m:is_list" => (exact News.isList (by k_asm) (by k_mem))
  k_with "call builtin:len" => ((k_here; (with_reducible show wpAny _ _ (call (Value.builtin "len") [Value.ref _]) _ _ _); k_dflt (refine' len_led ?k1 ?k2 ?_; (case k1 => exact News.isList (by k_asm) (by k_mem)); (case k2 => ((try simp only [List.length_append, List.length_cons, List.length_nil] at *); omega)); intro t'z t2'z)))
  k_with "compareOp Eq ref ref" => ((k_here; (with_reducible show wpAny _ _ (compareOp CmpOp.Eq (Value.ref _) (Value.ref _)) _ _ _); k_dflt (refine' eq_empty ?k1 ?k2 ?k3 ?_; (case k1 => exact News.isList (by k_asm) (by k_mem)); (case k2 => exact News.isList (by k_asm) (by k_mem)); (case k3 => ktr_units))))
  k_with "call type:tuple" => ((k_here; (with_reducible show wpAny _ _ (call (Value.type _) [Value.ref _]) _ _ _); k_dflt (refine' tuple_led ?k1 ?k2 ?k3 ?k4 ?_; (case k1 => k_asm); (case k2 => k_asm); (case k3 => exact News.isList (by k_asm) (by k_mem)); (case k4 => ((try simp only [List.length_append, List.length_cons, List.length_nil] at *); omega)); k_whole; intro l'z h'z F'z N'z; (try k_sweep))))
  k_with "binaryOp Add ref ref" => ((k_here; (with_reducible show wpAny _ _ (binaryOp _ (Value.ref _) (Value.ref _)) _ _ _); k_dflt (refine' add_led ?k1 ?k2 ?k3 ?k5 ?k4 ?_; (case k1 => k_asm); (case k2 => k_asm); (case k3 => exact News.isList (by k_asm) (by k_mem)); (case k5 => exact News.isList (by k_asm) (by k_mem)); (case k4 => ((try simp only [List.length_append, List.length_cons, List.length_nil] at *); omega)); k_whole; intro l'z h'z F'z N'z l1; (try k_lt l1); (try k_sweep))))
  k_with "subscriptTail" => ((k_here; (with_reducible show wpAny _ _ (subscriptTail _ _ (Value.ref _) (Value.int 0 _)) _ _ _); (with_unfolding_all refine' first_item ?k1 ?k2 ?_ ?k3; (case k1 => exact News.isList (by k_asm) (by k_mem)); (case k2 => omega); (case k3 => with_unfolding_all rfl); k_whole; intro x'z)))
  k_with "call builtin:list.append" => ((k_here; (with_reducible show wpAny _ _ (call (Value.builtin _) [Value.ref _, _]) _ _ _); k_dflt (refine' append_led ?k1 ?k2 ?k3 ?k4 ?_; (case k1 => k_asm); (case k2 => k_asm); (case k3 => k_upd); (case k4 => ((try simp only [List.length_append, List.length_cons, List.length_nil] at *); omega)); k_whole); intro h'z F'z N'z; (try k_sweep)))
  k_with "ite" => ((k_closed; k_dflt (first | refine ite_pos (by decide +kernel) ?_ | refine ite_neg (by decide +kernel) ?_)))
  k_with "ite" => ((k_here; first | refine ite_pos (by with_reducible assumption) ?_ | refine ite_neg (ntt (by with_reducible assumption)) ?_))
  k_with "m:ktn_open" => (((repeat (refine InAll.cons (by k_mem) ?_)); (repeat (refine InAll.skip ?_)); exact InAll.refl _))
  k_with "call builtin:list.pop" => ((k_here; (with_reducible show wpAny _ _ (call (Value.builtin _) [Value.ref _]) _ _ _); k_dflt (refine' pop_end ?k1 ?k2 ?k3 ?k4 ?_; (case k1 => k_asm); (case k2 => k_asm); (case k3 => k_upd); (case k4 => ((try simp only [List.length_append, List.length_cons, List.length_nil] at *); omega)); k_whole); intro h'z F'z N'z; (try k_sweep)))
  k_with "eval Constant int" => ((k_here; refine const_int_mk ?_))
  k_with "eval Constant str" => ((k_here; refine const_str_mk ?_))
  k_with "binaryOp Add int int" => ((k_here; refine add_int_mk ?_))
  k_with "binaryOp Sub int int" => ((k_here; refine sub_int_mk ?_))
  trivial
section
/-- the six addresses of the law differ -/
structure Six (dk c0 c1 c2 c3 pk : Addr) : Prop where
  a1 : Ap dk c0
  a2 : Ap dk c1
  a3 : Ap dk c2
  a4 : Ap dk c3
  a5 : Ap dk pk
  a6 : Ap c0 c1
  a7 : Ap c0 c2
  a8 : Ap c0 c3
  a9 : Ap c0 pk
  b1 : Ap c1 c2
  b2 : Ap c1 c3
  b3 : Ap c1 pk
  b4 : Ap c2 c3
  b5 : Ap c2 pk
  b6 : Ap c3 pk
theorem lw_of {h₀ h : Heap} {L pk a1 a2 a3 dk c0 c1 c2 c3 : Addr} {b1 b2 b3 o1 o2 o3 : Obj} {pv ys : List Value} {q : Int} {tq : Tok} {n np : Nat} (N : News h₀ L h [(pk, lst pv np), (a1, b1), (a2, b2), (dk, lst [.ref c0, .int q tq] n), (c0, LCg.lst ys), (a3, b3), (c3, o3), (c2, o2), (c1, o1)]) (d1 : o1.data = .cell (some (.ref dk))) (d2 : o2.data = .cell (some (.ref pk))) {ow : Option Value} (d3 : o3.data = .cell ow) (hs : Six dk c0 c1 c2 c3 pk) (hp : PcsAre pv all25) :
    ∃ dk c0 pk pv n n0 np o1 o2 o3, PcsAre pv all25 ∧ News h₀ L h [(dk, lst [.ref c0, .int q tq] n), (c0, lst ys n0), (c1, o1), (c2, o2), (c3, o3), (pk, lst pv np)] ∧ o1.data = .cell (some (.ref dk)) ∧ o2.data = .cell (some (.ref pk)) ∧ o3.data = .cell ow ∧ Six dk c0 c1 c2 c3 pk :=
  ⟨dk, c0, pk, pv, _, _, _, o1, o2, o3, hp, sub_news N (InAll.cons (by k_mem) (InAll.cons (by k_mem) (InAll.cons (by k_mem) (InAll.cons (by k_mem) (InAll.cons (by k_mem) (InAll.cons (by k_mem) InAll.nil)))))), d1, d2, d3, hs⟩
/-- what holds between two turns of the law -/
noncomputable def LwJ (dk c0 c1 c2 c3 pk : Addr) (o1 o2 : Obj) (ys pv : List Value) (n0 np : Nat) (i : Nat) (l' : Led) : Prop :=
  ∃ q tq n o3 ow, l' = [(dk, lst [.ref c0, .int q tq] n), (c0, lst ys n0), (c1, o1), (c2, o2), (c3, o3), (pk, lst pv np)] ∧ 0 ≤ q ∧ q ≤ 10 * (i : Int) ∧ o3.data = .cell ow
/-- what holds between two picks of the comprehension -/
noncomputable def CpJ (I : Addr) (oI : Obj) (dk c0 c1 c2 c3 pk : Addr) (o1 o2 o3 : Obj) (ys pv : List Value) (n0 np : Nat) (q : Int) (i : Nat) (vs : List Value) (l' : Led) : Prop :=
  (∃ ps : List Pc, ps.length = i ∧ PcsAre vs ps) ∧ ∃ q' tq n, l' = [(I, oI), (dk, lst [.ref c0, .int q' tq] n), (c0, lst ys n0), (c1, o1), (c2, o2), (c3, o3), (pk, lst pv np)] ∧ q ≤ q' ∧ q' ≤ q + (i : Int)
theorem off6 {a b c d e f I : Addr} {o1 o2 o3 o4 o5 o6 p1 p2 p3 p4 p5 p6 : Obj} (h : ∀ p ∈ [(a, o1), (b, o2), (c, o3), (d, o4), (e, o5), (f, o6)], p.1 ≠ I) : ∀ p ∈ [(a, p1), (b, p2), (c, p3), (d, p4), (e, p5), (f, p6)], p.1 ≠ I := by
  intro p hp
  simp only [List.mem_cons, List.not_mem_nil, or_false] at hp
  rcases hp with rfl | rfl | rfl | rfl | rfl | rfl
  · exact h (a, o1) (.head _)
  · exact h (b, o2) (.tail _ (.head _))
  · exact h (c, o3) (.tail _ (.tail _ (.head _)))
  · exact h (d, o4) (.tail _ (.tail _ (.tail _ (.head _))))
  · exact h (e, o5) (.tail _ (.tail _ (.tail _ (.tail _ (.head _)))))
  · exact h (f, o6) (.tail _ (.tail _ (.tail _ (.tail _ (.tail _ (.head _))))))
theorem off3_all {I C D : Addr} : ∀ {nw : Led}, LCg.Off3 I C D nw → ∀ p ∈ nw, Ap p.1 I ∧ Ap p.1 C ∧ Ap p.1 D
  | [], _ => List.forall_mem_nil _
  | _ :: _, h => List.forall_mem_cons.mpr ⟨h.1, off3_all h.2⟩
theorem off1_all {D : Addr} : ∀ {nw : Led}, LCg.Off1 D nw → ∀ p ∈ nw, Ap p.1 D
  | [], _ => List.forall_mem_nil _
  | _ :: _, h => List.forall_mem_cons.mpr ⟨h.1, off1_all h.2⟩
theorem apLt {a b : Addr} (h : a < b) : Ap a b := Nat.ne_of_lt h
theorem nn_q {q r : Int} (h0 : 0 ≤ q) (h : q + 1 ≤ r) : 0 ≤ r := by omega
theorem up_q {q r : Int} {i m k : Nat} (h : q ≤ 10 * (i : Int)) (hi : i < 3) (hr : r ≤ q + 1 + (k : Int)) (hm : k < m) (h9 : m ≤ 8) : r ≤ 1000 := by omega
theorem up_q2 {q r : Int} {i m : Nat} (h : q ≤ 10 * (i : Int)) (hi : i < 3) (hr : r ≤ q + 1 + (m : Int)) (h9 : m ≤ 8) : r ≤ 1000 := by omega
theorem up_n {q r : Int} {i m : Nat} (h : q ≤ 10 * (i : Int)) (hr : r ≤ q + 1 + (m : Int)) (h9 : m ≤ 8) : r + 1 ≤ 10 * ((i + 1 : Nat) : Int) := by omega
theorem nn_n {r : Int} (h : 0 ≤ r) : 0 ≤ r + 1 := by omega
theorem le_100 {n m : Nat} (h : n = m) (h8 : m ≤ 8) : n ≤ 100 := by omega
theorem le_900 {ps : List Pc} {e : Ls} {m : Nat} (h : ps.length = m) (h8 : m ≤ 8) : (cds ps e).length ≤ 900 := by have := (cds_asc ps e).1; omega
theorem up_r {r : Int} (h0 : 0 ≤ r) (h : r < 9) : r.toNat ≤ 8 := by omega
theorem len_ok (xs : List Int) (f : Int → Int) : ((xs.take 40).map f).length ≤ 100 := by rw [List.length_map, List.length_take]; omega
theorem range9 (r : Int) (h0 : 0 ≤ r) (h1 : r < 9) : Builtin.Range.small 0 r 1 = true ∧ Builtin.Range.rangeSize 0 r 1 = ((r.toNat : Nat) : Int) := by
  have : r = 0 ∨ r = 1 ∨ r = 2 ∨ r = 3 ∨ r = 4 ∨ r = 5 ∨ r = 6 ∨ r = 7 ∨ r = 8 := by omega
  rcases this with rfl | rfl | rfl | rfl | rfl | rfl | rfl | rfl | rfl <;> exact ⟨by decide, by decide⟩
theorem rows_at40 : True := by
  k_with "CompSrc" => ((k_here; (have mk9 : HoldMark := by with_reducible assumption); clear mk9; refine hold2_ ?_))
  k_with "CompEnd" => ((k_here; (have mk9 : HoldMark := by with_reducible assumption); clear mk9; refine hold2_ ?_))
  k_with "subscriptTail" => ((k_here; (with_reducible show wpAny _ _ (subscriptTail _ _ (Value.ref _) (Value.int _ _)) _ _ _); refine hold2_ ?_))
  k_with "ForEnd" => ((k_here; refine hold2_ ?_))
  k_with "call ref" => ((k_here; (with_reducible show wpAny _ _ (call (Value.ref 285) [_, _]) _ _ _); refine hold2_ ?_))
  k_with "call ref" => ((k_here; (with_reducible show wpAny _ _ (call (Value.ref 290) [_]) _ _ _); refine hold2_ ?_))
  k_with "call builtin:str.join" => ((k_here; refine hold2_ ?_))
  k_with "binaryOp Add str str" => ((k_here; refine hold2_ ?_))
  k_with "compareOp NotEq ref ref" => ((k_here; refine hold2_ ?_))
  k_with "exec For Name Call cons nil" => ((k_here; refine hold2_ ?_))
  k_with "call ref" => ((k_here; (with_reducible show wpAny _ _ (call (Value.ref 271) [_, _]) _ _ _); refine hold2_ ?_))
  trivial
local macro_rules | `(tactic| k_qdec) => `(tactic| decide +kernel)
theorem law_holds : PySem.Challenge.rw_np0051_01.Holds := by
  w_on
  refine holds_law said fun hws => ?_
  refine holds_open (q := viewQ) (loose := loose) (Xt := XtA) (XP := XL viewQ [])
    (Yf := Hook.obs HK) (Ya := Hook.val HK) (YP := Hook.says HK) (N := 4040) left (Hook.of HK) (Hook.keeps HK)
    (fun s e => xl_of s (Bool.and_eq_true_iff.mp e).1) XL.keeps (by rfl) (by rfl) (by rfl) (fun s e => recFacts_of (Bool.and_eq_true_iff.mp e).2) (by rfl) hws (by decide +kernel) ⟨rfl, rfl, rfl, rfl, rfl, by decide +kernel⟩ ?hw ?hc
  case hw => w_witness2
  clear hws
  k_go0
  (all_goals try k_fold)
  k_steps
  unfold Hold2
  rename Below callerA _ [] _ => KB
  rename News _ _ _ _ => NN
  rename Top _ _ _ _ _ (Shared.heap _) => TT
  have TT' : Top viewQ LO _ _ _ _ := TT
  rename Fr _ _ _ _ => FF
  rename IntsAre _ (List.map _ _) => HI
  simp only [LCg.Off1] at *
  obtain ⟨dk, c0, pk, pv, n9, n0, np, o1, o2, o39, hpc, NL, D1, D2, D3, SX⟩ := lw_of NN (by assumption) (by assumption) (by assumption) (by constructor <;> k_ne) (.cons .ca _ (.cons .dot _ (.cons .star _ (.cons .op _ (.cons .shy _ (.cons .told _ (.cons .cl _ (.cons .alt _ (.cons .bol _ (.cons .b1 _ (.cons .b2 _ (.cons .c12 _ (.cons .c21 _ (.cons .sw _ (.cons .sq _ (.cons .sy _ (.cons .sx _ (.cons .bb _ (.cons .pq _ (.cons .cl _ (.cons .z0 _ (.cons .ox _ (.cons .cg _ (.cons .c2 _ (.cons .br _ .nil)))))))))))))))))))))))))
  clear NN
  obtain ⟨x1, x2, x3, x4, x5, x6, x7, x8, x9, y1, y2, y3, y4, y5, y6⟩ := id SX
  refine for_range3 3 FF NL (by with_unfolding_all passes_own) (by rfl) ?_ (fun i m' l' => LwJ dk c0 _ _ _ pk _ _ _ pv n0 np i l') ⟨_, _, _, _, _, rfl, by decide, by decide, by assumption⟩ ?_ ?_
  · k_steps
    refine PySem.call_range_1 ?_
    refine ⟨_, _, _, _, _, _, _, rfl, rfl, PySem.IsRange.new _ _ _ _ _ _ _, by decide, by decide, ?_, ?_⟩
    · exact FF.keeps fun _ _ e => Heap.get?_push_of_some _ e
    · exact NL.grown fun _ _ e => Heap.get?_push_of_some _ e
  · rintro i t m₁ l₁ I oI h₁ tk₁ hi ⟨q, tq, n, o3, ow, rfl, hq0, hq1, h3⟩ off F₁ N₁
    have i1 : Ap dk I := off _ (.head _)
    have i2 : Ap c0 I := off _ (.tail _ (.head _))
    k_steps
    unfold Hold2
    refine' CtrR.use (draw_c HI ?hz ?hq0 ?hq2 ?hM ?ap) ?rest KB ?kF ?kX ?kN ?I1 ?I2 ?off ?kT ?kk ?kd ?ku ?_
    case kF => assumption
    case kX => assumption
    case kN => assumption
    case I1 => exact InAll.two (.tail _ (.head _)) (.tail _ (.tail _ (.head _)))
    case I2 => exact InAll.cons (.head _) (InAll.cons (.tail _ (.tail _ (.tail _ (.head _)))) (InAll.cons (.tail _ (.tail _ (.tail _ (.tail _ (.head _))))) (InAll.cons (.tail _ (.tail _ (.tail _ (.tail _ (.tail _ (.head _)))))) (InAll.cons (.tail _ (.tail _ (.tail _ (.tail _ (.tail _ (.tail _ (.head _))))))) InAll.nil))))
    case off => (((repeat' (first | exact List.forall_mem_nil _ | refine List.forall_mem_cons.mpr ⟨?_, ?_⟩)); (all_goals k_ne)))
    case hz => rw [List.length_map, List.length_take]; omega
    case hq0 => exact hq0
    case hq2 => omega
    case hM => decide
    case ap => k_ne
    case kT => exact TT'
    case kk => exact rfl
    case kd => ktr_room
    case ku => ktr_units
    rintro v h' tk' led' F' N' lt ⟨r, t5, tq5, n5, hr0, hr1, rfl, rfl⟩
    have mk : HoldMark := trivial
    k_steps
    unfold Hold2
    obtain ⟨hsm, hn⟩ := range9 r hr0 hr1
    rename News _ _ _ (_ ++ _) => NK
    rename Fr _ _ _ _ => FK
    rename IsRange _ _ _ _ _ _ _ _ => RK
    rename Obj => o4
    rename o4.data = _ => d4
    simp only [List.cons_append, List.nil_append] at NK
    have NK7 := sub_news NK (InAll.cons (.tail _ (.tail _ (.head _))) (InAll.cons (.head _) (InAll.cons (.tail _ (.head _)) (InAll.cons (.tail _ (.tail _ (.tail _ (.head _)))) (InAll.cons (.tail _ (.tail _ (.tail _ (.tail _ (.head _))))) (InAll.cons (.tail _ (.tail _ (.tail _ (.tail _ (.tail _ (.head _)))))) (InAll.cons (.tail _ (.tail _ (.tail _ (.tail _ (.tail _ (.tail _ (.head _))))))) InAll.nil)))))))
    clear NK
    refine LCg.CompSrc.range (n := r.toNat) (by rfl) FK NK7 RK hsm hn (by rw [PySem.sizeLine_eq]; omega) ?_
    intro g9
    refine comp_ind (CpJ I oI dk c0 _ _ _ pk o1 o2 o4 ys pv n0 np (q + 1)) ?_ ?_ r.toNat 0 [] _ (Nat.zero_add _) ⟨⟨[], rfl, .nil⟩, _, _, _, rfl, Int.le_refl _, by omega⟩
    · rintro i2 ys2 nw v2 I2 oI2 C2 oC2 D2' m2 h2 tk2 E2 hi2 ⟨t2, rfl⟩ ⟨⟨ps, hps, hys⟩, q2, tq2, n2, rfl, hq2, hq3⟩ hC hx F2 N2 off2 ne2
      have a1 : Ap dk I2 ∧ Ap dk C2 ∧ Ap dk D2' := off3_all off2 _ (.tail _ (.head _))
      have a2 : Ap c0 I2 ∧ Ap c0 C2 ∧ Ap c0 D2' := off3_all off2 _ (.tail _ (.tail _ (.head _)))
      obtain ⟨u1, u2, u3⟩ := a1
      obtain ⟨v1, v2, v3⟩ := a2
      have hM9 := up_r hr0 hr1
      have hq9 := up_q hq1 hi hq3 hi2 hM9
      have hq8 := nn_q hq0 hq2
      k_steps
      all_goals
        unfold Hold2
        refine' CtrR.use (draw_c HI ?hz ?hq0 ?hq2 ?hM ?ap) [(I2, oI2), (C2, oC2), (D2', LCg.lst ys2), (I, oI), (_, o1), (_, o2), (_, o4), (pk, lst pv np)] KB ?kF ?kX ?kN ?I1 ?I2 ?off ?kT ?kk ?kd ?ku ?_
        case kF => assumption
        case kX => assumption
        case kN => exact N2
        case I1 => exact InAll.two (by k_mem) (by k_mem)
        case I2 => ktn_open
        case off => (((repeat' (first | exact List.forall_mem_nil _ | refine List.forall_mem_cons.mpr ⟨?_, ?_⟩)); (all_goals k_ne)))
        case hz => exact len_ok _ _
        case hq0 => exact hq8
        case hq2 => exact hq9
        case hM => decide
        case ap => exact x1
        case kT => exact TT'
        case kk => exact rfl
        case kd => ktr_room
        case ku => ktr_units
        rintro v h' tk' led' F' N' lt ⟨r2, t6, tq6, n6, hr20, hr21, rfl, rfl⟩
        k_steps
        unfold Hold2
        refine' piece_item (News.isList (by assumption) ?mm) hpc hr20 ?hh (by decide) ?_ (by with_unfolding_all rfl)
        case mm => k_mem
        case hh => show r2 < (25 : Int); omega
        intro p tp
        k_steps
        unfold Hold2
        rename News _ _ _ (_ ++ _) => NE
        simp only [List.cons_append, List.nil_append] at NE
        refine LCg.CompEnd.intro (by assumption) NE [(I, oI), (dk, lst [.ref c0, .int (q2 + 1) tq6] n6), (c0, lst ys n0), (_, o1), (_, o2), (_, o4), (pk, lst pv np)] ?_ off2 trivial ⟨⟨ps ++ [p], by rw [List.length_append, hps]; rfl, hys.app (.cons p _ .nil)⟩, _, _, _, rfl, by omega, by omega⟩
        show InAll _ _
        ktn_open
    · rintro ys3 nw3 ⟨⟨ps, hps, hys⟩, q2, tq2, n2, rfl, hq2, hq3⟩
      clear mk
      unfold LCg.FinA
      intro D hh tk F N o1'
      have W := off1_all o1'
      have w0 : Ap I D := W _ (.head _)
      have w1 : Ap dk D := W _ (.tail _ (.head _))
      have w2 : Ap c0 D := W _ (.tail _ (.tail _ (.head _)))
      have w5 : Ap _ D := W _ (.tail _ (.tail _ (.tail _ (.head _))))
      have w6 : Ap _ D := W _ (.tail _ (.tail _ (.tail _ (.tail _ (.head _)))))
      have w7 : Ap _ D := W _ (.tail _ (.tail _ (.tail _ (.tail _ (.tail _ (.head _))))))
      have w8 : Ap pk D := W _ (.tail _ (.tail _ (.tail _ (.tail _ (.tail _ (.tail _ (.head _)))))))
      clear W
      simp only [LCg.Off1] at o1'
      k_steps
      unfold Hold2
      rename (_ < _) ∧ _ => LL
      rename Addr => lm
      obtain ⟨_, _, l2, l3, _⟩ := LL
      have w3 := apLt l2
      have w4 := apLt l3
      have hM9 := up_r hr0 hr1
      have hq9 := up_q2 hq1 hi hq3 hM9
      have hq8 := nn_q hq0 hq2
      refine' CtrR.use (draw_c HI ?hz ?hq0 ?hq2 ?hM ?ap) [(lm, _), (D, LCg.lst ys3), (I, oI), (_, o1), (_, o2), (_, o4), (pk, lst pv np)] KB ?kF ?kX ?kN ?I1 ?I2 ?off ?kT ?kk ?kd ?ku ?_
      case kF => assumption
      case kX => assumption
      case kN => assumption
      case I1 => exact InAll.two (by k_mem) (by k_mem)
      case I2 => ktn_open
      case off => (((repeat' (first | exact List.forall_mem_nil _ | refine List.forall_mem_cons.mpr ⟨?_, ?_⟩)); (all_goals k_ne)))
      case hz => exact len_ok _ _
      case hq0 => exact hq8
      case hq2 => exact hq9
      case hM => decide
      case ap => exact x1
      case kT => exact TT'
      case kk => exact rfl
      case kd => ktr_room
      case ku => ktr_units
      rintro v h' tk' led' F' N' lt ⟨r3, t7, tq7, n7, hr30, hr31, rfl, rfl⟩
      k_steps
      unfold Hold2
      refine' last_of (News.isList (by assumption) ?mm) (.cons .no _ (.cons .no _ (.cons .no _ (.cons .bs _ (.cons .c3 _ (.cons .c3x _ .nil)))))) hr30 hr31 (by decide) ?_ (by with_unfolding_all rfl)
      case mm => k_mem
      intro e te
      k_steps
      unfold Hold2
      have h100 := le_100 hps hM9
      refine' CtrR.use (looked_c hys h100) [(I, oI), (dk, lst [.ref c0, .int (q2 + 1) tq7] n7), (c0, lst ys n0), (_, o1), (_, o2), (_, o4), (pk, lst pv np)] KB ?kF ?kX ?kN ?I1 ?I2 ?off ?kT ?kk ?kd ?ku ?_
      case kF => assumption
      case kX => assumption
      case kN => assumption
      case I1 => exact InAll.cons (by k_mem) InAll.nil
      case I2 => ktn_open
      case off => (((repeat' (first | exact List.forall_mem_nil _ | refine List.forall_mem_cons.mpr ⟨?_, ?_⟩)); (all_goals k_ne)))
      case kT => exact TT'
      case kk => exact rfl
      case kd => ktr_room
      case ku => ktr_units
      rintro v h' tk' led' F' N' lt ⟨t9, rv, g, tk9, rfl, rfl, hg, hrv⟩
      have hrun := law_run ps e h100
      generalize hx : lk ps [] 0 e = x at hg hrv hrun
      obtain ⟨x1, x2⟩ := x
      dsimp only at hg hrv
      subst hg
      cases x1 with
      | none =>
        dsimp only at hrv
        subst hrv
        k_steps
        unfold Hold2
        refine' join_pcs (News.isList (by assumption) ?mm) hys h100 ?_
        case mm => k_mem
        intro t' k'
        k_steps
        unfold Hold2
        refine add_last h100 ?_
        intro t' k'
        k_steps
        unfold Hold2
        refine told_c hrun (text_cd ps e) (ascii_of (text_cd ps e) (cds_asc ps e).2) (le_900 hps hM9) KB (by assumption) (by assumption) (by assumption) TT' rfl (by ktr_room) (by ktr_units) ?_
        rintro r5 vs5 h5 tk5 n5 F5 N5a N5b told
        k_steps
        unfold Hold2
        refine' ne_told (News.isList N5a (.head _)) (News.isList N5b ?mm) told ?t2 ?hm ?hu ?_
        case mm => k_mem
        case t2 => exact ⟨_, _, rfl⟩
        case hm => exact fun m h => nomatch h
        case hu => first | ke_room | ktr_units
        k_steps
        unfold Hold2 ForEnd
        dsimp only
        refine ⟨_, _, _, [(dk, lst [.ref c0, .int (q2 + 1) tq7] n7), (c0, lst ys n0), (_, o1), (_, o2), (_, o4), (pk, lst pv np)], rfl, by assumption, sub_news N5b (InAll.cons (by k_mem) (InAll.cons (by k_mem) (InAll.cons (by k_mem) (InAll.cons (by k_mem) (InAll.cons (by k_mem) (InAll.cons (by k_mem) (InAll.cons (by k_mem) InAll.nil))))))), off6 off, _, _, _, _, _, rfl, nn_n hq8, up_n hq1 hq3 hM9, d4⟩
      | some msg =>
        dsimp only at hrv
        obtain ⟨tm, rfl⟩ := hrv
        k_steps
        unfold Hold2
        refine' join_pcs (News.isList (by assumption) ?mm) hys h100 ?_
        case mm => k_mem
        intro t' k'
        k_steps
        unfold Hold2
        refine add_last h100 ?_
        intro t' k'
        k_steps
        unfold Hold2
        refine told_c hrun (text_cd ps e) (ascii_of (text_cd ps e) (cds_asc ps e).2) (le_900 hps hM9) KB (by assumption) (by assumption) (by assumption) TT' rfl (by ktr_room) (by ktr_units) ?_
        rintro r5 vs5 h5 tk5 n5 F5 N5a N5b told
        k_steps
        unfold Hold2
        refine' ne_told (News.isList N5a (.head _)) (News.isList N5b ?mm) told ?t2 ?hm ?hu ?_
        case mm => k_mem
        case t2 => exact ⟨_, _, rfl⟩
        case hm => (intro m h; cases h; exact lk_ok e ps [] 0 _ _ hx)
        case hu => first | ke_room | ktr_units
        k_steps
        unfold Hold2 ForEnd
        dsimp only
        refine ⟨_, _, _, [(dk, lst [.ref c0, .int (q2 + 1) tq7] n7), (c0, lst ys n0), (_, o1), (_, o2), (_, o4), (pk, lst pv np)], rfl, by assumption, sub_news N5b (InAll.cons (by k_mem) (InAll.cons (by k_mem) (InAll.cons (by k_mem) (InAll.cons (by k_mem) (InAll.cons (by k_mem) (InAll.cons (by k_mem) (InAll.cons (by k_mem) InAll.nil))))))), off6 off, _, _, _, _, _, rfl, nn_n hq8, up_n hq1 hq3 hM9, d4⟩
  · rintro h' tk m' l' F' N' ⟨q, tq, n, o3, ow, rfl, hq0, hq1, h3⟩
    k_steps
    done
end
end
end Mine
theorem PySem.Challenge.cw_np0051_01_holds : PySem.Challenge.rw_np0051_01.Holds :=
  Mine.law_holds
