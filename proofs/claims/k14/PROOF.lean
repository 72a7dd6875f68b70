import PyProof.Rows.All
import Wide.All
import OpenK.AllK
import Wide.FinOn
import HandS.ForSpec
import HandS.ForMost
import HandS.More
import HandS.Defaults
import HandS.ExcInit
import HandS.ExcField
import HandS.IsInst
import HandS.FStr
import HandS.Style
import HandS.TupAny
import HandS.TupMul
import HandS.Conv
import HandS.Zip
import HandS.Wide
import HandS.WideMore
import HandS.Deep
import HandS.Strs
import HandS.Walk
import HandS.Head0
import HandS.Head1
import HandS.Head2
import HandS.HeadEnd
import HandS.HeadHook1
import HandS.HeadHook2
import PyProof.ReprRoads
import KE.KExcInit
import PySem.Challenge.RW_tolimit_k14_whole_programs_refused
import HandS.NoneIn
import HandS.ExcOwn
import HandS.Lambda
import HandS.ExcIs
import KE.KExcIs
set_option Elab.async false
set_option linter.all false
set_option maxRecDepth 100000
set_option maxHeartbeats 0
namespace Kw
open PySem PySem.Spec PyProof.Rows L2
/-! ### the text by places -/
def top (i : Nat) : Stmt := PySem.Challenge.pw_tolimit_k14_whole_programs_refused.main.body.getD i (.Pass ⟨0, 0, 0, 0⟩)
abbrev s_common_divisor : Stmt := top 18
abbrev s_fraction : Stmt := top 19
abbrev s_add : Stmt := top 20
abbrev s_multiply : Stmt := top 21
abbrev s_divide : Stmt := top 22
abbrev s_end_of_run : Stmt := top 42
abbrev s_token_at : Stmt := top 43
abbrev s_tokens_of : Stmt := top 44
abbrev s_is_constant : Stmt := top 45
abbrev s_scale_row : Stmt := top 46
abbrev s_is_short : Stmt := top 47
abbrev s_identity_row : Stmt := top 49
abbrev s_parse_names : Stmt := top 52
abbrev s_parse_program : Stmt := top 53
abbrev s_parse_statements : Stmt := top 54
abbrev s_law_blended : Stmt := top 67
abbrev s_law_supply : Stmt := top 68
abbrev s_law_below : Stmt := top 69
abbrev s_law_one_of : Stmt := top 70
abbrev s_law_alike : Stmt := top 71
abbrev s_law_lexed : Stmt := top 72
abbrev s_law_is_problem : Stmt := top 73
abbrev s_law_assigned : Stmt := top 74
abbrev s_law_declared : Stmt := top 75
abbrev s_law_opened : Stmt := top 76
abbrev s_law_line : Stmt := top 77
abbrev s_law_read : Stmt := top 78
abbrev s_law_outcome : Stmt := top 79
abbrev s_law_spaced : Stmt := top 80
abbrev s_law_some_lines : Stmt := top 81
abbrev s_law_changed : Stmt := top 82
abbrev s_law : Stmt := top 83
abbrev s_Token_init : Stmt := inClass (top 41) 0
abbrev s_LineParser_init : Stmt := inClass (top 48) 0
abbrev s_LineParser_peek : Stmt := inClass (top 48) 1
abbrev s_LineParser_fail : Stmt := inClass (top 48) 2
abbrev s_LineParser_take : Stmt := inClass (top 48) 3
abbrev s_LineParser_accept : Stmt := inClass (top 48) 4
abbrev s_LineParser_declared : Stmt := inClass (top 48) 5
abbrev s_LineParser_expression : Stmt := inClass (top 48) 6
abbrev s_LineParser_term : Stmt := inClass (top 48) 7
abbrev s_LineParser_joined : Stmt := inClass (top 48) 8
abbrev s_LineParser_factor : Stmt := inClass (top 48) 9
abbrev s_LineParser_assignment : Stmt := inClass (top 48) 10
abbrev s_LineParser_count_of_rounds : Stmt := inClass (top 48) 11
abbrev s_Block_init : Stmt := inClass (top 50) 0
abbrev s_ProgramParser_init : Stmt := inClass (top 51) 0
abbrev s_ProgramParser_read_line : Stmt := inClass (top 51) 1
abbrev s_ProgramParser_open_block : Stmt := inClass (top 51) 2
abbrev s_ProgramParser_finished : Stmt := inClass (top 51) 3
abbrev s_Session_init : Stmt := inClass (top 65) 0
abbrev s_Session_program : Stmt := inClass (top 65) 1
abbrev s_SyntaxProblem_init : Stmt := inClass (top 3) 0
/-! ### the defs as data -/
def d_common_divisor : He.DefD := ⟨("common_divisor", none), "common_divisor", "common_divisor", defArgs s_common_divisor, defBody s_common_divisor, defScope s_common_divisor, [], []⟩
def d_fraction : He.DefD := ⟨("fraction", none), "fraction", "fraction", defArgs s_fraction, defBody s_fraction, defScope s_fraction, [.int 1], []⟩
def d_add : He.DefD := ⟨("add", none), "add", "add", defArgs s_add, defBody s_add, defScope s_add, [], []⟩
def d_multiply : He.DefD := ⟨("multiply", none), "multiply", "multiply", defArgs s_multiply, defBody s_multiply, defScope s_multiply, [], []⟩
def d_divide : He.DefD := ⟨("divide", none), "divide", "divide", defArgs s_divide, defBody s_divide, defScope s_divide, [], []⟩
def d_end_of_run : He.DefD := ⟨("end_of_run", none), "end_of_run", "end_of_run", defArgs s_end_of_run, defBody s_end_of_run, defScope s_end_of_run, [], []⟩
def d_token_at : He.DefD := ⟨("token_at", none), "token_at", "token_at", defArgs s_token_at, defBody s_token_at, defScope s_token_at, [], []⟩
def d_tokens_of : He.DefD := ⟨("tokens_of", none), "tokens_of", "tokens_of", defArgs s_tokens_of, defBody s_tokens_of, defScope s_tokens_of, [], []⟩
def d_is_constant : He.DefD := ⟨("is_constant", none), "is_constant", "is_constant", defArgs s_is_constant, defBody s_is_constant, defScope s_is_constant, [], []⟩
def d_scale_row : He.DefD := ⟨("scale_row", none), "scale_row", "scale_row", defArgs s_scale_row, defBody s_scale_row, defScope s_scale_row, [], []⟩
def d_is_short : He.DefD := ⟨("is_short", none), "is_short", "is_short", defArgs s_is_short, defBody s_is_short, defScope s_is_short, [], []⟩
def d_identity_row : He.DefD := ⟨("identity_row", none), "identity_row", "identity_row", defArgs s_identity_row, defBody s_identity_row, defScope s_identity_row, [], []⟩
def d_parse_names : He.DefD := ⟨("parse_names", none), "parse_names", "parse_names", defArgs s_parse_names, defBody s_parse_names, defScope s_parse_names, [], []⟩
def d_parse_program : He.DefD := ⟨("parse_program", none), "parse_program", "parse_program", defArgs s_parse_program, defBody s_parse_program, defScope s_parse_program, [], []⟩
def d_parse_statements : He.DefD := ⟨("parse_statements", none), "parse_statements", "parse_statements", defArgs s_parse_statements, defBody s_parse_statements, defScope s_parse_statements, [], []⟩
def d_law_blended : He.DefD := ⟨("_law_blended", none), "_law_blended", "_law_blended", defArgs s_law_blended, defBody s_law_blended, defScope s_law_blended, [], []⟩
def d_law_supply : He.DefD := ⟨("_law_supply", none), "_law_supply", "_law_supply", defArgs s_law_supply, defBody s_law_supply, defScope s_law_supply, [], []⟩
def d_law_below : He.DefD := ⟨("_law_below", none), "_law_below", "_law_below", defArgs s_law_below, defBody s_law_below, defScope s_law_below, [], []⟩
def d_law_one_of : He.DefD := ⟨("_law_one_of", none), "_law_one_of", "_law_one_of", defArgs s_law_one_of, defBody s_law_one_of, defScope s_law_one_of, [], []⟩
def d_law_alike : He.DefD := ⟨("_law_alike", none), "_law_alike", "_law_alike", defArgs s_law_alike, defBody s_law_alike, defScope s_law_alike, [], []⟩
def d_law_lexed : He.DefD := ⟨("_law_lexed", none), "_law_lexed", "_law_lexed", defArgs s_law_lexed, defBody s_law_lexed, defScope s_law_lexed, [], []⟩
def d_law_is_problem : He.DefD := ⟨("_law_is_problem", none), "_law_is_problem", "_law_is_problem", defArgs s_law_is_problem, defBody s_law_is_problem, defScope s_law_is_problem, [], []⟩
def d_law_assigned : He.DefD := ⟨("_law_assigned", none), "_law_assigned", "_law_assigned", defArgs s_law_assigned, defBody s_law_assigned, defScope s_law_assigned, [], []⟩
def d_law_declared : He.DefD := ⟨("_law_declared", none), "_law_declared", "_law_declared", defArgs s_law_declared, defBody s_law_declared, defScope s_law_declared, [], []⟩
def d_law_opened : He.DefD := ⟨("_law_opened", none), "_law_opened", "_law_opened", defArgs s_law_opened, defBody s_law_opened, defScope s_law_opened, [], []⟩
def d_law_line : He.DefD := ⟨("_law_line", none), "_law_line", "_law_line", defArgs s_law_line, defBody s_law_line, defScope s_law_line, [], []⟩
def d_law_read : He.DefD := ⟨("_law_read", none), "_law_read", "_law_read", defArgs s_law_read, defBody s_law_read, defScope s_law_read, [], []⟩
def d_law_outcome : He.DefD := ⟨("_law_outcome", none), "_law_outcome", "_law_outcome", defArgs s_law_outcome, defBody s_law_outcome, defScope s_law_outcome, [], []⟩
def d_law_spaced : He.DefD := ⟨("_law_spaced", none), "_law_spaced", "_law_spaced", defArgs s_law_spaced, defBody s_law_spaced, defScope s_law_spaced, [], []⟩
def d_law_some_lines : He.DefD := ⟨("_law_some_lines", none), "_law_some_lines", "_law_some_lines", defArgs s_law_some_lines, defBody s_law_some_lines, defScope s_law_some_lines, [], []⟩
def d_law_changed : He.DefD := ⟨("_law_changed", none), "_law_changed", "_law_changed", defArgs s_law_changed, defBody s_law_changed, defScope s_law_changed, [], []⟩
def d_law : He.DefD := ⟨("law", none), "law", "law", defArgs s_law, defBody s_law, defScope s_law, [], []⟩
def d_Token_init : He.DefD := ⟨("Token", some "__init__"), "__init__", "Token.__init__", defArgs s_Token_init, defBody s_Token_init, defScope s_Token_init, [], []⟩
def d_LineParser_init : He.DefD := ⟨("LineParser", some "__init__"), "__init__", "LineParser.__init__", defArgs s_LineParser_init, defBody s_LineParser_init, defScope s_LineParser_init, [], []⟩
def d_LineParser_peek : He.DefD := ⟨("LineParser", some "peek"), "peek", "LineParser.peek", defArgs s_LineParser_peek, defBody s_LineParser_peek, defScope s_LineParser_peek, [], []⟩
def d_LineParser_fail : He.DefD := ⟨("LineParser", some "fail"), "fail", "LineParser.fail", defArgs s_LineParser_fail, defBody s_LineParser_fail, defScope s_LineParser_fail, [], []⟩
def d_LineParser_take : He.DefD := ⟨("LineParser", some "take"), "take", "LineParser.take", defArgs s_LineParser_take, defBody s_LineParser_take, defScope s_LineParser_take, [.non], []⟩
def d_LineParser_accept : He.DefD := ⟨("LineParser", some "accept"), "accept", "LineParser.accept", defArgs s_LineParser_accept, defBody s_LineParser_accept, defScope s_LineParser_accept, [], []⟩
def d_LineParser_declared : He.DefD := ⟨("LineParser", some "declared"), "declared", "LineParser.declared", defArgs s_LineParser_declared, defBody s_LineParser_declared, defScope s_LineParser_declared, [], []⟩
def d_LineParser_expression : He.DefD := ⟨("LineParser", some "expression"), "expression", "LineParser.expression", defArgs s_LineParser_expression, defBody s_LineParser_expression, defScope s_LineParser_expression, [], []⟩
def d_LineParser_term : He.DefD := ⟨("LineParser", some "term"), "term", "LineParser.term", defArgs s_LineParser_term, defBody s_LineParser_term, defScope s_LineParser_term, [], []⟩
def d_LineParser_joined : He.DefD := ⟨("LineParser", some "joined"), "joined", "LineParser.joined", defArgs s_LineParser_joined, defBody s_LineParser_joined, defScope s_LineParser_joined, [], []⟩
def d_LineParser_factor : He.DefD := ⟨("LineParser", some "factor"), "factor", "LineParser.factor", defArgs s_LineParser_factor, defBody s_LineParser_factor, defScope s_LineParser_factor, [], []⟩
def d_LineParser_assignment : He.DefD := ⟨("LineParser", some "assignment"), "assignment", "LineParser.assignment", defArgs s_LineParser_assignment, defBody s_LineParser_assignment, defScope s_LineParser_assignment, [], []⟩
def d_LineParser_count_of_rounds : He.DefD := ⟨("LineParser", some "count_of_rounds"), "count_of_rounds", "LineParser.count_of_rounds", defArgs s_LineParser_count_of_rounds, defBody s_LineParser_count_of_rounds, defScope s_LineParser_count_of_rounds, [], []⟩
def d_Block_init : He.DefD := ⟨("Block", some "__init__"), "__init__", "Block.__init__", defArgs s_Block_init, defBody s_Block_init, defScope s_Block_init, [], []⟩
def d_ProgramParser_init : He.DefD := ⟨("ProgramParser", some "__init__"), "__init__", "ProgramParser.__init__", defArgs s_ProgramParser_init, defBody s_ProgramParser_init, defScope s_ProgramParser_init, [], []⟩
def d_ProgramParser_read_line : He.DefD := ⟨("ProgramParser", some "read_line"), "read_line", "ProgramParser.read_line", defArgs s_ProgramParser_read_line, defBody s_ProgramParser_read_line, defScope s_ProgramParser_read_line, [], []⟩
def d_ProgramParser_open_block : He.DefD := ⟨("ProgramParser", some "open_block"), "open_block", "ProgramParser.open_block", defArgs s_ProgramParser_open_block, defBody s_ProgramParser_open_block, defScope s_ProgramParser_open_block, [], []⟩
def d_ProgramParser_finished : He.DefD := ⟨("ProgramParser", some "finished"), "finished", "ProgramParser.finished", defArgs s_ProgramParser_finished, defBody s_ProgramParser_finished, defScope s_ProgramParser_finished, [], []⟩
def d_Session_init : He.DefD := ⟨("Session", some "__init__"), "__init__", "Session.__init__", defArgs s_Session_init, defBody s_Session_init, defScope s_Session_init, [], []⟩
def d_Session_program : He.DefD := ⟨("Session", some "program"), "program", "Session.program", defArgs s_Session_program, defBody s_Session_program, defScope s_Session_program, [], []⟩
def d_SyntaxProblem_init : He.DefD := ⟨("SyntaxProblem", some "__init__"), "__init__", "SyntaxProblem.__init__", defArgs s_SyntaxProblem_init, defBody s_SyntaxProblem_init, defScope s_SyntaxProblem_init, [], []⟩
def fn0 : List He.DefD := [d_common_divisor, d_fraction, d_add, d_multiply, d_divide, d_end_of_run, d_token_at, d_tokens_of, d_is_constant, d_scale_row, d_is_short, d_identity_row]
def fn1 : List He.DefD := [d_parse_names, d_parse_program, d_parse_statements, d_law_blended, d_law_supply, d_law_below, d_law_one_of, d_law_alike, d_law_lexed, d_law_is_problem, d_law_assigned, d_law_declared]
def fn2 : List He.DefD := [d_law_opened, d_law_line, d_law_read, d_law_outcome, d_law_spaced, d_law_some_lines, d_law_changed, d_law, d_Token_init, d_LineParser_init, d_LineParser_peek, d_LineParser_fail]
def fn3 : List He.DefD := [d_LineParser_take, d_LineParser_accept, d_LineParser_declared, d_LineParser_expression, d_LineParser_term, d_LineParser_joined, d_LineParser_factor, d_LineParser_assignment, d_LineParser_count_of_rounds, d_Block_init, d_ProgramParser_init, d_ProgramParser_read_line]
def fn4 : List He.DefD := [d_ProgramParser_open_block, d_ProgramParser_finished, d_Session_init, d_Session_program, d_SyntaxProblem_init]
def fn : List He.DefD := fn0 ++ fn1 ++ fn2 ++ fn3 ++ fn4
/-! ### the facts -/
def fa0 : List He.Fa := [.glo "common_divisor", .glo "fraction", .glo "add", .glo "multiply", .glo "divide", .glo "end_of_run", .glo "token_at", .glo "tokens_of", .glo "is_constant", .glo "scale_row", .glo "is_short", .glo "identity_row", .glo "parse_names", .glo "parse_program", .glo "parse_statements", .glo "_law_blended"]
def fa1 : List He.Fa := [.glo "_law_supply", .glo "_law_below", .glo "_law_one_of", .glo "_law_alike", .glo "_law_lexed", .glo "_law_is_problem", .glo "_law_assigned", .glo "_law_declared", .glo "_law_opened", .glo "_law_line", .glo "_law_read", .glo "_law_outcome", .glo "_law_spaced", .glo "_law_some_lines", .glo "_law_changed", .glo "law"]
def fa2 : List He.Fa := [.glo "Token", .glo "LineParser", .glo "Block", .glo "ProgramParser", .glo "Session", .glo "SyntaxProblem", .glo "BadCertificate", .glo "InvalidCommand", .glo "InvalidNumber", .glo "NoLimit", .glo "NoMark", .glo "NoStatement", .glo "NotOneToOne", .glo "TooLarge", .glo "TooMany", .glo "ZeroDivisor"]
def fa3 : List He.Fa := [.glo "ToLimitError", .glo "ZERO", .glo "ONE", .glo "KEYWORDS", .glo "SYMBOLS", .free "len", .free "abs", .free "max", .free "int", .free "tuple", .free "range", .free "enumerate", .free "zip", .free "all", .free "isinstance", .free "repr"]
def fa4 : List He.Fa := [.free "ValueError", .int "MAX_DIGITS" 6, .int "NUMBER_LIMIT" 1000000, .int "MAX_NAME" 8, .int "MAX_VARIABLES" 4, .int "MAX_STATEMENTS" 30, .int "MAX_DEPTH" 4, .int "MAX_ROUNDS" 50, .int "MAX_TOKENS" 150, .int "MAX_LINES" 80, .int "MAX_NESTING" 20, .str "DIGITS" "0123456789", .str "SMALL" "abcdefghijklmnopqrstuvwxyz", .str "END" "end of line", .cls "Token", .mkr "Token"]
def fa5 : List He.Fa := [.noat "Token" "kind", .noat "Token" "spelling", .noat "Token" "column", .cls "LineParser", .mkr "LineParser", .noat "LineParser" "number", .noat "LineParser" "names", .noat "LineParser" "tokens", .noat "LineParser" "index", .noat "LineParser" "nesting", .meth "LineParser" "peek", .meth "LineParser" "fail", .meth "LineParser" "take", .meth "LineParser" "accept", .meth "LineParser" "declared", .meth "LineParser" "expression"]
def fa6 : List He.Fa := [.meth "LineParser" "term", .meth "LineParser" "joined", .meth "LineParser" "factor", .meth "LineParser" "assignment", .meth "LineParser" "count_of_rounds", .cls "Block", .mkr "Block", .noat "Block" "head", .noat "Block" "rounds", .noat "Block" "inner", .cls "ProgramParser", .mkr "ProgramParser", .noat "ProgramParser" "names", .noat "ProgramParser" "blocks", .noat "ProgramParser" "count", .meth "ProgramParser" "read_line"]
def fa7 : List He.Fa := [.meth "ProgramParser" "open_block", .meth "ProgramParser" "finished", .cls "Session", .mkr "Session", .noat "Session" "present", .noat "Session" "marks", .meth "Session" "program", .exm "SyntaxProblem" "ToLimitError" true, .exm "SyntaxProblem" "SyntaxProblem" true]
def fa : List He.Fa := fa0 ++ fa1 ++ fa2 ++ fa3 ++ fa4 ++ fa5 ++ fa6 ++ fa7
/-- the class of an own error with its own __init__ over a chain that ends in ValueError -/
def oexB (K : PySem.W.Frag) (C : Addr) : Bool := (match K.lookup C with
  | some ⟨.type "type", _, .cls cd, sl⟩ => (match cd.mro, sl.toList with
    | .ref D :: bm, [_, _, _, _, some (.builtin n), _] => D == C && (n == "ValueError.__new__" && (!cd.hasDel && (cd.hasDict && PySem.HandSPX.refsVE bm)))
    | _, _ => false)
  | _ => false) && (decide (PySem.W.findIn K (.ref C) "__setattr__" = some (some (.builtin "object.__setattr__"))) && (decide (PySem.W.subIn K (.ref C) (.type "BaseException") = some true) &&
    (decide (PySem.W.typeIn K (.ref C) = some (.type "type")) && PySem.W.keepIn K (.ref C))))
theorem oexB_ok {K : PySem.W.Frag} {C : Addr} (h : oexB K C = true) : OexC K C := by
  obtain ⟨h0, h1⟩ := He.ba h
  obtain ⟨h2, h3⟩ := He.ba h1
  obtain ⟨h4, h5⟩ := He.ba h3
  obtain ⟨h6, h7⟩ := He.ba h5
  refine ⟨?_, of_decide_eq_true h2, of_decide_eq_true h4, of_decide_eq_true h6, h7⟩
  split at h0
  · rename_i dd cd sl ho
    split at h0
    · rename_i D bm k0 k1 k2 k3 n k5 hm hs
      obtain ⟨a1, a2⟩ := He.ba h0
      obtain ⟨a3, a4⟩ := He.ba a2
      obtain ⟨a5, a6⟩ := He.ba a4
      obtain ⟨a7, a8⟩ := He.ba a6
      have e1 : D = C := beq_iff_eq.mp a1
      have e2 : n = "ValueError.__new__" := beq_iff_eq.mp a3
      obtain ⟨nm, bs, mro, ns, qn, hd, sn, sub, ab, col, del⟩ := cd
      dsimp only at hm a5 a7
      subst e1 e2 hm
      have e3 : del = false := by simpa using a5
      subst e3 a7
      have hsl : sl = #[k0, k1, k2, k3, some (.builtin "ValueError.__new__"), k5] := by
        obtain ⟨l⟩ := sl
        simp only at hs
        rw [hs]
      subst hsl
      exact ⟨nm, qn, ns, bs, bm, sn, sub, ab, col, dd, k0, k1, k2, k3, k5, ho, a8⟩
    · cases h0
  · cases h0
def eqF (a : Option PySem.W.CFound) (id : String) : Bool := match a with
  | some (.val (.builtin n)) => n == id
  | _ => false
theorem eqF_ok {a : Option PySem.W.CFound} {id : String} (h : eqF a id = true) : a = some (.val (.builtin id)) := by
  unfold eqF at h
  split at h
  · rw [beq_iff_eq.mp h]
  · cases h
/-- a tuple of texts or of ints by the module's name -/
def cSyn (K : PySem.W.Frag) : Addr := He.ga K "SyntaxProblem"
def cTol (K : PySem.W.Frag) : Addr := He.ga K "ToLimitError"
def refs (K : PySem.W.Frag) (l : List Str) : List Value := l.map fun x => Value.ref (He.ga K x)
def err1 : List Str := ["BadCertificate", "InvalidCommand", "InvalidNumber", "NoLimit", "NoMark", "NoStatement", "NotOneToOne"]
def err2 : List Str := ["TooLarge", "TooMany", "ZeroDivisor"]
def exL (K : PySem.W.Frag) : List Bool := [
  oexB K (cSyn K),
  xfB K (cSyn K),
  decide (PySem.W.findIn K (.ref (cSyn K)) "__init__" = some (some (.ref (He.ma K (cSyn K) "__init__")))),
  decide (PySem.W.typeIn K (.ref (He.ma K (cSyn K) "__init__")) = some (.type "function")),
  decide (PySem.W.findIn K (.ref (cSyn K)) "line" = some none),
  decide (PySem.W.findIn K (.ref (cSyn K)) "column" = some none),
  PySem.W.readsIn K (cTol K) (.type "type"),
  decide (PySem.W.specialIn K (.ref (cTol K)) "__getattribute__" = some (some (.builtin "type.__getattribute__"))),
  eqF (PySem.W.findCls K (.ref (cTol K)) (.type "type") "__init__") "ValueError.__init__",
  decide (PySem.W.kitAny K (.ref (cSyn K)) (refs K err1) = some false),
  decide (PySem.W.kitAny K (.ref (cSyn K)) (refs K err2) = some false),
  decide (PySem.W.kitOne K (.ref (cSyn K)) (.ref (cSyn K)) = some true),
  decide (PySem.W.kitOne K (.ref (cSyn K)) (.type "ValueError") = some true),
  decide (PySem.W.findIn K (.ref (cSyn K)) "__class__" = some (some (.builtin "object.__class__"))),
  decide (PySem.W.specialIn K (.builtin "object.__class__") "__get__" = some (some (.builtin "getset_descriptor.__get__"))),
  decide (PySem.W.takesIn K (.builtin "object.__class__") = some true),
  decide (PySem.W.mroIn K (cSyn K) (.type "object") = some true),
  He.tupB K "ZERO" [.int 0, .int 1],
  He.tupB K "ONE" [.int 1, .int 1],
  He.tupB K "KEYWORDS" [.str "vars", .str "repeat", .str "forever", .str "mean", .str "end"],
  He.tupB K "SYMBOLS" [.str ":=", .str "+", .str "-", .str "*", .str "/", .str "(", .str ")", .str ","]]
theorem all_get {l : List Bool} (h : l.all id = true) (i : Nat) {b : Bool} (e : l[i]? = some b := by rfl) : b = true := List.all_eq_true.mp h b (List.mem_of_getElem? e)
theorem tup_ok {K : PySem.W.Frag} {x : Str} {vs : List He.Dv} (h : He.tupB K x vs = true) (H : Hp) : SqT K H (He.ga K x) (vs.map (He.Dv.v K)) := He.tupB_ok h H
theorem int_of {K : PySem.W.Frag} {h : Heap} {mg : Str → Option Value} (X : K.In h) (G : h.Ns mainGlobals mg) {x : Str} {i : Int} (c : (He.Fa.int x i).ok K = true) : ∃ u, mg x = some u ∧ RelV (.int i) u := by
  obtain ⟨t, e⟩ := He.int_ok X G c
  exact ⟨_, e, t, rfl⟩
theorem str_of {K : PySem.W.Frag} {h : Heap} {mg : Str → Option Value} (X : K.In h) (G : h.Ns mainGlobals mg) {x z : Str} (c : (He.Fa.str x z).ok K = true) : ∃ u, mg x = some u ∧ RelV (.str z) u := by
  obtain ⟨t, e⟩ := He.str_ok X G c
  exact ⟨_, e, t, rfl⟩
/-- a def's function object -/
def fdAt (K : PySem.W.Frag) (p : Str × Option Str) (fd : FuncData) : Prop := True
/-! ### what the walk asks of the top -/
structure Tx (K : PySem.W.Frag) (mg : Str → Option Value) : Type where
  g_common_divisor : mg "common_divisor" = some (.ref (He.ga K "common_divisor"))
  g_fraction : mg "fraction" = some (.ref (He.ga K "fraction"))
  g_add : mg "add" = some (.ref (He.ga K "add"))
  g_multiply : mg "multiply" = some (.ref (He.ga K "multiply"))
  g_divide : mg "divide" = some (.ref (He.ga K "divide"))
  g_end_of_run : mg "end_of_run" = some (.ref (He.ga K "end_of_run"))
  g_token_at : mg "token_at" = some (.ref (He.ga K "token_at"))
  g_tokens_of : mg "tokens_of" = some (.ref (He.ga K "tokens_of"))
  g_is_constant : mg "is_constant" = some (.ref (He.ga K "is_constant"))
  g_scale_row : mg "scale_row" = some (.ref (He.ga K "scale_row"))
  g_is_short : mg "is_short" = some (.ref (He.ga K "is_short"))
  g_identity_row : mg "identity_row" = some (.ref (He.ga K "identity_row"))
  g_parse_names : mg "parse_names" = some (.ref (He.ga K "parse_names"))
  g_parse_program : mg "parse_program" = some (.ref (He.ga K "parse_program"))
  g_parse_statements : mg "parse_statements" = some (.ref (He.ga K "parse_statements"))
  g_law_blended : mg "_law_blended" = some (.ref (He.ga K "_law_blended"))
  g_law_supply : mg "_law_supply" = some (.ref (He.ga K "_law_supply"))
  g_law_below : mg "_law_below" = some (.ref (He.ga K "_law_below"))
  g_law_one_of : mg "_law_one_of" = some (.ref (He.ga K "_law_one_of"))
  g_law_alike : mg "_law_alike" = some (.ref (He.ga K "_law_alike"))
  g_law_lexed : mg "_law_lexed" = some (.ref (He.ga K "_law_lexed"))
  g_law_is_problem : mg "_law_is_problem" = some (.ref (He.ga K "_law_is_problem"))
  g_law_assigned : mg "_law_assigned" = some (.ref (He.ga K "_law_assigned"))
  g_law_declared : mg "_law_declared" = some (.ref (He.ga K "_law_declared"))
  g_law_opened : mg "_law_opened" = some (.ref (He.ga K "_law_opened"))
  g_law_line : mg "_law_line" = some (.ref (He.ga K "_law_line"))
  g_law_read : mg "_law_read" = some (.ref (He.ga K "_law_read"))
  g_law_outcome : mg "_law_outcome" = some (.ref (He.ga K "_law_outcome"))
  g_law_spaced : mg "_law_spaced" = some (.ref (He.ga K "_law_spaced"))
  g_law_some_lines : mg "_law_some_lines" = some (.ref (He.ga K "_law_some_lines"))
  g_law_changed : mg "_law_changed" = some (.ref (He.ga K "_law_changed"))
  g_law : mg "law" = some (.ref (He.ga K "law"))
  g_Token : mg "Token" = some (.ref (He.ga K "Token"))
  g_LineParser : mg "LineParser" = some (.ref (He.ga K "LineParser"))
  g_Block : mg "Block" = some (.ref (He.ga K "Block"))
  g_ProgramParser : mg "ProgramParser" = some (.ref (He.ga K "ProgramParser"))
  g_Session : mg "Session" = some (.ref (He.ga K "Session"))
  g_SyntaxProblem : mg "SyntaxProblem" = some (.ref (He.ga K "SyntaxProblem"))
  g_BadCertificate : mg "BadCertificate" = some (.ref (He.ga K "BadCertificate"))
  g_InvalidCommand : mg "InvalidCommand" = some (.ref (He.ga K "InvalidCommand"))
  g_InvalidNumber : mg "InvalidNumber" = some (.ref (He.ga K "InvalidNumber"))
  g_NoLimit : mg "NoLimit" = some (.ref (He.ga K "NoLimit"))
  g_NoMark : mg "NoMark" = some (.ref (He.ga K "NoMark"))
  g_NoStatement : mg "NoStatement" = some (.ref (He.ga K "NoStatement"))
  g_NotOneToOne : mg "NotOneToOne" = some (.ref (He.ga K "NotOneToOne"))
  g_TooLarge : mg "TooLarge" = some (.ref (He.ga K "TooLarge"))
  g_TooMany : mg "TooMany" = some (.ref (He.ga K "TooMany"))
  g_ZeroDivisor : mg "ZeroDivisor" = some (.ref (He.ga K "ZeroDivisor"))
  g_ToLimitError : mg "ToLimitError" = some (.ref (He.ga K "ToLimitError"))
  g_ZERO : mg "ZERO" = some (.ref (He.ga K "ZERO"))
  g_ONE : mg "ONE" = some (.ref (He.ga K "ONE"))
  g_KEYWORDS : mg "KEYWORDS" = some (.ref (He.ga K "KEYWORDS"))
  g_SYMBOLS : mg "SYMBOLS" = some (.ref (He.ga K "SYMBOLS"))
  z_len : mg "len" = none
  z_abs : mg "abs" = none
  z_max : mg "max" = none
  z_int : mg "int" = none
  z_tuple : mg "tuple" = none
  z_range : mg "range" = none
  z_enumerate : mg "enumerate" = none
  z_zip : mg "zip" = none
  z_all : mg "all" = none
  z_isinstance : mg "isinstance" = none
  z_repr : mg "repr" = none
  z_ValueError : mg "ValueError" = none
  c_MAX_DIGITS : ∃ u, mg "MAX_DIGITS" = some u ∧ RelV (.int 6) u
  c_NUMBER_LIMIT : ∃ u, mg "NUMBER_LIMIT" = some u ∧ RelV (.int 1000000) u
  c_MAX_NAME : ∃ u, mg "MAX_NAME" = some u ∧ RelV (.int 8) u
  c_MAX_VARIABLES : ∃ u, mg "MAX_VARIABLES" = some u ∧ RelV (.int 4) u
  c_MAX_STATEMENTS : ∃ u, mg "MAX_STATEMENTS" = some u ∧ RelV (.int 30) u
  c_MAX_DEPTH : ∃ u, mg "MAX_DEPTH" = some u ∧ RelV (.int 4) u
  c_MAX_ROUNDS : ∃ u, mg "MAX_ROUNDS" = some u ∧ RelV (.int 50) u
  c_MAX_TOKENS : ∃ u, mg "MAX_TOKENS" = some u ∧ RelV (.int 150) u
  c_MAX_LINES : ∃ u, mg "MAX_LINES" = some u ∧ RelV (.int 80) u
  c_MAX_NESTING : ∃ u, mg "MAX_NESTING" = some u ∧ RelV (.int 20) u
  c_DIGITS : ∃ u, mg "DIGITS" = some u ∧ RelV (.str "0123456789") u
  c_SMALL : ∃ u, mg "SMALL" = some u ∧ RelV (.str "abcdefghijklmnopqrstuvwxyz") u
  c_END : ∃ u, mg "END" = some u ∧ RelV (.str "end of line") u
  cl_Token : Cls K (He.ga K "Token")
  mk_Token : Mk K (He.ga K "Token") (He.ma K (He.ga K "Token") "__init__")
  na_Token_kind : NoAttr K (He.ga K "Token") "kind"
  na_Token_spelling : NoAttr K (He.ga K "Token") "spelling"
  na_Token_column : NoAttr K (He.ga K "Token") "column"
  cl_LineParser : Cls K (He.ga K "LineParser")
  mk_LineParser : Mk K (He.ga K "LineParser") (He.ma K (He.ga K "LineParser") "__init__")
  na_LineParser_number : NoAttr K (He.ga K "LineParser") "number"
  na_LineParser_names : NoAttr K (He.ga K "LineParser") "names"
  na_LineParser_tokens : NoAttr K (He.ga K "LineParser") "tokens"
  na_LineParser_index : NoAttr K (He.ga K "LineParser") "index"
  na_LineParser_nesting : NoAttr K (He.ga K "LineParser") "nesting"
  me_LineParser_peek : Meth K (He.ga K "LineParser") "peek" (He.ma K (He.ga K "LineParser") "peek")
  me_LineParser_fail : Meth K (He.ga K "LineParser") "fail" (He.ma K (He.ga K "LineParser") "fail")
  me_LineParser_take : Meth K (He.ga K "LineParser") "take" (He.ma K (He.ga K "LineParser") "take")
  me_LineParser_accept : Meth K (He.ga K "LineParser") "accept" (He.ma K (He.ga K "LineParser") "accept")
  me_LineParser_declared : Meth K (He.ga K "LineParser") "declared" (He.ma K (He.ga K "LineParser") "declared")
  me_LineParser_expression : Meth K (He.ga K "LineParser") "expression" (He.ma K (He.ga K "LineParser") "expression")
  me_LineParser_term : Meth K (He.ga K "LineParser") "term" (He.ma K (He.ga K "LineParser") "term")
  me_LineParser_joined : Meth K (He.ga K "LineParser") "joined" (He.ma K (He.ga K "LineParser") "joined")
  me_LineParser_factor : Meth K (He.ga K "LineParser") "factor" (He.ma K (He.ga K "LineParser") "factor")
  me_LineParser_assignment : Meth K (He.ga K "LineParser") "assignment" (He.ma K (He.ga K "LineParser") "assignment")
  me_LineParser_count_of_rounds : Meth K (He.ga K "LineParser") "count_of_rounds" (He.ma K (He.ga K "LineParser") "count_of_rounds")
  cl_Block : Cls K (He.ga K "Block")
  mk_Block : Mk K (He.ga K "Block") (He.ma K (He.ga K "Block") "__init__")
  na_Block_head : NoAttr K (He.ga K "Block") "head"
  na_Block_rounds : NoAttr K (He.ga K "Block") "rounds"
  na_Block_inner : NoAttr K (He.ga K "Block") "inner"
  cl_ProgramParser : Cls K (He.ga K "ProgramParser")
  mk_ProgramParser : Mk K (He.ga K "ProgramParser") (He.ma K (He.ga K "ProgramParser") "__init__")
  na_ProgramParser_names : NoAttr K (He.ga K "ProgramParser") "names"
  na_ProgramParser_blocks : NoAttr K (He.ga K "ProgramParser") "blocks"
  na_ProgramParser_count : NoAttr K (He.ga K "ProgramParser") "count"
  me_ProgramParser_read_line : Meth K (He.ga K "ProgramParser") "read_line" (He.ma K (He.ga K "ProgramParser") "read_line")
  me_ProgramParser_open_block : Meth K (He.ga K "ProgramParser") "open_block" (He.ma K (He.ga K "ProgramParser") "open_block")
  me_ProgramParser_finished : Meth K (He.ga K "ProgramParser") "finished" (He.ma K (He.ga K "ProgramParser") "finished")
  cl_Session : Cls K (He.ga K "Session")
  mk_Session : Mk K (He.ga K "Session") (He.ma K (He.ga K "Session") "__init__")
  na_Session_present : NoAttr K (He.ga K "Session") "present"
  na_Session_marks : NoAttr K (He.ga K "Session") "marks"
  me_Session_program : Meth K (He.ga K "Session") "program" (He.ma K (He.ga K "Session") "program")
  ex_ToLimitError : PySem.W.exmOne K (.ref (He.ga K "SyntaxProblem")) (.ref (He.ga K "ToLimitError")) = some true
  ex_SyntaxProblem : PySem.W.exmOne K (.ref (He.ga K "SyntaxProblem")) (.ref (He.ga K "SyntaxProblem")) = some true
  ox : OexC K (cSyn K)
  xf : XfC K (cSyn K)
  iS : PySem.W.findIn K (.ref (cSyn K)) "__init__" = some (some (.ref (He.ma K (cSyn K) "__init__")))
  tS : PySem.W.typeIn K (.ref (He.ma K (cSyn K) "__init__")) = some (.type "function")
  nl : PySem.W.findIn K (.ref (cSyn K)) "line" = some none
  nc : PySem.W.findIn K (.ref (cSyn K)) "column" = some none
  rT : PySem.W.readsIn K (cTol K) (.type "type") = true
  sT : PySem.W.specialIn K (.ref (cTol K)) "__getattribute__" = some (some (.builtin "type.__getattribute__"))
  fT : PySem.W.findCls K (.ref (cTol K)) (.type "type") "__init__" = some (.val (.builtin "ValueError.__init__"))
  k1 : PySem.W.kitAny K (.ref (cSyn K)) (refs K err1) = some false
  k2 : PySem.W.kitAny K (.ref (cSyn K)) (refs K err2) = some false
  k3 : PySem.W.kitOne K (.ref (cSyn K)) (.ref (cSyn K)) = some true
  k4 : PySem.W.kitOne K (.ref (cSyn K)) (.type "ValueError") = some true
  k5 : PySem.W.findIn K (.ref (cSyn K)) "__class__" = some (some (.builtin "object.__class__"))
  k6 : PySem.W.specialIn K (.builtin "object.__class__") "__get__" = some (some (.builtin "getset_descriptor.__get__"))
  k7 : PySem.W.takesIn K (.builtin "object.__class__") = some true
  k8 : PySem.W.mroIn K (cSyn K) (.type "object") = some true
  t_ZERO : ∀ H : Hp, SqT K H (He.ga K "ZERO") [V.int 0, V.int 1]
  t_ONE : ∀ H : Hp, SqT K H (He.ga K "ONE") [V.int 1, V.int 1]
  t_KEYWORDS : ∀ H : Hp, SqT K H (He.ga K "KEYWORDS") [V.str "vars", V.str "repeat", V.str "forever", V.str "mean", V.str "end"]
  t_SYMBOLS : ∀ H : Hp, SqT K H (He.ga K "SYMBOLS") [V.str ":=", V.str "+", V.str "-", V.str "*", V.str "/", V.str "(", V.str ")", V.str ","]
  fd_common_divisor : FuncData
  F_common_divisor : FunD K "common_divisor" "common_divisor" (defArgs s_common_divisor) (defBody s_common_divisor) (defScope s_common_divisor) [] [] (He.ga K "common_divisor") fd_common_divisor
  fd_fraction : FuncData
  F_fraction : FunD K "fraction" "fraction" (defArgs s_fraction) (defBody s_fraction) (defScope s_fraction) [V.int 1] [] (He.ga K "fraction") fd_fraction
  fd_add : FuncData
  F_add : FunD K "add" "add" (defArgs s_add) (defBody s_add) (defScope s_add) [] [] (He.ga K "add") fd_add
  fd_multiply : FuncData
  F_multiply : FunD K "multiply" "multiply" (defArgs s_multiply) (defBody s_multiply) (defScope s_multiply) [] [] (He.ga K "multiply") fd_multiply
  fd_divide : FuncData
  F_divide : FunD K "divide" "divide" (defArgs s_divide) (defBody s_divide) (defScope s_divide) [] [] (He.ga K "divide") fd_divide
  fd_end_of_run : FuncData
  F_end_of_run : FunD K "end_of_run" "end_of_run" (defArgs s_end_of_run) (defBody s_end_of_run) (defScope s_end_of_run) [] [] (He.ga K "end_of_run") fd_end_of_run
  fd_token_at : FuncData
  F_token_at : FunD K "token_at" "token_at" (defArgs s_token_at) (defBody s_token_at) (defScope s_token_at) [] [] (He.ga K "token_at") fd_token_at
  fd_tokens_of : FuncData
  F_tokens_of : FunD K "tokens_of" "tokens_of" (defArgs s_tokens_of) (defBody s_tokens_of) (defScope s_tokens_of) [] [] (He.ga K "tokens_of") fd_tokens_of
  fd_is_constant : FuncData
  F_is_constant : FunD K "is_constant" "is_constant" (defArgs s_is_constant) (defBody s_is_constant) (defScope s_is_constant) [] [] (He.ga K "is_constant") fd_is_constant
  fd_scale_row : FuncData
  F_scale_row : FunD K "scale_row" "scale_row" (defArgs s_scale_row) (defBody s_scale_row) (defScope s_scale_row) [] [] (He.ga K "scale_row") fd_scale_row
  fd_is_short : FuncData
  F_is_short : FunD K "is_short" "is_short" (defArgs s_is_short) (defBody s_is_short) (defScope s_is_short) [] [] (He.ga K "is_short") fd_is_short
  fd_identity_row : FuncData
  F_identity_row : FunD K "identity_row" "identity_row" (defArgs s_identity_row) (defBody s_identity_row) (defScope s_identity_row) [] [] (He.ga K "identity_row") fd_identity_row
  fd_parse_names : FuncData
  F_parse_names : FunD K "parse_names" "parse_names" (defArgs s_parse_names) (defBody s_parse_names) (defScope s_parse_names) [] [] (He.ga K "parse_names") fd_parse_names
  fd_parse_program : FuncData
  F_parse_program : FunD K "parse_program" "parse_program" (defArgs s_parse_program) (defBody s_parse_program) (defScope s_parse_program) [] [] (He.ga K "parse_program") fd_parse_program
  fd_parse_statements : FuncData
  F_parse_statements : FunD K "parse_statements" "parse_statements" (defArgs s_parse_statements) (defBody s_parse_statements) (defScope s_parse_statements) [] [] (He.ga K "parse_statements") fd_parse_statements
  fd_law_blended : FuncData
  F_law_blended : FunD K "_law_blended" "_law_blended" (defArgs s_law_blended) (defBody s_law_blended) (defScope s_law_blended) [] [] (He.ga K "_law_blended") fd_law_blended
  fd_law_supply : FuncData
  F_law_supply : FunD K "_law_supply" "_law_supply" (defArgs s_law_supply) (defBody s_law_supply) (defScope s_law_supply) [] [] (He.ga K "_law_supply") fd_law_supply
  fd_law_below : FuncData
  F_law_below : FunD K "_law_below" "_law_below" (defArgs s_law_below) (defBody s_law_below) (defScope s_law_below) [] [] (He.ga K "_law_below") fd_law_below
  fd_law_one_of : FuncData
  F_law_one_of : FunD K "_law_one_of" "_law_one_of" (defArgs s_law_one_of) (defBody s_law_one_of) (defScope s_law_one_of) [] [] (He.ga K "_law_one_of") fd_law_one_of
  fd_law_alike : FuncData
  F_law_alike : FunD K "_law_alike" "_law_alike" (defArgs s_law_alike) (defBody s_law_alike) (defScope s_law_alike) [] [] (He.ga K "_law_alike") fd_law_alike
  fd_law_lexed : FuncData
  F_law_lexed : FunD K "_law_lexed" "_law_lexed" (defArgs s_law_lexed) (defBody s_law_lexed) (defScope s_law_lexed) [] [] (He.ga K "_law_lexed") fd_law_lexed
  fd_law_is_problem : FuncData
  F_law_is_problem : FunD K "_law_is_problem" "_law_is_problem" (defArgs s_law_is_problem) (defBody s_law_is_problem) (defScope s_law_is_problem) [] [] (He.ga K "_law_is_problem") fd_law_is_problem
  fd_law_assigned : FuncData
  F_law_assigned : FunD K "_law_assigned" "_law_assigned" (defArgs s_law_assigned) (defBody s_law_assigned) (defScope s_law_assigned) [] [] (He.ga K "_law_assigned") fd_law_assigned
  fd_law_declared : FuncData
  F_law_declared : FunD K "_law_declared" "_law_declared" (defArgs s_law_declared) (defBody s_law_declared) (defScope s_law_declared) [] [] (He.ga K "_law_declared") fd_law_declared
  fd_law_opened : FuncData
  F_law_opened : FunD K "_law_opened" "_law_opened" (defArgs s_law_opened) (defBody s_law_opened) (defScope s_law_opened) [] [] (He.ga K "_law_opened") fd_law_opened
  fd_law_line : FuncData
  F_law_line : FunD K "_law_line" "_law_line" (defArgs s_law_line) (defBody s_law_line) (defScope s_law_line) [] [] (He.ga K "_law_line") fd_law_line
  fd_law_read : FuncData
  F_law_read : FunD K "_law_read" "_law_read" (defArgs s_law_read) (defBody s_law_read) (defScope s_law_read) [] [] (He.ga K "_law_read") fd_law_read
  fd_law_outcome : FuncData
  F_law_outcome : FunD K "_law_outcome" "_law_outcome" (defArgs s_law_outcome) (defBody s_law_outcome) (defScope s_law_outcome) [] [] (He.ga K "_law_outcome") fd_law_outcome
  fd_law_spaced : FuncData
  F_law_spaced : FunD K "_law_spaced" "_law_spaced" (defArgs s_law_spaced) (defBody s_law_spaced) (defScope s_law_spaced) [] [] (He.ga K "_law_spaced") fd_law_spaced
  fd_law_some_lines : FuncData
  F_law_some_lines : FunD K "_law_some_lines" "_law_some_lines" (defArgs s_law_some_lines) (defBody s_law_some_lines) (defScope s_law_some_lines) [] [] (He.ga K "_law_some_lines") fd_law_some_lines
  fd_law_changed : FuncData
  F_law_changed : FunD K "_law_changed" "_law_changed" (defArgs s_law_changed) (defBody s_law_changed) (defScope s_law_changed) [] [] (He.ga K "_law_changed") fd_law_changed
  fd_law : FuncData
  F_law : FunD K "law" "law" (defArgs s_law) (defBody s_law) (defScope s_law) [] [] (He.ga K "law") fd_law
  fd_Token_init : FuncData
  F_Token_init : FunD K "__init__" "Token.__init__" (defArgs s_Token_init) (defBody s_Token_init) (defScope s_Token_init) [] [] (He.ma K (He.ga K "Token") "__init__") fd_Token_init
  fd_LineParser_init : FuncData
  F_LineParser_init : FunD K "__init__" "LineParser.__init__" (defArgs s_LineParser_init) (defBody s_LineParser_init) (defScope s_LineParser_init) [] [] (He.ma K (He.ga K "LineParser") "__init__") fd_LineParser_init
  fd_LineParser_peek : FuncData
  F_LineParser_peek : FunD K "peek" "LineParser.peek" (defArgs s_LineParser_peek) (defBody s_LineParser_peek) (defScope s_LineParser_peek) [] [] (He.ma K (He.ga K "LineParser") "peek") fd_LineParser_peek
  fd_LineParser_fail : FuncData
  F_LineParser_fail : FunD K "fail" "LineParser.fail" (defArgs s_LineParser_fail) (defBody s_LineParser_fail) (defScope s_LineParser_fail) [] [] (He.ma K (He.ga K "LineParser") "fail") fd_LineParser_fail
  fd_LineParser_take : FuncData
  F_LineParser_take : FunD K "take" "LineParser.take" (defArgs s_LineParser_take) (defBody s_LineParser_take) (defScope s_LineParser_take) [V.non] [] (He.ma K (He.ga K "LineParser") "take") fd_LineParser_take
  fd_LineParser_accept : FuncData
  F_LineParser_accept : FunD K "accept" "LineParser.accept" (defArgs s_LineParser_accept) (defBody s_LineParser_accept) (defScope s_LineParser_accept) [] [] (He.ma K (He.ga K "LineParser") "accept") fd_LineParser_accept
  fd_LineParser_declared : FuncData
  F_LineParser_declared : FunD K "declared" "LineParser.declared" (defArgs s_LineParser_declared) (defBody s_LineParser_declared) (defScope s_LineParser_declared) [] [] (He.ma K (He.ga K "LineParser") "declared") fd_LineParser_declared
  fd_LineParser_expression : FuncData
  F_LineParser_expression : FunD K "expression" "LineParser.expression" (defArgs s_LineParser_expression) (defBody s_LineParser_expression) (defScope s_LineParser_expression) [] [] (He.ma K (He.ga K "LineParser") "expression") fd_LineParser_expression
  fd_LineParser_term : FuncData
  F_LineParser_term : FunD K "term" "LineParser.term" (defArgs s_LineParser_term) (defBody s_LineParser_term) (defScope s_LineParser_term) [] [] (He.ma K (He.ga K "LineParser") "term") fd_LineParser_term
  fd_LineParser_joined : FuncData
  F_LineParser_joined : FunD K "joined" "LineParser.joined" (defArgs s_LineParser_joined) (defBody s_LineParser_joined) (defScope s_LineParser_joined) [] [] (He.ma K (He.ga K "LineParser") "joined") fd_LineParser_joined
  fd_LineParser_factor : FuncData
  F_LineParser_factor : FunD K "factor" "LineParser.factor" (defArgs s_LineParser_factor) (defBody s_LineParser_factor) (defScope s_LineParser_factor) [] [] (He.ma K (He.ga K "LineParser") "factor") fd_LineParser_factor
  fd_LineParser_assignment : FuncData
  F_LineParser_assignment : FunD K "assignment" "LineParser.assignment" (defArgs s_LineParser_assignment) (defBody s_LineParser_assignment) (defScope s_LineParser_assignment) [] [] (He.ma K (He.ga K "LineParser") "assignment") fd_LineParser_assignment
  fd_LineParser_count_of_rounds : FuncData
  F_LineParser_count_of_rounds : FunD K "count_of_rounds" "LineParser.count_of_rounds" (defArgs s_LineParser_count_of_rounds) (defBody s_LineParser_count_of_rounds) (defScope s_LineParser_count_of_rounds) [] [] (He.ma K (He.ga K "LineParser") "count_of_rounds") fd_LineParser_count_of_rounds
  fd_Block_init : FuncData
  F_Block_init : FunD K "__init__" "Block.__init__" (defArgs s_Block_init) (defBody s_Block_init) (defScope s_Block_init) [] [] (He.ma K (He.ga K "Block") "__init__") fd_Block_init
  fd_ProgramParser_init : FuncData
  F_ProgramParser_init : FunD K "__init__" "ProgramParser.__init__" (defArgs s_ProgramParser_init) (defBody s_ProgramParser_init) (defScope s_ProgramParser_init) [] [] (He.ma K (He.ga K "ProgramParser") "__init__") fd_ProgramParser_init
  fd_ProgramParser_read_line : FuncData
  F_ProgramParser_read_line : FunD K "read_line" "ProgramParser.read_line" (defArgs s_ProgramParser_read_line) (defBody s_ProgramParser_read_line) (defScope s_ProgramParser_read_line) [] [] (He.ma K (He.ga K "ProgramParser") "read_line") fd_ProgramParser_read_line
  fd_ProgramParser_open_block : FuncData
  F_ProgramParser_open_block : FunD K "open_block" "ProgramParser.open_block" (defArgs s_ProgramParser_open_block) (defBody s_ProgramParser_open_block) (defScope s_ProgramParser_open_block) [] [] (He.ma K (He.ga K "ProgramParser") "open_block") fd_ProgramParser_open_block
  fd_ProgramParser_finished : FuncData
  F_ProgramParser_finished : FunD K "finished" "ProgramParser.finished" (defArgs s_ProgramParser_finished) (defBody s_ProgramParser_finished) (defScope s_ProgramParser_finished) [] [] (He.ma K (He.ga K "ProgramParser") "finished") fd_ProgramParser_finished
  fd_Session_init : FuncData
  F_Session_init : FunD K "__init__" "Session.__init__" (defArgs s_Session_init) (defBody s_Session_init) (defScope s_Session_init) [] [] (He.ma K (He.ga K "Session") "__init__") fd_Session_init
  fd_Session_program : FuncData
  F_Session_program : FunD K "program" "Session.program" (defArgs s_Session_program) (defBody s_Session_program) (defScope s_Session_program) [] [] (He.ma K (He.ga K "Session") "program") fd_Session_program
  fd_SyntaxProblem_init : FuncData
  F_SyntaxProblem_init : FunD K "__init__" "SyntaxProblem.__init__" (defArgs s_SyntaxProblem_init) (defBody s_SyntaxProblem_init) (defScope s_SyntaxProblem_init) [] [] (He.ma K (He.ga K "SyntaxProblem") "__init__") fd_SyntaxProblem_init
/-! ### the head -/
abbrev R : PySem.W.OpenRow := PySem.W.OpenLaw.row PySem.Challenge.rw_tolimit_k14_whole_programs_refused
def obK (K : PySem.W.Frag) : He.AlD := ((He.obsD fa fn K).1 && (exL K).all id, (He.obsD fa fn K).2)
/-- the objects that the facts look at: the module's names' values, their code, defaults, names, the methods with theirs -/
def refsK (o : Obj) : List Addr := match o.data with
  | .func fd => He.refV fd.code ++ He.refV fd.defaults
  | .cls cd => [cd.ns]
  | _ => []
def nsRefs (o : Obj) : List Addr := match o.data with
  | .dict es _ => es.toList.flatMap fun e => He.refV e.val
  | _ => []
def atO (g : Addr → Option Obj) (f : Obj → List Addr) (a : Addr) : List Addr := match g a with
  | some o => f o
  | none => []
def frAd {α : Type} : List Addr → (List Addr → α) → α
  | [], k => k []
  | a :: r, k => HandSHeadRun.frNat a fun a => frAd r fun r => k (a :: r)
theorem frAd_eq {α : Type} : ∀ (l : List Addr) (k : List Addr → α), frAd l k = k l
  | [], k => rfl
  | a :: r, k => by
    show HandSHeadRun.frNat a (fun a => frAd r fun r => k (a :: r)) = k (a :: r)
    rw [HandSHeadRun.frNat_eq, frAd_eq]
def obG (g : Addr → Option Obj) : He.AlD := frAd (atO g nsRefs mainGlobals) fun r1 => frAd (r1.flatMap (atO g refsK)) fun r2 => frAd (r2.flatMap (atO g nsRefs)) fun r3 => frAd (r3.flatMap (atO g refsK)) fun r4 =>
  obK (He.frG g (mainGlobals :: cStatics :: (r1 ++ r2 ++ r3 ++ r4)))
theorem obG_eq (g : Addr → Option Obj) : ∃ as : List Addr, obG g = obK (He.frG g as) := by
  unfold obG
  rw [frAd_eq, frAd_eq, frAd_eq, frAd_eq]
  exact ⟨_, rfl⟩
def Says (K : PySem.W.Frag) : Prop := He.SaysD fa fn K ∧ (exL K).all id = true
theorem says_of {K : PySem.W.Frag} (e : obK K = He.valD fn) : Says K := by
  have e1 : ((He.obsD fa fn K).1 && (exL K).all id) = true := congrArg (fun z : He.AlD => z.1) e
  have e2 : (obK K).2 = (He.valD fn).2 := congrArg (fun z : He.AlD => z.2) e
  obtain ⟨h1, h2⟩ := He.ba e1
  exact ⟨Prod.ext h1 e2, h2⟩
abbrev hk : PySem.W.Hook where
  α := He.AlD
  obs := fun s => obG s.heap.get?
  val := fun _ => He.valD fn
  says := fun _ h => ∃ K : PySem.W.Frag, K.In h ∧ Says K
  of := fun _ s e => by
    obtain ⟨as, q⟩ := obG_eq s.heap.get?
    exact ⟨_, He.frG_in, says_of (q.symm.trans e)⟩
  keeps := fun _ _ _ ⟨K, hK, c⟩ k => ⟨K, PySem.W.Frag.In.keeps hK k, c⟩
def ob (s : PySem.W.SharedT) : He.AlD := obG (HandSHeadRun.getT s)
theorem ob_eq (s : PySem.W.SharedT) : ob s = hk.obs s.abs := by
  have e : HandSHeadRun.getT s = s.abs.heap.get? := funext (HandSHeadRun.getT_eq s)
  show obG (HandSHeadRun.getT s) = obG s.abs.heap.get?
  rw [e]
def nm0 : List PySem.Str := ["_wall", "__name__", "ToLimitError", "SyntaxProblem", "InvalidNumber", "ZeroDivisor", "BadCertificate", "NotOneToOne", "NoLimit", "TooMany", "NoStatement", "TooLarge", "NoMark", "InvalidCommand", "ZERO", "ONE", "DIGITS", "common_divisor", "fraction", "add"]
def nm1 : List PySem.Str := ["multiply", "divide", "compare", "absolute", "format_fraction", "SMALL", "KEYWORDS", "SYMBOLS", "MAX_DIGITS", "NUMBER_LIMIT", "MAX_NAME", "MAX_VARIABLES", "MAX_STATEMENTS", "MAX_DEPTH", "MAX_ROUNDS", "MAX_TOKENS", "MAX_LINES", "MAX_NESTING", "END", "Token"]
def nm2 : List PySem.Str := ["end_of_run", "token_at", "tokens_of", "is_constant", "scale_row", "is_short", "LineParser", "identity_row", "Block", "ProgramParser", "parse_names", "parse_program", "parse_statements", "format_term", "format_row", "format_assignment", "format_lines", "format_program", "count_of", "depth_of"]
def nm3 : List PySem.Str := ["rounds_of", "edited", "Session", "_law_blended", "_law_supply", "_law_below", "_law_one_of", "_law_alike", "_law_lexed", "_law_is_problem", "_law_assigned", "_law_declared", "_law_opened", "_law_line", "_law_read", "_law_outcome", "_law_spaced", "_law_some_lines", "_law_changed"]
def nms : List PySem.Str := nm0 ++ nm1 ++ nm2 ++ nm3
theorem tx_of {K : PySem.W.Frag} {h : Heap} {mg : Str → Option Value} (X : K.In h) (G : h.Ns mainGlobals mg) (c : Says K) : Nonempty (Tx K mg) := by
  obtain ⟨c, x⟩ := c
  obtain ⟨f_common_divisor, F_common_divisor⟩ := c.def_ 0 (d := d_common_divisor) rfl
  obtain ⟨f_fraction, F_fraction⟩ := c.def_ 1 (d := d_fraction) rfl
  obtain ⟨f_add, F_add⟩ := c.def_ 2 (d := d_add) rfl
  obtain ⟨f_multiply, F_multiply⟩ := c.def_ 3 (d := d_multiply) rfl
  obtain ⟨f_divide, F_divide⟩ := c.def_ 4 (d := d_divide) rfl
  obtain ⟨f_end_of_run, F_end_of_run⟩ := c.def_ 5 (d := d_end_of_run) rfl
  obtain ⟨f_token_at, F_token_at⟩ := c.def_ 6 (d := d_token_at) rfl
  obtain ⟨f_tokens_of, F_tokens_of⟩ := c.def_ 7 (d := d_tokens_of) rfl
  obtain ⟨f_is_constant, F_is_constant⟩ := c.def_ 8 (d := d_is_constant) rfl
  obtain ⟨f_scale_row, F_scale_row⟩ := c.def_ 9 (d := d_scale_row) rfl
  obtain ⟨f_is_short, F_is_short⟩ := c.def_ 10 (d := d_is_short) rfl
  obtain ⟨f_identity_row, F_identity_row⟩ := c.def_ 11 (d := d_identity_row) rfl
  obtain ⟨f_parse_names, F_parse_names⟩ := c.def_ 12 (d := d_parse_names) rfl
  obtain ⟨f_parse_program, F_parse_program⟩ := c.def_ 13 (d := d_parse_program) rfl
  obtain ⟨f_parse_statements, F_parse_statements⟩ := c.def_ 14 (d := d_parse_statements) rfl
  obtain ⟨f_law_blended, F_law_blended⟩ := c.def_ 15 (d := d_law_blended) rfl
  obtain ⟨f_law_supply, F_law_supply⟩ := c.def_ 16 (d := d_law_supply) rfl
  obtain ⟨f_law_below, F_law_below⟩ := c.def_ 17 (d := d_law_below) rfl
  obtain ⟨f_law_one_of, F_law_one_of⟩ := c.def_ 18 (d := d_law_one_of) rfl
  obtain ⟨f_law_alike, F_law_alike⟩ := c.def_ 19 (d := d_law_alike) rfl
  obtain ⟨f_law_lexed, F_law_lexed⟩ := c.def_ 20 (d := d_law_lexed) rfl
  obtain ⟨f_law_is_problem, F_law_is_problem⟩ := c.def_ 21 (d := d_law_is_problem) rfl
  obtain ⟨f_law_assigned, F_law_assigned⟩ := c.def_ 22 (d := d_law_assigned) rfl
  obtain ⟨f_law_declared, F_law_declared⟩ := c.def_ 23 (d := d_law_declared) rfl
  obtain ⟨f_law_opened, F_law_opened⟩ := c.def_ 24 (d := d_law_opened) rfl
  obtain ⟨f_law_line, F_law_line⟩ := c.def_ 25 (d := d_law_line) rfl
  obtain ⟨f_law_read, F_law_read⟩ := c.def_ 26 (d := d_law_read) rfl
  obtain ⟨f_law_outcome, F_law_outcome⟩ := c.def_ 27 (d := d_law_outcome) rfl
  obtain ⟨f_law_spaced, F_law_spaced⟩ := c.def_ 28 (d := d_law_spaced) rfl
  obtain ⟨f_law_some_lines, F_law_some_lines⟩ := c.def_ 29 (d := d_law_some_lines) rfl
  obtain ⟨f_law_changed, F_law_changed⟩ := c.def_ 30 (d := d_law_changed) rfl
  obtain ⟨f_law, F_law⟩ := c.def_ 31 (d := d_law) rfl
  obtain ⟨f_Token_init, F_Token_init⟩ := c.def_ 32 (d := d_Token_init) rfl
  obtain ⟨f_LineParser_init, F_LineParser_init⟩ := c.def_ 33 (d := d_LineParser_init) rfl
  obtain ⟨f_LineParser_peek, F_LineParser_peek⟩ := c.def_ 34 (d := d_LineParser_peek) rfl
  obtain ⟨f_LineParser_fail, F_LineParser_fail⟩ := c.def_ 35 (d := d_LineParser_fail) rfl
  obtain ⟨f_LineParser_take, F_LineParser_take⟩ := c.def_ 36 (d := d_LineParser_take) rfl
  obtain ⟨f_LineParser_accept, F_LineParser_accept⟩ := c.def_ 37 (d := d_LineParser_accept) rfl
  obtain ⟨f_LineParser_declared, F_LineParser_declared⟩ := c.def_ 38 (d := d_LineParser_declared) rfl
  obtain ⟨f_LineParser_expression, F_LineParser_expression⟩ := c.def_ 39 (d := d_LineParser_expression) rfl
  obtain ⟨f_LineParser_term, F_LineParser_term⟩ := c.def_ 40 (d := d_LineParser_term) rfl
  obtain ⟨f_LineParser_joined, F_LineParser_joined⟩ := c.def_ 41 (d := d_LineParser_joined) rfl
  obtain ⟨f_LineParser_factor, F_LineParser_factor⟩ := c.def_ 42 (d := d_LineParser_factor) rfl
  obtain ⟨f_LineParser_assignment, F_LineParser_assignment⟩ := c.def_ 43 (d := d_LineParser_assignment) rfl
  obtain ⟨f_LineParser_count_of_rounds, F_LineParser_count_of_rounds⟩ := c.def_ 44 (d := d_LineParser_count_of_rounds) rfl
  obtain ⟨f_Block_init, F_Block_init⟩ := c.def_ 45 (d := d_Block_init) rfl
  obtain ⟨f_ProgramParser_init, F_ProgramParser_init⟩ := c.def_ 46 (d := d_ProgramParser_init) rfl
  obtain ⟨f_ProgramParser_read_line, F_ProgramParser_read_line⟩ := c.def_ 47 (d := d_ProgramParser_read_line) rfl
  obtain ⟨f_ProgramParser_open_block, F_ProgramParser_open_block⟩ := c.def_ 48 (d := d_ProgramParser_open_block) rfl
  obtain ⟨f_ProgramParser_finished, F_ProgramParser_finished⟩ := c.def_ 49 (d := d_ProgramParser_finished) rfl
  obtain ⟨f_Session_init, F_Session_init⟩ := c.def_ 50 (d := d_Session_init) rfl
  obtain ⟨f_Session_program, F_Session_program⟩ := c.def_ 51 (d := d_Session_program) rfl
  obtain ⟨f_SyntaxProblem_init, F_SyntaxProblem_init⟩ := c.def_ 52 (d := d_SyntaxProblem_init) rfl
  exact ⟨{
    g_common_divisor := He.glo_ok X G (c.fact 0 (f := .glo "common_divisor") rfl),
    g_fraction := He.glo_ok X G (c.fact 1 (f := .glo "fraction") rfl),
    g_add := He.glo_ok X G (c.fact 2 (f := .glo "add") rfl),
    g_multiply := He.glo_ok X G (c.fact 3 (f := .glo "multiply") rfl),
    g_divide := He.glo_ok X G (c.fact 4 (f := .glo "divide") rfl),
    g_end_of_run := He.glo_ok X G (c.fact 5 (f := .glo "end_of_run") rfl),
    g_token_at := He.glo_ok X G (c.fact 6 (f := .glo "token_at") rfl),
    g_tokens_of := He.glo_ok X G (c.fact 7 (f := .glo "tokens_of") rfl),
    g_is_constant := He.glo_ok X G (c.fact 8 (f := .glo "is_constant") rfl),
    g_scale_row := He.glo_ok X G (c.fact 9 (f := .glo "scale_row") rfl),
    g_is_short := He.glo_ok X G (c.fact 10 (f := .glo "is_short") rfl),
    g_identity_row := He.glo_ok X G (c.fact 11 (f := .glo "identity_row") rfl),
    g_parse_names := He.glo_ok X G (c.fact 12 (f := .glo "parse_names") rfl),
    g_parse_program := He.glo_ok X G (c.fact 13 (f := .glo "parse_program") rfl),
    g_parse_statements := He.glo_ok X G (c.fact 14 (f := .glo "parse_statements") rfl),
    g_law_blended := He.glo_ok X G (c.fact 15 (f := .glo "_law_blended") rfl),
    g_law_supply := He.glo_ok X G (c.fact 16 (f := .glo "_law_supply") rfl),
    g_law_below := He.glo_ok X G (c.fact 17 (f := .glo "_law_below") rfl),
    g_law_one_of := He.glo_ok X G (c.fact 18 (f := .glo "_law_one_of") rfl),
    g_law_alike := He.glo_ok X G (c.fact 19 (f := .glo "_law_alike") rfl),
    g_law_lexed := He.glo_ok X G (c.fact 20 (f := .glo "_law_lexed") rfl),
    g_law_is_problem := He.glo_ok X G (c.fact 21 (f := .glo "_law_is_problem") rfl),
    g_law_assigned := He.glo_ok X G (c.fact 22 (f := .glo "_law_assigned") rfl),
    g_law_declared := He.glo_ok X G (c.fact 23 (f := .glo "_law_declared") rfl),
    g_law_opened := He.glo_ok X G (c.fact 24 (f := .glo "_law_opened") rfl),
    g_law_line := He.glo_ok X G (c.fact 25 (f := .glo "_law_line") rfl),
    g_law_read := He.glo_ok X G (c.fact 26 (f := .glo "_law_read") rfl),
    g_law_outcome := He.glo_ok X G (c.fact 27 (f := .glo "_law_outcome") rfl),
    g_law_spaced := He.glo_ok X G (c.fact 28 (f := .glo "_law_spaced") rfl),
    g_law_some_lines := He.glo_ok X G (c.fact 29 (f := .glo "_law_some_lines") rfl),
    g_law_changed := He.glo_ok X G (c.fact 30 (f := .glo "_law_changed") rfl),
    g_law := He.glo_ok X G (c.fact 31 (f := .glo "law") rfl),
    g_Token := He.glo_ok X G (c.fact 32 (f := .glo "Token") rfl),
    g_LineParser := He.glo_ok X G (c.fact 33 (f := .glo "LineParser") rfl),
    g_Block := He.glo_ok X G (c.fact 34 (f := .glo "Block") rfl),
    g_ProgramParser := He.glo_ok X G (c.fact 35 (f := .glo "ProgramParser") rfl),
    g_Session := He.glo_ok X G (c.fact 36 (f := .glo "Session") rfl),
    g_SyntaxProblem := He.glo_ok X G (c.fact 37 (f := .glo "SyntaxProblem") rfl),
    g_BadCertificate := He.glo_ok X G (c.fact 38 (f := .glo "BadCertificate") rfl),
    g_InvalidCommand := He.glo_ok X G (c.fact 39 (f := .glo "InvalidCommand") rfl),
    g_InvalidNumber := He.glo_ok X G (c.fact 40 (f := .glo "InvalidNumber") rfl),
    g_NoLimit := He.glo_ok X G (c.fact 41 (f := .glo "NoLimit") rfl),
    g_NoMark := He.glo_ok X G (c.fact 42 (f := .glo "NoMark") rfl),
    g_NoStatement := He.glo_ok X G (c.fact 43 (f := .glo "NoStatement") rfl),
    g_NotOneToOne := He.glo_ok X G (c.fact 44 (f := .glo "NotOneToOne") rfl),
    g_TooLarge := He.glo_ok X G (c.fact 45 (f := .glo "TooLarge") rfl),
    g_TooMany := He.glo_ok X G (c.fact 46 (f := .glo "TooMany") rfl),
    g_ZeroDivisor := He.glo_ok X G (c.fact 47 (f := .glo "ZeroDivisor") rfl),
    g_ToLimitError := He.glo_ok X G (c.fact 48 (f := .glo "ToLimitError") rfl),
    g_ZERO := He.glo_ok X G (c.fact 49 (f := .glo "ZERO") rfl),
    g_ONE := He.glo_ok X G (c.fact 50 (f := .glo "ONE") rfl),
    g_KEYWORDS := He.glo_ok X G (c.fact 51 (f := .glo "KEYWORDS") rfl),
    g_SYMBOLS := He.glo_ok X G (c.fact 52 (f := .glo "SYMBOLS") rfl),
    z_len := He.free_ok X G (c.fact 53 (f := .free "len") rfl),
    z_abs := He.free_ok X G (c.fact 54 (f := .free "abs") rfl),
    z_max := He.free_ok X G (c.fact 55 (f := .free "max") rfl),
    z_int := He.free_ok X G (c.fact 56 (f := .free "int") rfl),
    z_tuple := He.free_ok X G (c.fact 57 (f := .free "tuple") rfl),
    z_range := He.free_ok X G (c.fact 58 (f := .free "range") rfl),
    z_enumerate := He.free_ok X G (c.fact 59 (f := .free "enumerate") rfl),
    z_zip := He.free_ok X G (c.fact 60 (f := .free "zip") rfl),
    z_all := He.free_ok X G (c.fact 61 (f := .free "all") rfl),
    z_isinstance := He.free_ok X G (c.fact 62 (f := .free "isinstance") rfl),
    z_repr := He.free_ok X G (c.fact 63 (f := .free "repr") rfl),
    z_ValueError := He.free_ok X G (c.fact 64 (f := .free "ValueError") rfl),
    c_MAX_DIGITS := int_of X G (c.fact 65 (f := .int "MAX_DIGITS" 6) rfl),
    c_NUMBER_LIMIT := int_of X G (c.fact 66 (f := .int "NUMBER_LIMIT" 1000000) rfl),
    c_MAX_NAME := int_of X G (c.fact 67 (f := .int "MAX_NAME" 8) rfl),
    c_MAX_VARIABLES := int_of X G (c.fact 68 (f := .int "MAX_VARIABLES" 4) rfl),
    c_MAX_STATEMENTS := int_of X G (c.fact 69 (f := .int "MAX_STATEMENTS" 30) rfl),
    c_MAX_DEPTH := int_of X G (c.fact 70 (f := .int "MAX_DEPTH" 4) rfl),
    c_MAX_ROUNDS := int_of X G (c.fact 71 (f := .int "MAX_ROUNDS" 50) rfl),
    c_MAX_TOKENS := int_of X G (c.fact 72 (f := .int "MAX_TOKENS" 150) rfl),
    c_MAX_LINES := int_of X G (c.fact 73 (f := .int "MAX_LINES" 80) rfl),
    c_MAX_NESTING := int_of X G (c.fact 74 (f := .int "MAX_NESTING" 20) rfl),
    c_DIGITS := str_of X G (c.fact 75 (f := .str "DIGITS" "0123456789") rfl),
    c_SMALL := str_of X G (c.fact 76 (f := .str "SMALL" "abcdefghijklmnopqrstuvwxyz") rfl),
    c_END := str_of X G (c.fact 77 (f := .str "END" "end of line") rfl),
    cl_Token := He.cls_ok (c.fact 78 (f := .cls "Token") rfl),
    mk_Token := He.mkr_ok (c.fact 79 (f := .mkr "Token") rfl),
    na_Token_kind := He.noat_ok (c.fact 80 (f := .noat "Token" "kind") rfl),
    na_Token_spelling := He.noat_ok (c.fact 81 (f := .noat "Token" "spelling") rfl),
    na_Token_column := He.noat_ok (c.fact 82 (f := .noat "Token" "column") rfl),
    cl_LineParser := He.cls_ok (c.fact 83 (f := .cls "LineParser") rfl),
    mk_LineParser := He.mkr_ok (c.fact 84 (f := .mkr "LineParser") rfl),
    na_LineParser_number := He.noat_ok (c.fact 85 (f := .noat "LineParser" "number") rfl),
    na_LineParser_names := He.noat_ok (c.fact 86 (f := .noat "LineParser" "names") rfl),
    na_LineParser_tokens := He.noat_ok (c.fact 87 (f := .noat "LineParser" "tokens") rfl),
    na_LineParser_index := He.noat_ok (c.fact 88 (f := .noat "LineParser" "index") rfl),
    na_LineParser_nesting := He.noat_ok (c.fact 89 (f := .noat "LineParser" "nesting") rfl),
    me_LineParser_peek := He.meth_ok (c.fact 90 (f := .meth "LineParser" "peek") rfl),
    me_LineParser_fail := He.meth_ok (c.fact 91 (f := .meth "LineParser" "fail") rfl),
    me_LineParser_take := He.meth_ok (c.fact 92 (f := .meth "LineParser" "take") rfl),
    me_LineParser_accept := He.meth_ok (c.fact 93 (f := .meth "LineParser" "accept") rfl),
    me_LineParser_declared := He.meth_ok (c.fact 94 (f := .meth "LineParser" "declared") rfl),
    me_LineParser_expression := He.meth_ok (c.fact 95 (f := .meth "LineParser" "expression") rfl),
    me_LineParser_term := He.meth_ok (c.fact 96 (f := .meth "LineParser" "term") rfl),
    me_LineParser_joined := He.meth_ok (c.fact 97 (f := .meth "LineParser" "joined") rfl),
    me_LineParser_factor := He.meth_ok (c.fact 98 (f := .meth "LineParser" "factor") rfl),
    me_LineParser_assignment := He.meth_ok (c.fact 99 (f := .meth "LineParser" "assignment") rfl),
    me_LineParser_count_of_rounds := He.meth_ok (c.fact 100 (f := .meth "LineParser" "count_of_rounds") rfl),
    cl_Block := He.cls_ok (c.fact 101 (f := .cls "Block") rfl),
    mk_Block := He.mkr_ok (c.fact 102 (f := .mkr "Block") rfl),
    na_Block_head := He.noat_ok (c.fact 103 (f := .noat "Block" "head") rfl),
    na_Block_rounds := He.noat_ok (c.fact 104 (f := .noat "Block" "rounds") rfl),
    na_Block_inner := He.noat_ok (c.fact 105 (f := .noat "Block" "inner") rfl),
    cl_ProgramParser := He.cls_ok (c.fact 106 (f := .cls "ProgramParser") rfl),
    mk_ProgramParser := He.mkr_ok (c.fact 107 (f := .mkr "ProgramParser") rfl),
    na_ProgramParser_names := He.noat_ok (c.fact 108 (f := .noat "ProgramParser" "names") rfl),
    na_ProgramParser_blocks := He.noat_ok (c.fact 109 (f := .noat "ProgramParser" "blocks") rfl),
    na_ProgramParser_count := He.noat_ok (c.fact 110 (f := .noat "ProgramParser" "count") rfl),
    me_ProgramParser_read_line := He.meth_ok (c.fact 111 (f := .meth "ProgramParser" "read_line") rfl),
    me_ProgramParser_open_block := He.meth_ok (c.fact 112 (f := .meth "ProgramParser" "open_block") rfl),
    me_ProgramParser_finished := He.meth_ok (c.fact 113 (f := .meth "ProgramParser" "finished") rfl),
    cl_Session := He.cls_ok (c.fact 114 (f := .cls "Session") rfl),
    mk_Session := He.mkr_ok (c.fact 115 (f := .mkr "Session") rfl),
    na_Session_present := He.noat_ok (c.fact 116 (f := .noat "Session" "present") rfl),
    na_Session_marks := He.noat_ok (c.fact 117 (f := .noat "Session" "marks") rfl),
    me_Session_program := He.meth_ok (c.fact 118 (f := .meth "Session" "program") rfl),
    ex_ToLimitError := He.exm_ok (c.fact 119 (f := .exm "SyntaxProblem" "ToLimitError" true) rfl),
    ex_SyntaxProblem := He.exm_ok (c.fact 120 (f := .exm "SyntaxProblem" "SyntaxProblem" true) rfl),
    ox := oexB_ok (all_get x 0),
    xf := xfB_ok (all_get x 1),
    iS := of_decide_eq_true (all_get x 2),
    tS := of_decide_eq_true (all_get x 3),
    nl := of_decide_eq_true (all_get x 4),
    nc := of_decide_eq_true (all_get x 5),
    rT := id (all_get x 6),
    sT := of_decide_eq_true (all_get x 7),
    fT := eqF_ok (all_get x 8),
    k1 := of_decide_eq_true (all_get x 9),
    k2 := of_decide_eq_true (all_get x 10),
    k3 := of_decide_eq_true (all_get x 11),
    k4 := of_decide_eq_true (all_get x 12),
    k5 := of_decide_eq_true (all_get x 13),
    k6 := of_decide_eq_true (all_get x 14),
    k7 := of_decide_eq_true (all_get x 15),
    k8 := of_decide_eq_true (all_get x 16),
    t_ZERO := tup_ok (all_get x 17),
    t_ONE := tup_ok (all_get x 18),
    t_KEYWORDS := tup_ok (all_get x 19),
    t_SYMBOLS := tup_ok (all_get x 20),
    fd_common_divisor := f_common_divisor,
    F_common_divisor := F_common_divisor,
    fd_fraction := f_fraction,
    F_fraction := F_fraction,
    fd_add := f_add,
    F_add := F_add,
    fd_multiply := f_multiply,
    F_multiply := F_multiply,
    fd_divide := f_divide,
    F_divide := F_divide,
    fd_end_of_run := f_end_of_run,
    F_end_of_run := F_end_of_run,
    fd_token_at := f_token_at,
    F_token_at := F_token_at,
    fd_tokens_of := f_tokens_of,
    F_tokens_of := F_tokens_of,
    fd_is_constant := f_is_constant,
    F_is_constant := F_is_constant,
    fd_scale_row := f_scale_row,
    F_scale_row := F_scale_row,
    fd_is_short := f_is_short,
    F_is_short := F_is_short,
    fd_identity_row := f_identity_row,
    F_identity_row := F_identity_row,
    fd_parse_names := f_parse_names,
    F_parse_names := F_parse_names,
    fd_parse_program := f_parse_program,
    F_parse_program := F_parse_program,
    fd_parse_statements := f_parse_statements,
    F_parse_statements := F_parse_statements,
    fd_law_blended := f_law_blended,
    F_law_blended := F_law_blended,
    fd_law_supply := f_law_supply,
    F_law_supply := F_law_supply,
    fd_law_below := f_law_below,
    F_law_below := F_law_below,
    fd_law_one_of := f_law_one_of,
    F_law_one_of := F_law_one_of,
    fd_law_alike := f_law_alike,
    F_law_alike := F_law_alike,
    fd_law_lexed := f_law_lexed,
    F_law_lexed := F_law_lexed,
    fd_law_is_problem := f_law_is_problem,
    F_law_is_problem := F_law_is_problem,
    fd_law_assigned := f_law_assigned,
    F_law_assigned := F_law_assigned,
    fd_law_declared := f_law_declared,
    F_law_declared := F_law_declared,
    fd_law_opened := f_law_opened,
    F_law_opened := F_law_opened,
    fd_law_line := f_law_line,
    F_law_line := F_law_line,
    fd_law_read := f_law_read,
    F_law_read := F_law_read,
    fd_law_outcome := f_law_outcome,
    F_law_outcome := F_law_outcome,
    fd_law_spaced := f_law_spaced,
    F_law_spaced := F_law_spaced,
    fd_law_some_lines := f_law_some_lines,
    F_law_some_lines := F_law_some_lines,
    fd_law_changed := f_law_changed,
    F_law_changed := F_law_changed,
    fd_law := f_law,
    F_law := F_law,
    fd_Token_init := f_Token_init,
    F_Token_init := F_Token_init,
    fd_LineParser_init := f_LineParser_init,
    F_LineParser_init := F_LineParser_init,
    fd_LineParser_peek := f_LineParser_peek,
    F_LineParser_peek := F_LineParser_peek,
    fd_LineParser_fail := f_LineParser_fail,
    F_LineParser_fail := F_LineParser_fail,
    fd_LineParser_take := f_LineParser_take,
    F_LineParser_take := F_LineParser_take,
    fd_LineParser_accept := f_LineParser_accept,
    F_LineParser_accept := F_LineParser_accept,
    fd_LineParser_declared := f_LineParser_declared,
    F_LineParser_declared := F_LineParser_declared,
    fd_LineParser_expression := f_LineParser_expression,
    F_LineParser_expression := F_LineParser_expression,
    fd_LineParser_term := f_LineParser_term,
    F_LineParser_term := F_LineParser_term,
    fd_LineParser_joined := f_LineParser_joined,
    F_LineParser_joined := F_LineParser_joined,
    fd_LineParser_factor := f_LineParser_factor,
    F_LineParser_factor := F_LineParser_factor,
    fd_LineParser_assignment := f_LineParser_assignment,
    F_LineParser_assignment := F_LineParser_assignment,
    fd_LineParser_count_of_rounds := f_LineParser_count_of_rounds,
    F_LineParser_count_of_rounds := F_LineParser_count_of_rounds,
    fd_Block_init := f_Block_init,
    F_Block_init := F_Block_init,
    fd_ProgramParser_init := f_ProgramParser_init,
    F_ProgramParser_init := F_ProgramParser_init,
    fd_ProgramParser_read_line := f_ProgramParser_read_line,
    F_ProgramParser_read_line := F_ProgramParser_read_line,
    fd_ProgramParser_open_block := f_ProgramParser_open_block,
    F_ProgramParser_open_block := F_ProgramParser_open_block,
    fd_ProgramParser_finished := f_ProgramParser_finished,
    F_ProgramParser_finished := F_ProgramParser_finished,
    fd_Session_init := f_Session_init,
    F_Session_init := F_Session_init,
    fd_Session_program := f_Session_program,
    F_Session_program := F_Session_program,
    fd_SyntaxProblem_init := f_SyntaxProblem_init,
    F_SyntaxProblem_init := F_SyntaxProblem_init }⟩
end Kw

set_option Elab.async false
set_option linter.all false
set_option maxRecDepth 100000
set_option maxHeartbeats 4000000
namespace Kw
open PySem PySem.Spec PyProof.Rows L2
/-! ### small words over the layer -/
theorem same_new {H : Hp} {p : Addr} {o : HO} (h : H p = none) : Same H (upd H p o) := fun b u q => by rw [upd_ne (ne_of_none q h)]; exact q
/-- a new object, the heap behind it by what is known -/
theorem newT {H : Hp} {o : HO} {Q : V → Hp → Prop} (h : ∀ p H2, H p = none → Same H H2 → H2 p = some o → Q (.ref p) H2) : ∀ p, H p = none → Q (.ref p) (upd H p o) :=
  fun p hp => h p _ hp (same_new hp) upd_same
theorem newT2 {H : Hp} {o : HO} {Q : Addr → Hp → Prop} (h : ∀ p H2, H p = none → Same H H2 → H2 p = some o → Q p H2) : ∀ p, H p = none → Q p (upd H p o) :=
  fun p hp => h p _ hp (same_new hp) upd_same
theorem sz (n : Nat) (h : n ≤ 100000 := by decide) : n ≤ sizeLine := Nat.le_trans h (by decide)
theorem szl (n : Nat) (h : n ≤ 100000 := by decide) : n < sizeLine := Nat.lt_of_le_of_lt h (by decide)
section
variable {X : Cx}
theorem pe_gv {x : Str} {v : V} {pos : Pos} (hg : Gl X x) (h : ∃ u, X.mg x = some u ∧ RelV v u) (hd : (x == ("__debug__" : Str)) = false := by decide) : PE X (.Name x pos) (tC v) := by
  obtain ⟨u, hm, r⟩ := h
  exact pe_glob hg hm r hd
theorem pe_gr {x : Str} {a : Addr} {pos : Pos} (hg : Gl X x) (h : X.mg x = some (.ref a)) (hd : (x == ("__debug__" : Str)) = false := by decide) : PE X (.Name x pos) (tC (.ref a)) := pe_glob hg h rfl hd
theorem pe_fldK {K : PySem.W.Frag} {e : Expr} {ta : TE} {f : Str} {pos : Pos} (ha : PE X e ta) (hK : X.K = K) (hb : attributeBase e f X.env (eval e X.env) = eval e X.env) : PE X (.Attribute e f pos) (tFld K ta f) := by
  subst hK
  exact pe_fld ha hb
/-- len of a list or a tuple -/
def rLenQ (K : PySem.W.Frag) : List V → Hp → VK → Prop := fun xs H Q => ∃ p ys, xs = [.ref p] ∧ (SqL K H p ys ∨ SqT K H p ys) ∧ Q (.int (ys.length : Nat)) H
theorem call_lenQ {K : PySem.W.Frag} (hK : X.K = K) : CallR X (.builtin "len") (rLenQ K) := by
  subst hK
  exact call_len_seq
end
/-! ### data of tuples -/
theorem sameT {K : PySem.W.Frag} {H H' : Hp} {a : Addr} {xs : List V} (e : Same H H') (h : SqT K H a xs) : SqT K H' a xs := by
  rcases h with (h | ⟨o, h⟩) | h
  · exact .inl (.inl (e _ _ h))
  · exact .inl (.inr ⟨o, e _ _ h⟩)
  · exact .inr h
/-- what tuples say stays where the tuples stay -/
def SameT (H H' : Hp) : Prop := ∀ a xs, (H a = some (.tup xs) → H' a = some (.tup xs)) ∧ (∀ o, H a = some (.frz o (.tup xs)) → H' a = some (.frz o (.tup xs)))
theorem Same.tups {H H' : Hp} (e : Same H H') : SameT H H' := fun a xs => ⟨e a _, fun o => e a _⟩
theorem SameT.trans {H H1 H2 : Hp} (a : SameT H H1) (b : SameT H1 H2) : SameT H H2 := fun p xs => ⟨fun h => (b p xs).1 ((a p xs).1 h), fun o h => (b p xs).2 o ((a p xs).2 o h)⟩
theorem SameT.refl (H : Hp) : SameT H H := fun _ _ => ⟨id, fun _ => id⟩
theorem SameT.sq {K : PySem.W.Frag} {H H' : Hp} {a : Addr} {xs : List V} (e : SameT H H') (h : SqT K H a xs) : SqT K H' a xs := by
  rcases h with (h | ⟨o, h⟩) | h
  · exact .inl (.inl ((e a xs).1 h))
  · exact .inl (.inr ⟨o, (e a xs).2 o h⟩)
  · exact .inr h
/-- data made of None, bools, ints, texts and tuples -/
def tupled : PyData → Bool
  | .none => true
  | .bool _ => true
  | .int _ => true
  | .str _ => true
  | .tuple ds => go ds
  | _ => false
where go : List PyData → Bool
  | [] => true
  | d :: ds => tupled d && go ds
mutual
theorem dp_mono {K : PySem.W.Frag} {H H' : Hp} (e : SameT H H') : ∀ (d : PyData) (v : V), tupled d = true → Dp K H v d → Dp K H' v d
  | .none, _, _, h => by cases h; exact .non
  | .bool _, _, _, h => by cases h; exact .bl _
  | .int _, _, _, h => by cases h; exact .int _
  | .str _, _, _, h => by cases h; exact .str _
  | .tuple ds, _, t, h => by
    cases h with
    | tup h1 h2 => exact .tup (e.sq h1) (dp_monoAll e ds _ t h2)
  | .list _, _, t, _ => by cases t
  | .dict _, _, t, _ => by cases t
theorem dp_monoAll {K : PySem.W.Frag} {H H' : Hp} (e : SameT H H') : ∀ (ds : List PyData) (vs : List V), tupled.go ds = true → DpAll K H vs ds → DpAll K H' vs ds
  | [], _, _, h => by cases h; exact .nil
  | d :: ds, _, t, h => by
    have t' : (tupled d && tupled.go ds) = true := t
    rw [Bool.and_eq_true] at t'
    cases h with
    | cons h1 h2 => exact .cons (dp_mono e d _ t'.1 h1) (dp_monoAll e ds _ t'.2 h2)
end
theorem dpAll_len {K : PySem.W.Frag} {H : Hp} : ∀ {vs : List V} {ds : List PyData}, DpAll K H vs ds → vs.length = ds.length
  | _, _, .nil => rfl
  | _, _, .cons _ h => congrArg (· + 1) (dpAll_len h)
theorem dpAll_get {K : PySem.W.Frag} {H : Hp} : ∀ {vs : List V} {ds : List PyData} {i : Nat} {v : V}, DpAll K H vs ds → vs[i]? = some v → ∃ d, ds[i]? = some d ∧ Dp K H v d
  | _, _, i, v, .nil, e => by simp at e
  | _, _, 0, v, .cons h _, e => by
    have e' := Option.some.inj e
    subst e'
    exact ⟨_, rfl, h⟩
  | _, _, i + 1, v, .cons _ t, e => by
    obtain ⟨d, h1, h2⟩ := dpAll_get (i := i) (v := v) t (by simpa using e)
    exact ⟨d, by simpa using h1, h2⟩
theorem dpAll_app {K : PySem.W.Frag} {H : Hp} : ∀ {vs ws : List V} {ds es : List PyData}, DpAll K H vs ds → DpAll K H ws es → DpAll K H (vs ++ ws) (ds ++ es)
  | _, _, _, _, .nil, h => h
  | _, _, _, _, .cons a t, h => .cons a (dpAll_app t h)
theorem tupled_app : ∀ {ds es : List PyData}, tupled.go ds = true → tupled.go es = true → tupled.go (ds ++ es) = true
  | [], _, _, h => h
  | d :: ds, es, a, h => by
    have a' : (tupled d && tupled.go ds) = true := a
    rw [Bool.and_eq_true] at a'
    show (tupled d && tupled.go (ds ++ es)) = true
    rw [Bool.and_eq_true]
    exact ⟨a'.1, tupled_app a'.2 h⟩
/-- a fraction as data; a row -/
def frD (f : Int × Int) : PyData := .tuple [.int f.1, .int f.2]
def rowD (r : List (Int × Int)) : PyData := .tuple (r.map frD)
theorem frD_tup (f : Int × Int) : tupled (frD f) = true := rfl
theorem frDs_tup : ∀ r : List (Int × Int), tupled.go (r.map frD) = true
  | [] => rfl
  | f :: r => by
    show (tupled (frD f) && tupled.go (r.map frD)) = true
    rw [frD_tup, frDs_tup r] <;> rfl
theorem rowD_tup (r : List (Int × Int)) : tupled (rowD r) = true := frDs_tup r
theorem fr_of {K : PySem.W.Frag} {H : Hp} {v : V} {f : Int × Int} (h : Dp K H v (frD f)) : ∃ a, v = .ref a ∧ SqT K H a [.int f.1, .int f.2] := by
  cases h with
  | tup h1 h2 =>
    cases h2 with
    | cons a t =>
      cases t with
      | cons b t =>
        cases t
        cases a
        cases b
        exact ⟨_, rfl, h1⟩
theorem fr_mk {K : PySem.W.Frag} {H : Hp} {a : Addr} {f : Int × Int} (h : SqT K H a [.int f.1, .int f.2]) : Dp K H (.ref a) (frD f) := .tup h (.cons (.int _) (.cons (.int _) .nil))
theorem row_of {K : PySem.W.Frag} {H : Hp} {v : V} {r : List (Int × Int)} (h : Dp K H v (rowD r)) : ∃ a vs, v = .ref a ∧ SqT K H a vs ∧ DpAll K H vs (r.map frD) := by
  cases h with
  | tup h1 h2 => exact ⟨_, _, rfl, h1, h2⟩
/-! ### numbers with a bound of bits -/
def Bd (b : Nat) (n : Int) : Prop := n.natAbs < 2 ^ b
theorem Bd.mono {a b : Nat} {n : Int} (h : Bd a n) (l : a ≤ b) : Bd b n := Nat.lt_of_lt_of_le h (Nat.pow_le_pow_right (by decide) l)
theorem Bd.mul {a b : Nat} {n m : Int} (h : Bd a n) (k : Bd b m) : Bd (a + b) (n * m) := by
  unfold Bd at *
  rw [Int.natAbs_mul, Nat.pow_add]
  exact Nat.mul_lt_mul'' h k
theorem Bd.add {b : Nat} {n m : Int} (h : Bd b n) (k : Bd b m) : Bd (b + 1) (n + m) := by
  unfold Bd at *
  have e := Int.natAbs_add_le n m
  rw [Nat.pow_succ]
  omega
theorem Bd.neg {b : Nat} {n : Int} (h : Bd b n) : Bd b (-n) := by unfold Bd at *; rw [Int.natAbs_neg]; exact h
theorem bd_lt {b : Nat} {n : Int} (h0 : 0 ≤ n) (h : n < 2 ^ b) : Bd b n := by
  unfold Bd
  have e : ((n.natAbs : Nat) : Int) = n := Int.natAbs_of_nonneg h0
  have : ((n.natAbs : Nat) : Int) < ((2 ^ b : Nat) : Int) := by rw [e]; simpa using h
  exact Int.ofNat_lt.mp this
theorem Bd.wmul {a b : Nat} {n m : Int} (h : Bd a n) (k : Bd b m) (ha : 0 < a := by decide) (hb : 0 < b := by decide) (l : a + b ≤ 1000000 := by decide) : CMulW n m := wide_mul h k ha hb l
theorem Bd.wdiv {b : Nat} {n m : Int} (h0 : 0 < m) (k : Bd b m) (hb : 0 < b := by decide) (l : b ≤ 9000 := by decide) : CDivW n m := wide_div h0 k hb l
end Kw

set_option Elab.async false
set_option linter.all false
set_option maxRecDepth 100000
set_option maxHeartbeats 4000000
namespace Kw
open PySem PySem.Spec PyProof.Rows L2
/-! ### fractions: the mirror -/
def frM (n d : Int) : Int × Int := ((if d < 0 then -1 else 1) * n / (Int.gcd n d : Int), (if d < 0 then -1 else 1) * d / (Int.gcd n d : Int))
def addM (f g : Int × Int) : Int × Int := frM (f.1 * g.2 + g.1 * f.2) (f.2 * g.2)
def mulM (f g : Int × Int) : Int × Int := frM (f.1 * g.1) (f.2 * g.2)
def divM (f g : Int × Int) : Int × Int := frM (f.1 * g.2) (f.2 * g.1)
/-- a fraction of so many bits -/
structure FrOk (b : Nat) (f : Int × Int) : Prop where
  n : Bd b f.1
  d : Bd b f.2
  p : 0 < f.2
theorem FrOk.mono {a b : Nat} {f : Int × Int} (h : FrOk a f) (l : a ≤ b) : FrOk b f := ⟨h.n.mono l, h.d.mono l, h.p⟩
theorem gcd_step (i j : Int) : Int.gcd j (i.fmod j) = Int.gcd i j := by
  rw [Int.fmod_def, Int.gcd_comm i j]
  exact Int.gcd_sub_mul_left_right j i (i.fdiv j)
theorem fmod_less (i j : Int) (h : j ≠ 0) : (i.fmod j).natAbs < j.natAbs := by
  rcases Int.lt_or_gt_of_ne h with h | h
  · have h1 : (-i).fmod (-j) = -(i.fmod j) := by rw [Int.neg_fmod_neg]
    have h2 := Int.fmod_nonneg_of_pos (-i) (show 0 < -j by omega)
    have h3 := Int.fmod_lt_of_pos (-i) (show 0 < -j by omega)
    omega
  · have h1 := Int.fmod_nonneg_of_pos i h
    have h2 := Int.fmod_lt_of_pos i h
    omega
theorem sgn_abs (n d : Int) : ((if d < 0 then -1 else 1) * n).natAbs = n.natAbs := by
  by_cases h : d < 0
  · rw [if_pos h, Int.natAbs_mul] <;> simp
  · rw [if_neg h, Int.natAbs_mul] <;> simp
theorem div_bd {b : Nat} {n g : Int} (h : Bd b n) (hg : 0 < g) : Bd b (n / g) := by
  have e := Int.natAbs_ediv_le_natAbs n g
  exact Nat.lt_of_le_of_lt e h
theorem frM_ok {b : Nat} {n d : Int} (hn : Bd b n) (hd : Bd b d) (h0 : d ≠ 0) : FrOk b (frM n d) := by
  have g0 : 0 < (Int.gcd n d : Int) := by
    have := Int.gcd_pos_of_ne_zero_right n h0
    omega
  refine ⟨div_bd ?_ g0, div_bd ?_ g0, ?_⟩
  · unfold Bd; rw [sgn_abs]; exact hn
  · unfold Bd; rw [sgn_abs]; exact hd
  · show 0 < (if d < 0 then -1 else 1) * d / (Int.gcd n d : Int)
    have dv : (Int.gcd n d : Int) ∣ (if d < 0 then -1 else 1) * d := Int.dvd_mul_of_dvd_right (Int.gcd_dvd_right n d)
    have p : 0 < (if d < 0 then -1 else 1) * d := by
      by_cases h : d < 0
      · rw [if_pos h]; omega
      · rw [if_neg h]; omega
    exact Int.ediv_pos_of_pos_of_dvd p (by omega) dv
theorem addM_ok {a b : Nat} {f g : Int × Int} (h : FrOk a f) (k : FrOk b g) : FrOk (a + b + 1) (addM f g) := by
  have z : f.2 * g.2 ≠ 0 := Int.ne_of_gt (Int.mul_pos h.p k.p)
  have e : Bd (a + b) (g.1 * f.2) := by
    have := k.n.mul h.d
    rwa [Nat.add_comm b a] at this
  exact frM_ok (Bd.add (h.n.mul k.d) e) ((h.d.mul k.d).mono (Nat.le_succ _)) z
theorem mulM_ok {a b : Nat} {f g : Int × Int} (h : FrOk a f) (k : FrOk b g) : FrOk (a + b) (mulM f g) :=
  frM_ok (h.n.mul k.n) (h.d.mul k.d) (Int.ne_of_gt (Int.mul_pos h.p k.p))
theorem divM_ok {b : Nat} {g : Int × Int} (k : FrOk b g) (h0 : g.1 ≠ 0) : FrOk (b + 1) (divM (1, 1) g) := by
  refine frM_ok ?_ ?_ ?_
  · show Bd (b + 1) (1 * g.2)
    rw [Int.one_mul]; exact k.d.mono (Nat.le_succ _)
  · show Bd (b + 1) (1 * g.1)
    rw [Int.one_mul]; exact k.n.mono (Nat.le_succ _)
  · show 1 * g.1 ≠ 0
    rw [Int.one_mul]; exact h0
/-! ### their promises -/
def spGcd : Sp := fun vs H Q _ => ∃ a b : Int, vs = [.int a, .int b] ∧ Q (.int (Int.gcd a b : Int)) H
def spFrac : Sp := fun vs H Q _ => ∃ n d : Int, vs = [.int n, .int d] ∧ Bd 6700 n ∧ Bd 6700 d ∧ d ≠ 0 ∧ ∀ a H', Same H H' → H' a = some (.tup [.int (frM n d).1, .int (frM n d).2]) → Q (.ref a) H'
/-- two fractions, a new one -/
def spFF (K : PySem.W.Frag) (op : Int × Int → Int × Int → Int × Int) (ask : Int × Int → Int × Int → Prop) : Sp := fun vs H Q _ => ∃ (x y : V) (f g : Int × Int), vs = [x, y] ∧ Dp K H x (frD f) ∧ Dp K H y (frD g) ∧ FrOk 3300 f ∧ FrOk 3300 g ∧ ask f g ∧
  ∀ v H', Same H H' → Dp K H' v (frD (op f g)) → Q v H'
section
variable {P : Program} {w : World} {K : PySem.W.Frag} {mg : Str → Option Value} {base : Heap}
abbrev N_common_divisor : List Str := ["first", "second"]
theorem sc_common_divisor : FnScope N_common_divisor ["first", "second"] (defScope s_common_divisor) := ⟨rfl, rfl, rfl, by decide +kernel, rfl, by decide +kernel, by decide +kernel⟩
theorem b_common_divisor (T : Tx K mg) : Binds K T.fd_common_divisor ["first", "second"] [] := T.F_common_divisor.bindsN fun _ _ _ _ _ _ us hl => match us, hl with | [_, _], _ => rfl
theorem ok_common_divisor (T : Tx K mg) : FnOk P w K mg base CX0 1 (He.ga K "common_divisor") T.fd_common_divisor ["first", "second"] spGcd := by
  refine T.F_common_divisor.ok sc_common_divisor (fun vs H Q E h => ?_) (fun cdv A outer s H vs Q E hr h => ?_)
  · obtain ⟨a, b, rfl, _⟩ := h
    rfl
  obtain ⟨a, b, rfl, q⟩ := h
  refine ⟨_, PSs.nox (pss_cons (ps_while PassesOwn.never (pt_cmpR (op_ne) (pv 1) pe_int (nomark _)) (pss_one (ps_par (i := 0) (j := 1) (by rfl) sc_common_divisor.nd rfl rfl (by decide) rfl rfl (pa_cons (pv 1) (pa_cons (pe_op op_modN (pv 0) (pv 1)) pa_nil)) (by rfl))))
      (pss_one (ps_ret (pe_callB call_abs rfl T.z_abs (by decide +kernel) (pa_cons (pv 0) pa_nil))))), ?_⟩
  refine while_by (fun σ H' => H' = H ∧ ∃ x y : Int, σ = [some (.int x), some (.int y)] ∧ Int.gcd x y = Int.gcd a b) (fun σ _ => match σ with
    | [_, some (.int y)] => y.natAbs
    | _ => 0) ⟨rfl, a, b, rfl, rfl⟩ ?_ ?_
  · rintro σ H' ⟨rfl, x, y, rfl, e⟩
    refine ⟨_, rfl, rfl, _, rfl, ?_⟩
    by_cases c : y = 0
    · subst c
      refine iteF ?_
      refine ⟨_, rfl, x, rfl, ?_⟩
      have e1 : (Int.gcd x 0 : Int) = if x < 0 then -x else x := by
        rw [Int.gcd_zero_right]
        split <;> omega
      rw [← e1, e]
      exact q
    · have d : decide (V.int y = V.int 0) = false := decide_eq_false fun z => c (V.int.inj z)
      rw [d]
      refine iteT ?_
      refine ⟨_, rfl, _, rfl, _, rfl, _, _, rfl, rfl, c, _, _, rfl, ⟨rfl, _, _, rfl, ?_⟩, ?_⟩
      · rw [gcd_step, e]
      · exact fmod_less x y c
  · intro σ H' Q1 Q2 hQ h
    obtain ⟨v, e, e1, k, e2, q⟩ := h
    exact ⟨v, e, e1, k, e2, hQ _ _ q⟩
abbrev N_fraction : List Str := ["numerator", "denominator", "divisor", "sign"]
theorem sc_fraction : FnScope N_fraction ["numerator", "denominator"] (defScope s_fraction) := ⟨rfl, rfl, rfl, by decide +kernel, rfl, by decide +kernel, by decide +kernel⟩
theorem b_fraction (T : Tx K mg) : Binds K T.fd_fraction ["numerator", "denominator"] [] := by
  obtain ⟨ds, hv, hb⟩ := T.F_fraction.binds1 (ps := ["numerator", "denominator"]) 2 1 (by simp) rfl fun Tt kV doc pm an cdv ct us its hl h1 => by
    match us, hl, its, h1 with
    | [_, _], _, [_], _ => exact ⟨_, rfl, rfl⟩
  cases hv
  exact hb
theorem ok_fraction (T : Tx K mg) : FnOk P w K mg base CX0 2 (He.ga K "fraction") T.fd_fraction ["numerator", "denominator"] spFrac := by
  refine T.F_fraction.ok sc_fraction (fun vs H Q E h => ?_) (fun cdv A outer s H vs Q E hr h => ?_)
  · obtain ⟨a, b, rfl, _⟩ := h
    rfl
  obtain ⟨n, d, rfl, bn, bd, d0, q⟩ := h
  refine ⟨_, PSs.nox (pss_cons (ps_if (pt_cmpR (op_eq) (pv 1) pe_int (nomark _)) (pss_one ps_never) pss_nil)
      (pss_cons (ps_set (i := 2) sc_fraction.nd rfl (Or.inl rfl) (pe_call (ok_common_divisor T) (hr.mono (by decide)) rfl T.g_common_divisor T.F_common_divisor.kp (b_common_divisor T) .nil pass0 (pa_cons (pv 0) (pa_cons (pv 1) pa_nil))))
      (pss_cons (ps_set (i := 3) sc_fraction.nd rfl (Or.inl rfl) (pe_ifExp (pt_cmpR (op_lt) (pv 1) pe_int (nomark _)) (pe_un un_neg pe_int) pe_int))
      (pss_one (ps_ret (pe_tup (pa_cons (pe_op op_fdivW (pe_op op_mulW (pv 3) (pv 0)) (pv 2)) (pa_cons (pe_op op_fdivW (pe_op op_mulW (pv 3) (pv 1)) (pv 2)) pa_nil)))))))), ?_⟩
  refine ⟨_, rfl, rfl, _, rfl, ?_⟩
  rw [decide_eq_false fun z => d0 (V.int.inj z)]
  refine iteF ?_
  refine ⟨_, rfl, _, rfl, _, _, rfl, ?_⟩
  have g0 : 0 < (Int.gcd n d : Int) := by
    have := Int.gcd_pos_of_ne_zero_right n d0
    omega
  have gb : Bd 6700 (Int.gcd n d : Int) := by
    have : Int.gcd n d ≤ d.natAbs := Nat.le_of_dvd (by omega) (Int.gcd_dvd_natAbs_right n d)
    unfold Bd at *
    omega
  refine ⟨_, rfl, _, _, rfl, rfl, _, rfl, ?_⟩
  have w1 : CDivW 0 (Int.gcd n d : Int) := Bd.wdiv g0 gb
  have fin : ∀ sg : Int, (if d < 0 then -1 else 1) = sg → Bd 1 sg → CMulW sg n ∧ CMulW sg d ∧ (∀ x, CDivW x (Int.gcd n d : Int)) ∧ ∀ a H2, Same H H2 → H2 a = some (.tup [.int (sg * n / (Int.gcd n d : Int)), .int (sg * d / (Int.gcd n d : Int))]) → Q (.ref a) H2 := fun sg e b =>
    ⟨b.wmul bn, b.wmul bd, fun _ => w1, fun a H2 s h => q a H2 s (by unfold frM; rw [e]; exact h)⟩
  by_cases c : d < 0
  · obtain ⟨m1, m2, dv, q⟩ := fin (-1) (if_pos c) (by unfold Bd; decide)
    rw [decide_eq_true c]
    refine iteT ?_
    exact ⟨_, rfl, _, rfl, _, rfl, _, _, rfl, rfl, m1, _, rfl, _, _, rfl, rfl, dv _, _, rfl, _, rfl, _, _, rfl, rfl, m2, _, rfl, _, _, rfl, rfl, dv _, sz 2, newT fun a H2 _ s2 h2 => q a H2 s2 h2⟩
  · obtain ⟨m1, m2, dv, q⟩ := fin 1 (if_neg c) (by unfold Bd; decide)
    rw [decide_eq_false c]
    refine iteF ?_
    exact ⟨_, rfl, _, rfl, _, _, rfl, rfl, m1, _, rfl, _, _, rfl, rfl, dv _, _, rfl, _, rfl, _, _, rfl, rfl, m2, _, rfl, _, _, rfl, rfl, dv _, sz 2, newT fun a H2 _ s2 h2 => q a H2 s2 h2⟩
theorem at01 {x y : V} : atI [x, y] 0 = some x := atI_nat (j := 0) rfl
theorem at11 {x y : V} : atI [x, y] 1 = some y := atI_nat (j := 1) rfl
abbrev N_add : List Str := ["first", "second"]
theorem sc_add : FnScope N_add ["first", "second"] (defScope s_add) := ⟨rfl, rfl, rfl, by decide +kernel, rfl, by decide +kernel, by decide +kernel⟩
theorem b_add (T : Tx K mg) : Binds K T.fd_add ["first", "second"] [] := T.F_add.bindsN fun _ _ _ _ _ _ us hl => match us, hl with | [_, _], _ => rfl
theorem ok_add (T : Tx K mg) : FnOk P w K mg base CX0 3 (He.ga K "add") T.fd_add ["first", "second"] (spFF K addM fun _ _ => True) := by
  refine T.F_add.ok sc_add (fun vs H Q E h => ?_) (fun cdv A outer s H vs Q E hr h => ?_)
  · obtain ⟨x, y, f, g, rfl, _⟩ := h
    rfl
  obtain ⟨x, y, f, g, rfl, hx, hy, fk, gk, _, q⟩ := h
  obtain ⟨a, rfl, ha⟩ := fr_of hx
  obtain ⟨b, rfl, hb⟩ := fr_of hy
  refine ⟨_, PSs.nox (pss_one (ps_ret (pe_call (ok_fraction T) (hr.mono (by decide)) rfl T.g_fraction T.F_fraction.kp (b_fraction T) .nil pass0 (pa_cons (pe_op op_add (pe_op op_mulW (pe_ix (r := rIxT K) ix_tup (pv 0) pe_int (fun _ _ => rfl)) (pe_ix (r := rIxT K) ix_tup (pv 1) pe_int (fun _ _ => rfl))) (pe_op op_mulW (pe_ix (r := rIxT K) ix_tup (pv 1) pe_int (fun _ _ => rfl)) (pe_ix (r := rIxT K) ix_tup (pv 0) pe_int (fun _ _ => rfl)))) (pa_cons (pe_op op_mulW (pe_ix (r := rIxT K) ix_tup (pv 0) pe_int (fun _ _ => rfl)) (pe_ix (r := rIxT K) ix_tup (pv 1) pe_int (fun _ _ => rfl))) pa_nil))))), ?_⟩
  have z : f.2 * g.2 ≠ 0 := Int.ne_of_gt (Int.mul_pos fk.p gk.p)
  refine ⟨_, rfl, _, _, _, _, rfl, rfl, ha, at01, _, rfl, _, _, _, _, rfl, rfl, hb, at11, _, _, rfl, rfl, fk.n.wmul gk.d, _, rfl, _, _, _, _, rfl, rfl, hb, at01, _, rfl, _, _, _, _, rfl, rfl, ha, at11, _, _, rfl, rfl, gk.n.wmul fk.d,
    _, _, rfl, rfl, _, rfl, _, _, _, _, rfl, rfl, ha, at11, _, rfl, _, _, _, _, rfl, rfl, hb, at11, _, _, rfl, rfl, fk.d.wmul gk.d, ?_⟩
  exact ⟨_, _, rfl, (Bd.add (fk.n.mul gk.d) (gk.n.mul fk.d)).mono (by decide), (fk.d.mul gk.d).mono (by decide), z, fun p H' s' h' => q _ _ s' (fr_mk (.of h'))⟩
abbrev N_multiply : List Str := ["first", "second"]
theorem sc_multiply : FnScope N_multiply ["first", "second"] (defScope s_multiply) := ⟨rfl, rfl, rfl, by decide +kernel, rfl, by decide +kernel, by decide +kernel⟩
theorem b_multiply (T : Tx K mg) : Binds K T.fd_multiply ["first", "second"] [] := T.F_multiply.bindsN fun _ _ _ _ _ _ us hl => match us, hl with | [_, _], _ => rfl
theorem ok_multiply (T : Tx K mg) : FnOk P w K mg base CX0 3 (He.ga K "multiply") T.fd_multiply ["first", "second"] (spFF K mulM fun _ _ => True) := by
  refine T.F_multiply.ok sc_multiply (fun vs H Q E h => ?_) (fun cdv A outer s H vs Q E hr h => ?_)
  · obtain ⟨x, y, f, g, rfl, _⟩ := h
    rfl
  obtain ⟨x, y, f, g, rfl, hx, hy, fk, gk, _, q⟩ := h
  obtain ⟨a, rfl, ha⟩ := fr_of hx
  obtain ⟨b, rfl, hb⟩ := fr_of hy
  refine ⟨_, PSs.nox (pss_one (ps_ret (pe_call (ok_fraction T) (hr.mono (by decide)) rfl T.g_fraction T.F_fraction.kp (b_fraction T) .nil pass0 (pa_cons (pe_op op_mulW (pe_ix (r := rIxT K) ix_tup (pv 0) pe_int (fun _ _ => rfl)) (pe_ix (r := rIxT K) ix_tup (pv 1) pe_int (fun _ _ => rfl))) (pa_cons (pe_op op_mulW (pe_ix (r := rIxT K) ix_tup (pv 0) pe_int (fun _ _ => rfl)) (pe_ix (r := rIxT K) ix_tup (pv 1) pe_int (fun _ _ => rfl))) pa_nil))))), ?_⟩
  have z : f.2 * g.2 ≠ 0 := Int.ne_of_gt (Int.mul_pos fk.p gk.p)
  refine ⟨_, rfl, _, _, _, _, rfl, rfl, ha, at01, _, rfl, _, _, _, _, rfl, rfl, hb, at01, _, _, rfl, rfl, fk.n.wmul gk.n,
    _, rfl, _, _, _, _, rfl, rfl, ha, at11, _, rfl, _, _, _, _, rfl, rfl, hb, at11, _, _, rfl, rfl, fk.d.wmul gk.d, ?_⟩
  exact ⟨_, _, rfl, (fk.n.mul gk.n).mono (by decide), (fk.d.mul gk.d).mono (by decide), z, fun p H' s' h' => q _ _ s' (fr_mk (.of h'))⟩
abbrev N_divide : List Str := ["first", "second"]
theorem sc_divide : FnScope N_divide ["first", "second"] (defScope s_divide) := ⟨rfl, rfl, rfl, by decide +kernel, rfl, by decide +kernel, by decide +kernel⟩
theorem b_divide (T : Tx K mg) : Binds K T.fd_divide ["first", "second"] [] := T.F_divide.bindsN fun _ _ _ _ _ _ us hl => match us, hl with | [_, _], _ => rfl
theorem ok_divide (T : Tx K mg) : FnOk P w K mg base CX0 3 (He.ga K "divide") T.fd_divide ["first", "second"] (spFF K divM fun _ g => g.1 ≠ 0) := by
  refine T.F_divide.ok sc_divide (fun vs H Q E h => ?_) (fun cdv A outer s H vs Q E hr h => ?_)
  · obtain ⟨x, y, f, g, rfl, _⟩ := h
    rfl
  obtain ⟨x, y, f, g, rfl, hx, hy, fk, gk, g0, q⟩ := h
  obtain ⟨a, rfl, ha⟩ := fr_of hx
  obtain ⟨b, rfl, hb⟩ := fr_of hy
  refine ⟨_, PSs.nox (pss_one (ps_ret (pe_call (ok_fraction T) (hr.mono (by decide)) rfl T.g_fraction T.F_fraction.kp (b_fraction T) .nil pass0 (pa_cons (pe_op op_mulW (pe_ix (r := rIxT K) ix_tup (pv 0) pe_int (fun _ _ => rfl)) (pe_ix (r := rIxT K) ix_tup (pv 1) pe_int (fun _ _ => rfl))) (pa_cons (pe_op op_mulW (pe_ix (r := rIxT K) ix_tup (pv 0) pe_int (fun _ _ => rfl)) (pe_ix (r := rIxT K) ix_tup (pv 1) pe_int (fun _ _ => rfl))) pa_nil))))), ?_⟩
  have z : f.2 * g.1 ≠ 0 := Int.mul_ne_zero (Int.ne_of_gt fk.p) g0
  refine ⟨_, rfl, _, _, _, _, rfl, rfl, ha, at01, _, rfl, _, _, _, _, rfl, rfl, hb, at11, _, _, rfl, rfl, fk.n.wmul gk.d,
    _, rfl, _, _, _, _, rfl, rfl, ha, at11, _, rfl, _, _, _, _, rfl, rfl, hb, at01, _, _, rfl, rfl, fk.d.wmul gk.n, ?_⟩
  exact ⟨_, _, rfl, (fk.n.mul gk.d).mono (by decide), (fk.d.mul gk.n).mono (by decide), z, fun p H' s' h' => q _ _ s' (fr_mk (.of h'))⟩
end
end Kw

set_option Elab.async false
set_option linter.all false
set_option maxRecDepth 100000
set_option maxHeartbeats 4000000
namespace Kw
open PySem PySem.Spec PyProof.Rows L2
/-! ### a tuple, a text taken so many times -/
theorem tup_mul1 (l : Addr) (items : Array Value) (n : Nat) (dd : Option Addr) (sl : Array (Option Value)) (u : Tok) :
    Meets (Builtin.«tuple.__mul__» ⟨[.ref l, .int 1 u], []⟩) (fun _ R s => s.heap.get? l = some { cls := .type "tuple", dict := dd, data := .seq items n, slots := sl } ∧ R (.ok (.ret (Value.ref l))) s) :=
  .of_wp fun prog w A R s h => by
    obtain ⟨hp, g, d, tk, os⟩ := s
    obtain ⟨hl, h⟩ := h
    have f1 := AutoSeq1.idx_int
    have c1 : (items.isEmpty || (1 : Int) == 1) = true := by simp
    wp_walk using wpAny_loadPart' hl
    repeat (first
      | (refine wpAny_ite_true (decide_eq_true c1) ?_; wp_walk using wpAny_loadPart' hl)
      | (refine wpAny_ite_false (by decide) ?_; wp_walk using wpAny_loadPart' hl))
    exact ⟨_, rfl, h⟩
theorem tup_mul0 (l : Addr) (items : Array Value) (n : Nat) (dd : Option Addr) (sl : Array (Option Value)) (u : Tok) (hi : items.isEmpty = false) :
    Meets (Builtin.«tuple.__mul__» ⟨[.ref l, .int 0 u], []⟩) (fun _ R s => s.heap.get? l = some { cls := .type "tuple", dict := dd, data := .seq items n, slots := sl } ∧
      R (.ok (.ret (Value.ref s.heap.objs.size))) { s with heap := s.heap.push { cls := Value.type "tuple", data := Data.seq #[] }, toks := s.toks }) :=
  .of_wp fun prog w A R s h => by
    obtain ⟨hp, g, d, tk, os⟩ := s
    obtain ⟨hl, h⟩ := h
    have f1 := AutoSeq1.idx_int
    have c1 : (items.isEmpty || (0 : Int) == 1) = false := by rw [hi] <;> rfl
    wp_walk using wpAny_loadPart' hl
    repeat (first
      | (refine wpAny_ite_false (decide_eq_false (by rw [c1]; exact Bool.false_ne_true)) ?_; wp_walk using wpAny_loadPart' hl)
      | (refine wpAny_ite_true (by decide) ?_; wp_walk using wpAny_loadPart' hl)
      | (refine wpAny_ite_false (by decide) ?_; wp_walk using wpAny_loadPart' hl))
    exact ⟨_, rfl, h⟩
def rRepA (K : PySem.W.Frag) : R2 := fun x y H Q => ∃ l k xs, x = .ref l ∧ y = .int k ∧ SqT K H l xs ∧ xs ≠ [] ∧ 0 ≤ k ∧ k ≤ 1000 ∧ xs.length ≤ 1000 ∧ ∀ p H', Same H H' → SqT K H' p (List.replicate k.toNat xs).flatten → Q (.ref p) H'
section
variable {X : Cx}
theorem op_repA : OpR X (binaryOp .Mult) (rRepA X.K) := by
  intro pins s σ H x y v u Q I rx ry h
  obtain ⟨l, k, xs, rfl, rfl, hT, hne, h1, h2, hz, q⟩ := h
  by_cases c2 : 2 ≤ k
  · exact op_repT pins s σ H _ _ v u Q I rx ry ⟨l, k, xs, rfl, rfl, hT, hne, c2, h2, hz, fun p hp => q p _ (same_new hp) (.of upd_same)⟩
  cases rx
  obtain ⟨t, rfl⟩ := ry
  obtain ⟨its, r, ⟨⟨cls, dd, data, sl⟩, ho, hc, n, hd⟩, hs⟩ := I.tuple hT
  simp only at hc hd
  subst hc hd
  have hn : its ≠ [] := fun e => hne (by
    have hle : its.length = xs.length := r.length.symm
    rw [e] at hle
    exact List.eq_nil_of_length_eq_zero hle.symm)
  have hi : its.toArray.isEmpty = false := by
    cases its with
    | nil => exact absurd rfl hn
    | cons a b => rfl
  by_cases c1 : k = 1
  · subst c1
    refine wpAny_binaryOp_repeat_ref (T := "tuple") (U := "int") (by decide) ⟨_, ho, rfl⟩ (fun s' => typeIs_int s' 1 t) noFill_tuple_mul F.fills_int_mul F.slot_int_rmul repeat_tuple F.slot_int_index.lookup
      (call_meets F.slot_int_rmul (typeIs_int s 1 t) F.entry_int_rmul (F.args_int_rmul_2 _ _) (int_rmul_tuple 1 t l its.toArray n dd sl)
        ⟨ho, rfl, ⟨_, ho, rfl⟩, call_meets F.slot_tuple_mul ⟨_, ho, rfl⟩ F.entry_tuple_mul (F.args_tuple_mul_2 _ _) (tup_mul1 l its.toArray n dd sl t) ⟨ho, ?_⟩⟩)
    exact ⟨.ref l, H, I, rfl, q l H (Same.refl H) (by simpa using hT)⟩
  · have c0 : k = 0 := by omega
    subst c0
    refine wpAny_binaryOp_repeat_ref (T := "tuple") (U := "int") (by decide) ⟨_, ho, rfl⟩ (fun s' => typeIs_int s' 0 t) noFill_tuple_mul F.fills_int_mul F.slot_int_rmul repeat_tuple F.slot_int_index.lookup
      (call_meets F.slot_int_rmul (typeIs_int s 0 t) F.entry_int_rmul (F.args_int_rmul_2 _ _) (int_rmul_tuple 0 t l its.toArray n dd sl)
        ⟨ho, rfl, ⟨_, ho, rfl⟩, call_meets F.slot_tuple_mul ⟨_, ho, rfl⟩ F.entry_tuple_mul (F.args_tuple_mul_2 _ _) (tup_mul0 l its.toArray n dd sl t hi) ⟨ho, ?_⟩⟩)
    have hf := I.hok.fresh (Nat.le_refl s.heap.objs.size)
    refine ⟨.ref s.heap.objs.size, _, I.laid (t' := s.toks) (o := .tup []) (fun b ob q => Heap.get?_push_of_some _ q) (Nat.le_refl _) ?_, rfl, q _ _ (same_new hf) (.of upd_same)⟩
    exact ⟨Nat.zero_le _, [], .nil, IsTup.new _ _⟩
/-- tuple + tuple: some tuple of both -/
def rCatS (K : PySem.W.Frag) : R2 := fun x y H Q => ∃ a b xs ys, x = .ref a ∧ y = .ref b ∧ SqT K H a xs ∧ SqT K H b ys ∧ xs.length + ys.length ≤ 100000 ∧ ∀ p H', Same H H' → SqT K H' p (xs ++ ys) → Q (.ref p) H'
theorem op_catS : OpR X (binaryOp .Add) (rCatS X.K) := by
  intro pins s σ H x y v u Q I rx ry h
  obtain ⟨a, b, xs, ys, rfl, rfl, ha, hb, hz, q⟩ := h
  refine op_catA pins s σ H _ _ v u Q I rx ry ⟨a, b, xs, ys, rfl, rfl, ha, hb, sz _ hz, fun e => q b H (Same.refl H) ?_, fun _ e => q a H (Same.refl H) ?_, fun _ _ p hp => q p _ (same_new hp) (.of upd_same)⟩
  · rw [e]; exact hb
  · rw [e, List.append_nil]; exact ha
/-- a text so many times -/
def repS (z : Str) (k : Nat) : Str := ⟨(List.replicate k z.cps.toList).flatten.toArray⟩
theorem repS_foldl (a : Array Nat) (k : Nat) : (List.replicate k a).foldl (fun x y => x ++ y) #[] = (List.replicate k a.toList).flatten.toArray := by
  have : ∀ (l : List (Array Nat)) (acc : Array Nat), l.foldl (fun x y => x ++ y) acc = acc ++ (l.map Array.toList).flatten.toArray := by
    intro l
    induction l with
    | nil => intro acc; simp
    | cons b r ih => intro acc; rw [List.foldl_cons, ih]; apply Array.ext'; simp
  rw [this]
  simp [List.map_replicate]
def rRepS : R2 := fun x y H Q => ∃ (z : Str) (k : Int), x = .str z ∧ y = .int k ∧ 0 ≤ k ∧ k ≤ 1000 ∧ z.length ≤ 1000 ∧ Q (.str (repS z k.toNat)) H
theorem op_repS : OpR X (binaryOp .Mult) rRepS := by
  intro pins s σ H x y v u Q I rx ry h
  obtain ⟨z, k, rfl, rfl, h1, h2, hz, q⟩ := h
  obtain ⟨t, rfl⟩ := rx
  obtain ⟨t2, rfl⟩ := ry
  have hk : (z.length : Int) * k ≤ 1000000 := by
    have a1 : ((z.length : Nat) : Int) * k ≤ 1000 * k := Int.mul_le_mul_of_nonneg_right (by omega) (by omega)
    omega
  refine P.mul_str (by rw [decide_eq_false (by omega), decide_eq_false (by omega)] <;> rfl) (fun c _ => ?_) (fun c _ => ?_) ?_
  · have : (z.length : Int) ≤ (2 ^ 63 - 1) / k := by
      rw [Int.le_ediv_iff_mul_le (by omega)]
      omega
    omega
  · unfold Builtin.Str.tooLong
    have : z.length * k.toNat ≤ 1000 * 1000 := Nat.mul_le_mul hz (by omega)
    rw [sizeLine_eq]
    exact decide_eq_false (by omega)
  · have fin : ∀ (y : Str) tk, y = repS z k.toNat → ∃ v H', Inv X pins σ H' { s with toks := tk } ∧ RelV v (Value.str y s.toks) ∧ Q v H' := fun y tk e => ⟨.str y, H, I.tok _, ⟨_, rfl⟩, by rw [e]; exact q⟩
    split
    · rename_i c
      have e0 : k.toNat = 0 := by omega
      exact ⟨by decide, fin _ _ (by rw [e0]; rfl)⟩
    · rename_i c
      split
      · rename_i d
        refine ⟨.str z, H, I, ⟨_, rfl⟩, ?_⟩
        have e : z = repS z k.toNat := by
          rcases Bool.or_eq_true_iff.mp d with d | d
          · have e1 : k = 1 := by simpa using d
            subst e1
            simp [repS]
          · have e1 : z.length = 0 := by simpa using d
            obtain ⟨l⟩ := z
            have e2 : l = #[] := Array.eq_empty_of_size_eq_zero e1
            subst e2
            unfold repS
            simp
        rw [← e] at q
        exact q
      · refine ⟨?_, fin _ _ ?_⟩
        · show (Array.size _) ≤ sizeLine
          rw [repS_foldl]
          have : k.toNat * z.length ≤ 1000 * 1000 := Nat.mul_le_mul (by omega) hz
          have e : z.cps.size = z.length := rfl
          simp only [List.size_toArray, List.length_flatten, List.map_replicate, List.sum_replicate_nat, Array.length_toList, e, sizeLine_eq]
          omega
        · unfold repS
          rw [repS_foldl]
end
end Kw

set_option Elab.async false
set_option linter.all false
set_option maxRecDepth 100000
set_option maxHeartbeats 4000000
namespace Kw
open PySem PySem.Spec PyProof.Rows L2
local macro_rules | `(tactic| walk_at $s:str) => do
  match s.getString.splitOn " " with
  | ["new", a] =>
    let p := Lean.mkIdent (Lean.Name.mkSimple ("p" ++ a))
    let n := Lean.mkIdent (Lean.Name.mkSimple ("n" ++ a))
    let H := Lean.mkIdent (Lean.Name.mkSimple ("H" ++ a))
    let s := Lean.mkIdent (Lean.Name.mkSimple ("s" ++ a))
    let h := Lean.mkIdent (Lean.Name.mkSimple ("h" ++ a))
    `(tactic| (intro $p $n; generalize e : upd _ $p _ = $H; have $s : Same _ $H := e ▸ same_new $n; have $h : $H $p = some _ := e ▸ upd_same; clear e))
  | _ => Lean.Macro.throwUnsupported
/-! ### comprehensions that change nothing -/
theorem walk_zipT {K : PySem.W.Frag} {a b : Addr} {xs ys : List V} {n : Nat} (hn : n = min xs.length ys.length) : Walk (RZ.ItzT K a b) n (fun H => SqT K H a xs ∧ SqT K H b ys) (YPair (fun i => xs[i]?) (fun i => ys[i]?)) where
  goes := fun i H hi ⟨h1, h2⟩ => ⟨xs, ys, xs[i]'(by omega), ys[i]'(by omega), h1, h2, List.getElem?_eq_getElem _, List.getElem?_eq_getElem _⟩
  stops := fun H ⟨h1, h2⟩ => ⟨xs, ys, h1, h2, by omega⟩
  yields := fun i H v H' hi ⟨h1, h2⟩ ⟨t, x, y, e1, e2, e3, e4, e5⟩ => ⟨t, x, y, e1, e2, e3, e4 _ h1, e5 _ h2⟩
theorem sameT_lst {H : Hp} {D : Addr} {xs ys : List V} (h : H D = some (.lst xs)) : SameT H (upd H D (.lst ys)) := fun a zs => by
  by_cases e : a = D
  · subst e
    rw [upd_same, h]
    exact ⟨fun q => (by cases q), fun o q => (by cases q)⟩
  · rw [upd_ne e]
    exact ⟨id, fun _ => id⟩
section
variable {J : It} {n : Nat} {G : Hp → Prop} {Y : Nat → Hp → V → Hp → Prop}
theorem lc_pure (w : Walk J n G Y) {g : TG} {te : TE} {vs : List Nat} {σ : L2.St} {H1 : Hp} {D : Addr} {Qd : Hp → Prop} (hD : H1 D = none) (R : Nat → V → Hp → Prop) (Rm : ∀ i v H H', SameT H H' → R i v H → R i v H') (hn : n ≤ 100000)
    (hG : ∀ H, Same H1 H → G H) (hY' : ∀ i x H H', i < n → Y i H x H' → Same H H')
    (hs : ∀ i x H H', i < n → Same H1 H → Y i H x H' → g x (wipe σ vs) H' fun σ2 H2 => wipe σ2 vs = wipe σ vs ∧ Same H' H2 ∧ ∀ Q' : VK, (∀ y H3, Same H2 H3 → R i y H3 → Q' y H3) → te σ2 H2 Q')
    (gm : ∀ x H (A B : L2.St → Hp → Prop), (∀ s h, A s h → B s h) → g x (wipe σ vs) H A → g x (wipe σ vs) H B)
    (hd : ∀ ys H', Same H1 H' → H' D = some (.lst ys) → ys.length = n → (∀ (i : Nat) y, ys[i]? = some y → R i y H') → Qd H') :
    ∃ W : Nat → Nat → Hp → Prop, (∃ m, W 0 m (upd H1 D (.lst []))) ∧ ∀ i m H, W i m H →
      (J.stop i H ∧ Qd H) ∨ (J.go i H ∧ ∃ Nx : Hp → Prop, (∀ H', Nx H' → ∃ m', m' < m ∧ W (i + 1) m' H') ∧ ∀ x H', J.yld i H x H' → g x (wipe σ vs) H' fun σ2 H2 => wipe σ2 vs = wipe σ vs ∧ tYes σ2 H2 fun b H3 =>
        if b = true then te σ2 H3 fun y H4 => ∃ acc, H4 D = some (.lst acc) ∧ acc.length < sizeLine ∧ Nx (upd H4 D (.lst (acc ++ [y]))) else Nx H3) := by
  refine lc_it w (tt := tYes) (Qd := Qd) (fun i H => Same H1 H ∧ ∃ ys, H D = some (.lst ys) ∧ ys.length = i ∧ ∀ (j : Nat) y, ys[j]? = some y → R j y H)
    ⟨same_new hD, [], upd_same, rfl, fun j y e => by simp at e⟩ (fun i H _ h => hG H h.1) ?_ ?_
  · rintro i x H H' hi ⟨s1, ys, h1, h2, h3⟩ hY
    refine gm x H' _ _ ?_ (hs i x H H' hi s1 hY)
    rintro σ2 H2 ⟨e1, s2, h⟩
    refine ⟨e1, ?_⟩
    show te σ2 H2 _
    refine h _ fun y H3 s3 r => ?_
    have sD : H3 D = some (.lst ys) := s3 _ _ (s2 _ _ (hY' i x H H' hi hY _ _ h1))
    have st : SameT H3 (upd H3 D (.lst (ys ++ [y]))) := sameT_lst sD
    refine ⟨ys, sD, szl _ (by omega), fun b o e => ?_, ys ++ [y], upd_same, by rw [List.length_append, h2] <;> rfl, fun j z e => ?_⟩
    · have ne : b ≠ D := ne_of_none e hD
      rw [upd_ne ne]
      exact s3 _ _ (s2 _ _ (hY' i x H H' hi hY _ _ (s1 _ _ e)))
    · rw [List.getElem?_append] at e
      split at e
      · exact Rm _ _ _ _ (((Same.tups (hY' i x H H' hi hY)).trans ((Same.tups s2).trans (Same.tups s3))).trans st) (h3 j z e)
      · rename_i c
        have e0 : j - ys.length = 0 := by
          cases q : j - ys.length with
          | zero => rfl
          | succ m =>
            rw [q] at e
            simp at e
        rw [e0] at e
        have e2 := Option.some.inj e
        have e3 : j = i := by omega
        subst e2 e3
        exact Rm _ _ _ _ st r
  · rintro H ⟨s1, ys, h1, h2, h3⟩
    exact hd ys H s1 h1 h2 h3
end
/-! ### rows: the mirror -/
abbrev Row := List (Int × Int)
def isZ (f : Int × Int) : Bool := f.1 == 0 && (f.2 == 1 && true)
def isConstM (r : Row) : Bool := r.dropLast.all isZ
def scaleM (r : Row) (f : Int × Int) : Row := r.map fun c => mulM c f
def shortF (f : Int × Int) : Bool := decide ((if f.2 > (if f.1 < 0 then -f.1 else f.1) then f.2 else (if f.1 < 0 then -f.1 else f.1)) < 1000000)
def isShortM (r : Row) : Bool := r.all shortF
def unitM (place size : Nat) : Row := List.replicate place (0, 1) ++ [(1, 1)] ++ List.replicate (size - place) (0, 1)
/-- each number of a row has so many bits -/
def RowOk (b : Nat) (r : Row) : Prop := ∀ f ∈ r, FrOk b f
theorem RowOk.mono {a b : Nat} {r : Row} (h : RowOk a r) (l : a ≤ b) : RowOk b r := fun f m => (h f m).mono l
theorem RowOk.scale {a b : Nat} {r : Row} {f : Int × Int} (h : RowOk a r) (k : FrOk b f) : RowOk (a + b) (scaleM r f) := fun g m => by
  obtain ⟨c, hc, rfl⟩ := List.mem_map.mp m
  exact mulM_ok (h c hc) k
theorem zero_ok : FrOk 1 (0, 1) := ⟨by unfold Bd; decide, by unfold Bd; decide, by decide⟩
theorem one_ok : FrOk 1 (1, 1) := ⟨by unfold Bd; decide, by unfold Bd; decide, by decide⟩
theorem unit_ok (p n : Nat) : RowOk 1 (unitM p n) := fun f m => by
  unfold unitM at m
  rcases List.mem_append.mp m with m | m
  · rcases List.mem_append.mp m with m | m
    · rw [List.eq_of_mem_replicate m]; exact zero_ok
    · rw [List.mem_singleton.mp m]; exact one_ok
  · rw [List.eq_of_mem_replicate m]; exact zero_ok
theorem unit_len {p n : Nat} (h : p ≤ n) : (unitM p n).length = n + 1 := by
  unfold unitM
  simp only [List.length_append, List.length_replicate, List.length_singleton]
  omega
/-- a list of values by its places -/
theorem list_fn {α : Type} {ys : List V} {n : Nat} {F : Nat → α} {g : α → V} (h : ys.length = n) (e : ∀ (i : Nat) y, ys[i]? = some y → y = g (F i)) : ys = ((List.range n).map F).map g := by
  apply List.ext_getElem?
  intro i
  cases q : ys[i]? with
  | none =>
    have : n ≤ i := by
      have := List.getElem?_eq_none_iff.mp q
      omega
    rw [List.getElem?_map, List.getElem?_map, List.getElem?_eq_none (by simpa using this)] <;> rfl
  | some y =>
    have hi : i < n := by
      have := (List.getElem?_eq_some_iff.mp q).1
      omega
    rw [List.getElem?_map, List.getElem?_map, List.getElem?_range hi, e i y q] <;> rfl
theorem dpAll_mk {K : PySem.W.Frag} {H : Hp} : ∀ {ys : List V} {ds : List PyData}, ys.length = ds.length → (∀ (i : Nat) y d, ys[i]? = some y → ds[i]? = some d → Dp K H y d) → DpAll K H ys ds
  | [], [], _, _ => .nil
  | y :: ys, d :: ds, l, h => .cons (h 0 y d rfl rfl) (dpAll_mk (Nat.succ.inj l) fun i a b p q => h (i + 1) a b (by simpa using p) (by simpa using q))
theorem map_get {α β : Type} {l : List α} {f : α → β} {i : Nat} {b : β} (h : (l.map f)[i]? = some b) : ∃ a, l[i]? = some a ∧ b = f a := by
  rw [List.getElem?_map] at h
  cases e : l[i]? with
  | none => rw [e] at h; cases h
  | some a => rw [e] at h; exact ⟨a, rfl, (Option.some.inj h).symm⟩
/-- the fraction at a place of a row -/
theorem row_at {K : PySem.W.Frag} {H : Hp} {vs : List V} {r : Row} {i : Nat} {x : V} (h : DpAll K H vs (r.map frD)) (e : vs[i]? = some x) : ∃ f, r[i]? = some f ∧ Dp K H x (frD f) := by
  obtain ⟨d, h1, h2⟩ := dpAll_get h e
  obtain ⟨f, h3, rfl⟩ := map_get h1
  exact ⟨f, h3, h2⟩
theorem dpAll_dropLast {K : PySem.W.Frag} {H : Hp} : ∀ {vs : List V} {ds : List PyData}, DpAll K H vs ds → DpAll K H vs.dropLast ds.dropLast
  | _, _, .nil => .nil
  | _, _, .cons _ .nil => .nil
  | _, _, .cons a (.cons b t) => .cons a (dpAll_dropLast (.cons b t))
theorem cutV_last {xs : List V} (h : xs ≠ []) : cutV xs none (some (-1)) = xs.dropLast ∧ ¬ (HT.sIx xs.length 0 none = 0 ∧ HT.sIx xs.length xs.length (some (-1)) = xs.length) := by
  have l : 0 < xs.length := List.length_pos_iff.mpr h
  have e : HT.sIx xs.length xs.length (some (-1)) = xs.length - 1 := by
    unfold HT.sIx
    simp
    omega
  have e0 : HT.sIx xs.length 0 none = 0 := rfl
  refine ⟨?_, fun ⟨_, q⟩ => by omega⟩
  unfold cutV
  rw [e, e0, List.drop_zero, Nat.sub_zero, List.dropLast_eq_take]
theorem all_range (l : Row) (P : Int × Int → Bool) : ((List.range l.length).map fun i => P (l.getD i (0, 1))).all id = l.all P := by
  have e : ((List.range l.length).map fun i => P (l.getD i (0, 1))) = l.map P := by
    apply List.ext_getElem?
    intro i
    rw [List.getElem?_map, List.getElem?_map]
    by_cases h : i < l.length
    · rw [List.getElem?_range h, List.getElem?_eq_getElem h]
      simp [List.getD, List.getElem?_eq_getElem h]
    · rw [List.getElem?_eq_none (by simpa using h), List.getElem?_eq_none (by omega)] <;> rfl
  rw [e, List.all_map]
  rfl
theorem getD_of {l : Row} {i : Nat} {f : Int × Int} (h : l[i]? = some f) : l.getD i (0, 1) = f := by
  unfold List.getD
  rw [h]
  rfl
/-! ### their promises -/
/-- a row, an answer -/
def spRB (K : PySem.W.Frag) (P : Row → Bool) : Sp := fun vs H Q _ => ∃ (x : V) (r : Row), vs = [x] ∧ Dp K H x (rowD r) ∧ r ≠ [] ∧ r.length ≤ 10 ∧ ∀ H', Same H H' → Q (.bl (P r)) H'
def spScale (K : PySem.W.Frag) : Sp := fun vs H Q _ => ∃ (x y : V) (r : Row) (f : Int × Int), vs = [x, y] ∧ Dp K H x (rowD r) ∧ Dp K H y (frD f) ∧ RowOk 3300 r ∧ FrOk 3300 f ∧ r.length ≤ 10 ∧
  ∀ v H', Same H H' → Dp K H' v (rowD (scaleM r f)) → Q v H'
def spUnit (K : PySem.W.Frag) : Sp := fun vs H Q _ => ∃ p n : Nat, vs = [.int p, .int n] ∧ p ≤ n ∧ n ≤ 10 ∧ ∀ v H', Same H H' → Dp K H' v (rowD (unitM p n)) → Q v H'
section
variable {P : Program} {w : World} {K : PySem.W.Frag} {mg : Str → Option Value} {base : Heap}
theorem zero_at (T : Tx K mg) (H : Hp) : Dp K H (.ref (He.ga K "ZERO")) (frD (0, 1)) := fr_mk (f := (0, 1)) (T.t_ZERO H)
theorem one_at (T : Tx K mg) (H : Hp) : Dp K H (.ref (He.ga K "ONE")) (frD (1, 1)) := fr_mk (f := (1, 1)) (T.t_ONE H)
theorem eqv_zero (f : Int × Int) : PyData.eqv (frD f) (frD (0, 1)) = isZ f := by
  show PyData.eqvAll [.int f.1, .int f.2] [.int 0, .int 1] = _
  simp only [PyData.eqvAll, PyData.eqv]
  rfl
theorem shaped_fr (f : Int × Int) : SeqAt.shaped (frD f) = true := by
  obtain ⟨a, b⟩ := f
  rfl
abbrev N_is_constant : List Str := ["row", "coefficient"]
theorem sc_is_constant : FnScope N_is_constant ["row"] (defScope s_is_constant) := ⟨rfl, rfl, rfl, by decide +kernel, rfl, by decide +kernel, by decide +kernel⟩
theorem b_is_constant (T : Tx K mg) : Binds K T.fd_is_constant ["row"] [] := T.F_is_constant.bindsN fun _ _ _ _ _ _ us hl => match us, hl with | [_], _ => rfl
theorem ok_is_constant (T : Tx K mg) : FnOk P w K mg base CX0 2 (He.ga K "is_constant") T.fd_is_constant ["row"] (spRB K isConstM) := by
  refine T.F_is_constant.ok sc_is_constant (fun vs H Q E h => ?_) (fun cdv A outer s H vs Q E hr h => ?_)
  · obtain ⟨x, r, rfl, _⟩ := h
    rfl
  obtain ⟨x, r, rfl, hx, rne, rl, q⟩ := h
  obtain ⟨a, vs, rfl, ha, hv⟩ := row_of hx
  refine ⟨_, PSs.nox (pss_one (ps_ret (pe_callB (cr_all rfl) rfl T.z_all (by decide +kernel) (pa_cons (pe_lc (own := [("coefficient", 1)]) (g := (gName 1)) (tt := tYes) (by rfl) sc_is_constant.nd (pi_tup (pe_slice (r := rSlA K) sl_tupA (pv 0) po_none (po_some (pe_un un_neg pe_int)))) (blkOk_by (own := [("coefficient", 1)]) (N := N_is_constant) (sc := (defScope s_is_constant)) (by decide +kernel)) (fun _ _ _ _ _ => (pg_name (i := 1) sc_is_constant.nd rfl (Or.inl rfl))) (fun _ _ _ _ _ => pts_nil) (fun _ _ _ _ _ => (pe_cmpR (r := rEqD K) (op_eqD hr.units) (pv 1) (pe_gr rfl T.g_ZERO) (nomark _)))) pa_nil)))), ?_⟩
  have hl : vs.length = r.length := by rw [dpAll_len hv, List.length_map]
  have vne : vs ≠ [] := fun e => rne (List.eq_nil_of_length_eq_zero (by rw [← hl, e] <;> rfl))
  obtain ⟨cut, nw⟩ := cutV_last vne
  refine ⟨_, rfl, _, rfl, _, rfl, _, _, rfl, ha, fun z => absurd z nw, fun _ => ?_⟩
  walk_at "new 1"
  rw [cut] at h1
  have hv1 : DpAll K H1 vs.dropLast (r.dropLast.map frD) := by
    rw [List.map_dropLast]
    exact dp_monoAll (Same.tups s1) _ _ (by rw [← List.map_dropLast]; exact frDs_tup _) (dpAll_dropLast hv)
  have hl1 : vs.dropLast.length = r.dropLast.length := by rw [List.length_dropLast, List.length_dropLast, hl]
  refine ⟨p1, rfl, ⟨_, .of h1⟩, fun D hD => lc_pure (walk_tup (K := K) (a := p1) (xs := vs.dropLast)) hD (fun i y _ => y = .bl (isZ (r.dropLast.getD i (0, 1)))) (fun _ _ _ _ _ h => h) (by rw [hl1, List.length_dropLast]; omega) (fun H2 s2 => sameT s2 (.of h1)) (fun i x H2 H3 _ ⟨e, _⟩ => by rw [e]; exact Same.refl _) ?_ (fun x H A B m h => m _ _ h) ?_⟩
  · rintro i x H2 _ hi s2 ⟨rfl, hx⟩
    obtain ⟨f, hf, df⟩ := row_at hv1 hx
    refine ⟨rfl, Same.refl _, fun Q' h => ⟨_, rfl, frD f, frD (0, 1), dp_mono (Same.tups s2) _ _ (frD_tup f) df, zero_at T _, shaped_fr f, shaped_fr _, h _ _ (Same.refl _) ?_⟩⟩
    rw [eqv_zero, getD_of hf]
  · intro ys H' s2 h2 hn hy
    have e := list_fn (g := V.bl) (F := fun i => isZ (r.dropLast.getD i (0, 1))) hn hy
    refine ⟨D, _, rfl, .of (by rw [h2, e]), ?_⟩
    rw [hl1, all_range r.dropLast isZ]
    exact q H' (s1.trans s2)
abbrev N_scale_row : List Str := ["row", "factor", "coefficient"]
theorem sc_scale_row : FnScope N_scale_row ["row", "factor"] (defScope s_scale_row) := ⟨rfl, rfl, rfl, by decide +kernel, rfl, by decide +kernel, by decide +kernel⟩
theorem b_scale_row (T : Tx K mg) : Binds K T.fd_scale_row ["row", "factor"] [] := T.F_scale_row.bindsN fun _ _ _ _ _ _ us hl => match us, hl with | [_, _], _ => rfl
theorem ok_scale_row (T : Tx K mg) : FnOk P w K mg base CX0 4 (He.ga K "scale_row") T.fd_scale_row ["row", "factor"] (spScale K) := by
  refine T.F_scale_row.ok sc_scale_row (fun vs H Q E h => ?_) (fun cdv A outer s H vs Q E hr h => ?_)
  · obtain ⟨x, y, r, f, rfl, _⟩ := h
    rfl
  obtain ⟨x, y, r, f, rfl, hx, hy, rk, fk, rl, q⟩ := h
  obtain ⟨a, vs, rfl, ha, hv⟩ := row_of hx
  refine ⟨_, PSs.nox (pss_one (ps_ret (pe_callTy call_tuple_of rfl T.z_tuple (by decide +kernel) (pa_cons (pe_lc (own := [("coefficient", 2)]) (g := (gName 2)) (tt := tYes) (by rfl) sc_scale_row.nd (pi_tup (pv 0)) (blkOk_by (own := [("coefficient", 2)]) (N := N_scale_row) (sc := (defScope s_scale_row)) (by decide +kernel)) (fun _ _ _ _ _ => (pg_name (i := 2) sc_scale_row.nd rfl (Or.inl rfl))) (fun _ _ _ _ _ => pts_nil) (fun _ _ _ _ _ => (pe_call (ok_multiply T) (hr.mono (by decide)) rfl T.g_multiply T.F_multiply.kp (b_multiply T) .nil pass0 (pa_cons (pv 2) (pa_cons (pv 1) pa_nil))))) pa_nil)))), ?_⟩
  have hl : vs.length = r.length := by rw [dpAll_len hv, List.length_map]
  refine ⟨_, rfl, a, rfl, ⟨_, ha⟩, fun D hD => lc_pure (walk_tup (K := K) (a := a) (xs := vs)) hD (fun i y H => ∀ c, r[i]? = some c → Dp K H y (frD (mulM c f))) (fun i v H H' s h c e => dp_mono s _ _ (frD_tup _) (h c e)) (by omega) (fun H2 s2 => sameT s2 ha) (fun i x H2 H3 _ ⟨e, _⟩ => by rw [e]; exact Same.refl _) ?_ (fun x H A B m h => m _ _ h) ?_⟩
  · rintro i x H2 _ hi s2 ⟨rfl, hx⟩
    obtain ⟨c, hc, dc⟩ := row_at hv hx
    refine ⟨rfl, Same.refl _, fun Q' h => ⟨_, rfl, _, rfl, x, y, c, f, rfl, dp_mono (Same.tups s2) _ _ (frD_tup _) dc, dp_mono (Same.tups s2) _ _ (frD_tup _) hy, rk c (List.mem_of_getElem? hc), fk, trivial, fun v H3 s3 d => h v H3 s3 fun c' e => ?_⟩⟩
    rw [hc] at e
    rw [← Option.some.inj e]
    exact d
  · intro ys H' s2 h2 hn hy'
    refine ⟨D, ys, rfl, .inl ⟨.of h2, newT fun p H3 np s3 h3 => q _ H3 (s2.trans s3) (.tup (.of h3) ?_)⟩⟩
    have hz : ys.length = (List.map frD (scaleM r f)).length := by
      unfold scaleM
      rw [List.length_map, List.length_map]
      omega
    refine dpAll_mk hz fun i y d e1 e2 => ?_
    obtain ⟨c', e3, rfl⟩ := map_get e2
    obtain ⟨c, e4, rfl⟩ := map_get (l := r) (f := fun c => mulM c f) e3
    exact dp_mono (Same.tups s3) _ _ (frD_tup _) (hy' i y e1 c e4)
abbrev N_is_short : List Str := ["row", "numerator", "denominator"]
theorem sc_is_short : FnScope N_is_short ["row"] (defScope s_is_short) := ⟨rfl, rfl, rfl, by decide +kernel, rfl, by decide +kernel, by decide +kernel⟩
theorem b_is_short (T : Tx K mg) : Binds K T.fd_is_short ["row"] [] := T.F_is_short.bindsN fun _ _ _ _ _ _ us hl => match us, hl with | [_], _ => rfl
theorem ok_is_short (T : Tx K mg) : FnOk P w K mg base CX0 2 (He.ga K "is_short") T.fd_is_short ["row"] (spRB K isShortM) := by
  refine T.F_is_short.ok sc_is_short (fun vs H Q E h => ?_) (fun cdv A outer s H vs Q E hr h => ?_)
  · obtain ⟨x, r, rfl, _⟩ := h
    rfl
  obtain ⟨x, r, rfl, hx, rne, rl, q⟩ := h
  obtain ⟨a, vs, rfl, ha, hv⟩ := row_of hx
  refine ⟨_, PSs.nox (pss_one (ps_ret (pe_callB (cr_all rfl) rfl T.z_all (by decide +kernel) (pa_cons (pe_lc (own := [("numerator", 1), ("denominator", 2)]) (g := (gTup K 2 (gCons (gName 1) (gCons (gName 2) gNil)))) (tt := tYes) (by rfl) sc_is_short.nd (pi_tup (pv 0)) (blkOk_by (own := [("numerator", 1), ("denominator", 2)]) (N := N_is_short) (sc := (defScope s_is_short)) (by decide +kernel)) (fun _ _ _ _ _ => (pg_tup rfl (pgs_cons (pg_name (i := 1) sc_is_short.nd rfl (Or.inl rfl)) (pgs_cons (pg_name (i := 2) sc_is_short.nd rfl (Or.inl rfl)) pgs_nil)))) (fun _ _ _ _ _ => pts_nil) (fun _ _ _ _ _ => (pe_cmpR (op_lt) (pe_callB (call_max2 rfl) rfl T.z_max (by decide +kernel) (pa_cons (pe_callB call_abs rfl T.z_abs (by decide +kernel) (pa_cons (pv 1) pa_nil)) (pa_cons (pv 2) pa_nil))) (pe_gv rfl T.c_NUMBER_LIMIT) (nomark _)))) pa_nil)))), ?_⟩
  have hl : vs.length = r.length := by rw [dpAll_len hv, List.length_map]
  refine ⟨_, rfl, a, rfl, ⟨_, ha⟩, fun D hD => lc_pure (walk_tup (K := K) (a := a) (xs := vs)) hD (fun i y _ => y = .bl (shortF (r.getD i (0, 1)))) (fun _ _ _ _ _ h => h) (by omega) (fun H2 s2 => sameT s2 ha) (fun i x H2 H3 _ ⟨e, _⟩ => by rw [e]; exact Same.refl _) ?_ ?_ ?_⟩
  · rintro i x H2 _ hi s2 ⟨rfl, hx⟩
    obtain ⟨f, hf, df⟩ := row_at hv hx
    obtain ⟨b, rfl, hb⟩ := fr_of (dp_mono (Same.tups s2) _ _ (frD_tup f) df)
    refine ⟨b, _, rfl, hb, rfl, _, _, rfl, _, _, rfl, rfl, rfl, Same.refl _, fun Q' h => ⟨_, rfl, _, rfl, _, rfl, _, _, rfl, _, _, rfl, rfl, h _ _ (Same.refl _) ?_⟩⟩
    rw [getD_of hf]
    rfl
  · intro x H A B m h
    obtain ⟨b, xs, e1, e2, e3, v1, r1, e4, v2, r2, e5, e6, h⟩ := h
    exact ⟨b, xs, e1, e2, e3, v1, r1, e4, v2, r2, e5, e6, m _ _ h⟩
  · intro ys H' s2 h2 hn hy
    have e := list_fn (g := V.bl) (F := fun i => shortF (r.getD i (0, 1))) hn hy
    refine ⟨D, _, rfl, .of (by rw [h2, e]), ?_⟩
    rw [hl, all_range r shortF]
    exact q H' s2
abbrev N_identity_row : List Str := ["place", "size"]
theorem sc_identity_row : FnScope N_identity_row ["place", "size"] (defScope s_identity_row) := ⟨rfl, rfl, rfl, by decide +kernel, rfl, by decide +kernel, by decide +kernel⟩
theorem b_identity_row (T : Tx K mg) : Binds K T.fd_identity_row ["place", "size"] [] := T.F_identity_row.bindsN fun _ _ _ _ _ _ us hl => match us, hl with | [_, _], _ => rfl
theorem rep_one {n : Nat} {v : V} : (List.replicate n [v]).flatten = List.replicate n v := by
  induction n with
  | zero => rfl
  | succ m ih => rw [List.replicate_succ, List.flatten_cons, ih] <;> rfl
theorem unit_dp {K : PySem.W.Frag} {H : Hp} {mg : Str → Option Value} (T : Tx K mg) (p n : Nat) : DpAll K H (List.replicate p (V.ref (He.ga K "ZERO")) ++ [V.ref (He.ga K "ONE")] ++ List.replicate (n - p) (V.ref (He.ga K "ZERO"))) ((unitM p n).map frD) := by
  have z : ∀ m, DpAll K H (List.replicate m (V.ref (He.ga K "ZERO"))) ((List.replicate m ((0, 1) : Int × Int)).map frD) := fun m => by
    induction m with
    | zero => exact .nil
    | succ m ih => exact .cons (zero_at T H) ih
  unfold unitM
  rw [List.map_append, List.map_append]
  exact dpAll_app (dpAll_app (z p) (.cons (one_at T H) .nil)) (z _)
theorem ok_identity_row (T : Tx K mg) : FnOk P w K mg base CX0 1 (He.ga K "identity_row") T.fd_identity_row ["place", "size"] (spUnit K) := by
  refine T.F_identity_row.ok sc_identity_row (fun vs H Q E h => ?_) (fun cdv A outer s H vs Q E hr h => ?_)
  · obtain ⟨p, n, rfl, _⟩ := h
    rfl
  obtain ⟨p, n, rfl, hp, hn, q⟩ := h
  refine ⟨_, PSs.nox (pss_one (ps_ret (pe_op (r := rCatS K) op_catS (pe_op (r := rCatS K) op_catS (pe_op (r := rRepA K) op_repA (pe_tup (pa_cons (pe_gr rfl T.g_ZERO) pa_nil)) (pv 0)) (pe_tup (pa_cons (pe_gr rfl T.g_ONE) pa_nil))) (pe_op (r := rRepA K) op_repA (pe_tup (pa_cons (pe_gr rfl T.g_ZERO) pa_nil)) (pe_op op_sub (pv 1) (pv 0)))))), ?_⟩
  refine ⟨sz 1, ?_⟩
  walk_at "new 1"
  refine ⟨_, rfl, p1, p, _, rfl, rfl, .of h1, by simp, by omega, by omega, by simp, fun a2 H2 s2 h2 => ⟨sz 1, ?_⟩⟩
  walk_at "new 3"
  have e2 := sameT s3 h2
  rw [Int.toNat_natCast, rep_one] at e2
  refine ⟨a2, p3, _, _, rfl, rfl, e2, .of h3, ?_, fun a4 H4 s4 h4 => ⟨sz 1, ?_⟩⟩
  · rw [List.length_replicate]
    show p + 1 ≤ 100000
    omega
  walk_at "new 5"
  refine ⟨_, rfl, _, rfl, _, _, rfl, rfl, p5, _, _, rfl, rfl, .of h5, by simp, by omega, by omega, by simp, fun a6 H6 s6 h6 => ?_⟩
  have ez : ((n : Int) - (p : Int)).toNat = n - p := by omega
  rw [ez, rep_one] at h6
  refine ⟨a4, a6, _, _, rfl, rfl, sameT (s5.trans s6) h4, h6, ?_, fun a7 H7 s7 h7 => ?_⟩
  · simp only [List.length_append, List.length_replicate, List.length_singleton]
    omega
  · exact q _ H7 ((((((s1.trans s2).trans s3).trans s4).trans s5).trans s6).trans s7) (.tup h7 (unit_dp T p n))
end
end Kw

set_option Elab.async false
set_option linter.all false
set_option maxRecDepth 100000
set_option maxHeartbeats 4000000
namespace Kw
open PySem PySem.Spec PyProof.Rows L2
local macro_rules | `(tactic| walk_at $s:str) => do
  match s.getString.splitOn " " with
  | ["new", a] =>
    let p := Lean.mkIdent (Lean.Name.mkSimple ("p" ++ a))
    let n := Lean.mkIdent (Lean.Name.mkSimple ("n" ++ a))
    let H := Lean.mkIdent (Lean.Name.mkSimple ("H" ++ a))
    let s := Lean.mkIdent (Lean.Name.mkSimple ("s" ++ a))
    let h := Lean.mkIdent (Lean.Name.mkSimple ("h" ++ a))
    `(tactic| (intro $p $n; generalize e : upd _ $p _ = $H; have $s : Same _ $H := e ▸ same_new $n; have $h : $H $p = some _ := e ▸ upd_same; clear e))
  | _ => Lean.Macro.throwUnsupported
/-! ### the error: made, raised -/
section
variable {X : Cx}
theorem pe_tolinit {C0 : Addr} {e : Expr} {es : List Expr} {ta : TA} {p1 p2 pos : Pos} {pl : Sem Bool} (hg : Gl X "ToLimitError") (hm : X.mg "ToLimitError" = some (.ref C0)) (rT : PySem.W.readsIn X.K C0 (.type "type") = true)
    (sT : PySem.W.specialIn X.K (.ref C0) "__getattribute__" = some (some (.builtin "type.__getattribute__"))) (fT : PySem.W.findCls X.K (.ref C0) (.type "type") "__init__" = some (.val (.builtin "ValueError.__init__"))) (ha : PA X (e :: es) ta)
    (hc : eval (.Call (.Attribute (.Name "ToLimitError" p1) "__init__" p2) (e :: es) [] pos) X.env = (do
      let ov ← eval (.Name "ToLimitError" p1) X.env
      standAt p2.atName
      let (f, first) ← holding [ov] (getMethod ov "__init__" pl)
      callWith pos f first (backTo pos (starEach (e :: es) X.env)) (backToKw pos (keywordEach [] X.env))) := by rfl)
    (he : starEach (e :: es) X.env = (false, eval e X.env) :: starEach es X.env := by rfl) (hpl : (backTo pos (starEach es X.env)).any (·.1) = false := by rfl) :
    PE X (.Call (.Attribute (.Name "ToLimitError" p1) "__init__" p2) (e :: es) [] pos) (tVeI X.K ta) := by
  constructor
  intro pins s σ H Q I h
  apply PySem.W.methodCall_KW (ld_glob I hg hm _) hc
  apply PySem.W.method_cls I.kIn sT
  apply PySem.W.cls_value I.kIn rT fT (by decide +kernel)
  show wpAny _ _ (callWith pos (Value.builtin "ValueError.__init__") [] (backTo pos (starEach (e :: es) X.env)) []) _ _ _
  apply PyProof.Rows.callWith_method1 (thn (ha.run pos pins _ σ H _ (I.tok _) h) _) he hpl
  rintro us s1 ⟨vs, H1, I1, r1, a, C, ws, rfl, hl, T, ea, q⟩
  cases r1 with
  | @cons _ u0 _ ur ra rw' =>
    obtain rfl : u0 = Value.ref a := ra
    apply oinit_ok T I1 ea (by rw [← Paired.length rw', sizeLine_eq]; omega)
    intro s' J
    exact ⟨.non, H1, J, rfl, q⟩
/-- a reading of arguments, closed upwards -/
def tUp (t : TA) : TA := fun σ H Q => ∃ R : List V → Hp → Prop, t σ H R ∧ ∀ vs H', R vs H' → Q vs H'
theorem pa_up {es : List Expr} {t : TA} (h : PA X es t) : PA X es (tUp t) := ⟨fun pos pins s σ H Q I ⟨R, hR, m⟩ => by
  refine thn (h.run pos pins s σ H R I hR) fun us s1 hh => ?_
  obtain ⟨vs, H1, I1, r1, q⟩ := hh
  exact ⟨vs, H1, I1, r1, m vs H1 q⟩⟩
theorem ps_imp {st : Stmt} {t t' : TS} (h : PS X st t) (m : ∀ D σ H, t' D σ H → t D σ H) : PS X st t' := ⟨fun pins s σ H D I q => h.run pins s σ H D I (m D σ H q)⟩
end
/-- the fields of a caught problem -/
def synF (l c : Nat) : List (Str × V) := [("column", .int c), ("line", .int l)]
def spSynInit (K : PySem.W.Frag) : Sp := fun vs H Q _ => ∃ (a : Addr) (l c : Nat), vs = [.ref a, .int l, .int c] ∧ l < 1000000 ∧ c < 1000000 ∧ H a = some (exo a (cSyn K) none) ∧
  ∀ d H', H d = none → d ≠ a → H' a = some (exo a (cSyn K) (some d)) → H' d = some (exd d (synF l c)) → (∀ b o, b ≠ a → H b = some o → H' b = some o) → Q .non H'
theorem num_len {n : Nat} (h : n < 1000000) : (Str.ofString (toString ((n : Nat) : Int))).length ≤ 6 := by
  rw [TL.len_tl, TL.tl_num]
  exact TL.numL_len (by decide) (by simpa using h)
theorem log_small {n : Nat} (h : n < 1000000) : ((n : Nat) : Int).natAbs.log2 < 1920 := by
  have e : ((n : Nat) : Int).natAbs = n := rfl
  rw [e]
  by_cases h0 : n = 0
  · subst h0; decide
  · rw [Nat.log2_lt h0]
    exact Nat.lt_of_lt_of_le h (Nat.le_trans (by decide : 1000000 ≤ 2 ^ 20) (Nat.pow_le_pow_right (by decide) (by decide)))
section
variable {P : Program} {w : World} {K : PySem.W.Frag} {mg : Str → Option Value} {base : Heap}
abbrev N_SyntaxProblem_init : List Str := ["self", "line", "column"]
theorem sc_SyntaxProblem_init : FnScope N_SyntaxProblem_init ["self", "line", "column"] (defScope s_SyntaxProblem_init) := ⟨rfl, rfl, rfl, by decide +kernel, rfl, by decide +kernel, by decide +kernel⟩
theorem b_SyntaxProblem_init (T : Tx K mg) : Binds K T.fd_SyntaxProblem_init ["self", "line", "column"] [] := T.F_SyntaxProblem_init.bindsN fun _ _ _ _ _ _ us hl => match us, hl with | [_, _, _], _ => rfl
theorem app_len (x y : Str) : (x ++ y).length = x.length + y.length := by
  rw [TL.len_tl, TL.tl_append, List.length_append, TL.len_tl, TL.len_tl]
theorem ok_SyntaxProblem_init (T : Tx K mg) : FnOk P w K mg base CX0 1 (He.ma K (He.ga K "SyntaxProblem") "__init__") T.fd_SyntaxProblem_init ["self", "line", "column"] (spSynInit K) := by
  refine T.F_SyntaxProblem_init.ok sc_SyntaxProblem_init (fun vs H Q E h => ?_) (fun cdv A outer s H vs Q E hr h => ?_)
  · obtain ⟨a, l, c, rfl, _⟩ := h
    rfl
  obtain ⟨a, l, c, rfl, hl, hc, ha, q⟩ := h
  refine ⟨_, PSs.nox (pss_cons (ps_expr (pe_tolinit rfl T.g_ToLimitError T.rT T.sT T.fT (pa_cons (pv 0) (pa_cons (pe_joined (.cons pe_str (.cons (pe_fmt (pv 1)) (.cons pe_str (.cons (pe_fmt (pv 2)) .nil))))) pa_nil))))
      (pss_cons (ps_ost (pv 0) (pv 1))
      (pss_one (ps_ost (pv 0) (pv 2))))), ?_⟩
  have l0 : (Str.empty ++ Str.ofString "syntax problem at line ").length ≤ 1000 := by decide +kernel
  have l1 : (Str.ofString ", column ").length ≤ 100 := by decide +kernel
  have hl6 := num_len hl
  have hc6 := num_len hc
  refine ⟨_, rfl, _, rfl, sz _ (Nat.le_trans l0 (by decide)), _, rfl, .inr ⟨_, rfl, log_small hl, _, rfl, sz _ ?_, _, rfl, sz _ ?_, _, rfl, .inr ⟨_, rfl, log_small hc, _, rfl, sz _ ?_, ?_⟩⟩⟩
  · rw [app_len]; omega
  · rw [app_len, app_len]; omega
  · rw [app_len, app_len, app_len]; omega
  refine ⟨a, cSyn K, _, rfl, (by show 1 ≤ 1000; decide), T.ox, ha, ?_⟩
  refine ⟨_, rfl, _, rfl, a, cSyn K, rfl, T.ox, T.nl, .inl ⟨ha, fun d hd ne => ?_⟩⟩
  have ne' : d ≠ a := ne
  refine ⟨_, rfl, _, rfl, a, cSyn K, rfl, T.ox, T.nc, .inr ⟨d, _, upd_same, by rw [upd_ne ne', upd_same], (by show 1 ≤ 900; decide), ?_⟩⟩
  refine q d _ hd ne' (by rw [upd_ne ne'.symm, upd_same]) upd_same fun b o hb e => ?_
  rw [upd_ne (ne_of_none e hd), upd_ne hb, upd_ne (ne_of_none e hd)]
  exact e
theorem b_SyntaxProblem_init' (T : Tx K mg) : Binds K T.fd_SyntaxProblem_init ["self", "line", "column"] [] := b_SyntaxProblem_init T
theorem raises_syn {X : Cx} (T : Tx X.K X.mg) : Raises X (.ref (cSyn X.K)) := raises_own T.ox.exC T.ox.tyC
end
section
variable {X : Cx}
/-- raise SyntaxProblem(l, c) -/
def tRaiseSyn (K : PySem.W.Frag) (W : WX) (ta : TA) : TS := fun _ σ H => ta σ H fun vs H1 => ∃ l c : Nat, vs = [.int l, .int c] ∧ l < 1000000 ∧ c < 1000000 ∧ ∀ d H2, Same H1 H2 → H1 d = none → H2 d = some (.xd (synF l c)) → W (.ref (cSyn K)) (some d) σ H2
theorem ps_raiseSyn {es : List Expr} {e : Expr} {ta : TA} {W : WX} {p pos pos2 : Pos} {k : Nat} (T : Tx X.K X.mg) (hr : Room (k + 2) X.A) (hc : X.calm = true) (tk : Takes X W) (ha : PA X (e :: es) ta) (hg : Gl X "SyntaxProblem" := by rfl)
    (he : starEach (e :: es) X.env = (false, eval e X.env) :: starEach es X.env := by rfl) (hpl : (backTo pos (starEach es X.env)).any (·.1) = false := by rfl) :
    PS X (.Raise (some (.Call (.Name "SyntaxProblem" p) (e :: es) [] pos)) none pos2) (tRaiseSyn X.K W ta) := by
  refine ps_imp (ps_raise hc tk (pmk_oex T.ox T.iS T.tS (ok_SyntaxProblem_init (P := X.prog) (w := X.w) (base := X.base) T) (hr.mono (by omega)) (b_SyntaxProblem_init T) .nil pass0 hg T.g_SyntaxProblem (pa_up ha) (by decide) he hpl)) fun D σ H h => ?_
  refine ⟨_, h, ?_⟩
  rintro vs H1 ⟨l, c, rfl, hl, hc', q⟩
  refine ⟨(by show 2 ≤ 1000; decide), fun a na => ⟨a, l, c, rfl, hl, hc', upd_same, fun d H2 nd ne e1 e2 k => ⟨rfl, d, _, e1, e2, ?_, ?_⟩⟩⟩
  · rw [upd_ne ne] at nd; exact nd
  · rw [upd_ne ne] at nd
    refine q d _ (fun b o e => ?_) nd upd_same
    have hb : b ≠ a := ne_of_none e na
    rw [upd_ne (ne_of_none e nd), del_ne hb]
    exact k b o hb (by rw [upd_ne hb]; exact e)
end
end Kw

set_option Elab.async false
set_option linter.all false
set_option maxRecDepth 100000
set_option maxHeartbeats 4000000
namespace Kw
open PySem PySem.Spec PyProof.Rows L2
local macro_rules | `(tactic| walk_at $s:str) => do
  match s.getString.splitOn " " with
  | ["new", a] =>
    let p := Lean.mkIdent (Lean.Name.mkSimple ("p" ++ a))
    let n := Lean.mkIdent (Lean.Name.mkSimple ("n" ++ a))
    let H := Lean.mkIdent (Lean.Name.mkSimple ("H" ++ a))
    let s := Lean.mkIdent (Lean.Name.mkSimple ("s" ++ a))
    let h := Lean.mkIdent (Lean.Name.mkSimple ("h" ++ a))
    `(tactic| (intro $p $n; generalize e : upd _ $p _ = $H; have $s : Same _ $H := e ▸ same_new $n; have $h : $H $p = some _ := e ▸ upd_same; clear e))
  | _ => Lean.Macro.throwUnsupported
/-! ### texts by their signs -/
abbrev tl (z : Str) : List Nat := TL.tl z
def mk (l : List Nat) : Str := ⟨l.toArray⟩
theorem tl_mk (l : List Nat) : tl (mk l) = l := rfl
theorem mk_tl (z : Str) : mk (tl z) = z := rfl
theorem mk_len (l : List Nat) : (mk l).length = l.length := rfl
theorem len_tl (z : Str) : z.length = (tl z).length := rfl
theorem cut_sub {z : Str} {a b : Nat} (h : a ≤ (tl z).length) : cutS z (some (a : Int)) (some (b : Int)) = mk (((tl z).drop a).take (b - a)) := by
  have key : ∀ (l : List Nat) (n : Nat), n = l.length → a ≤ n → (l.drop (min a n)).take (min b n - min a n) = (l.drop a).take (b - a) := by
    intro l n hn ha
    subst hn
    rw [Nat.min_eq_left ha]
    by_cases c : b ≤ l.length
    · rw [Nat.min_eq_left c]
    · have l2 : (l.drop a).length = l.length - a := List.length_drop
      rw [Nat.min_eq_right (by omega), List.take_of_length_le (by omega), List.take_of_length_le (by omega)]
  unfold cutS mk
  rw [HT.sIx_nat, HT.sIx_nat]
  exact congrArg (fun l : List Nat => (⟨l.toArray⟩ : Str)) (key (tl z) z.length (len_tl z) h)
def sSmall : Str := "abcdefghijklmnopqrstuvwxyz"
def sDig : Str := "0123456789"
def sAl : Str := sSmall ++ sDig
def inS (z : Str) (c : Nat) : Bool := decide (c ∈ z.cps.toList)
/-- the run of such signs at the head -/
def run (z : Str) (r : List Nat) : List Nat := r.takeWhile (inS z)
theorem run_nil {z : Str} : run z [] = [] := rfl
theorem run_yes {z : Str} {c : Nat} {r : List Nat} (h : inS z c = true) : run z (c :: r) = c :: run z r := by
  unfold run; rw [List.takeWhile_cons, if_pos h]
theorem run_no {z : Str} {c : Nat} {r : List Nat} (h : inS z c = false) : run z (c :: r) = [] := by
  unfold run; rw [List.takeWhile_cons, h] <;> rfl
theorem run_take (z : Str) (r : List Nat) : r.take (run z r).length = run z r := by
  unfold run
  induction r with
  | nil => rfl
  | cons c r ih =>
    rw [List.takeWhile_cons]
    split
    · rw [List.length_cons, List.take_succ_cons, ih]
    · rfl
theorem run_len (z : Str) (r : List Nat) : (run z r).length ≤ r.length := by
  have e := run_take z r
  have := congrArg List.length e
  rw [List.length_take] at this
  omega
theorem drop_cons {l : List Nat} {i : Nat} (h : i < l.length) : l.drop i = l[i] :: l.drop (i + 1) := List.drop_eq_getElem_cons h
/-! ### tokens: the mirror -/
def sKeys : List Str := ["vars", "repeat", "forever", "mean", "end"]
def sSyms : List Str := [":=", "+", "-", "*", "/", "(", ")", ","]
structure Tk where
  kind : Str
  text : Str
  col : Nat
/-- the token at the head of some signs: its kind and its text -/
def tokC (c : Nat) (r : List Nat) : Option (Str × Str) :=
  if inS sSmall c = true then
    if decide (mk (run sAl r) ∈ sKeys) = true then some ("word", mk (run sAl r)) else if 8 < (run sAl r).length then none else some ("name", mk (run sAl r))
  else if inS sDig c = true then
    if 6 < (run sDig r).length ∨ (1 < (run sDig r).length ∧ c = 48) then none else some ("number", mk (run sDig r))
  else (sSyms.find? fun s => decide (mk (r.take s.length) = s)).map fun s => ("symbol", s)
def tok1 : List Nat → Option (Str × Str)
  | [] => none
  | c :: r => tokC c (c :: r)
/-- all tokens: the column of the first problem, or the tokens -/
def lexGo (z : List Nat) : Nat → Nat → List Tk → Except Nat (List Tk)
  | 0, _, ts => .ok ts
  | n + 1, i, ts => match z.drop i with
    | [] => .ok ts
    | c :: r => if c = 32 then lexGo z n (i + 1) ts else match tok1 (c :: r) with
      | none => .error (i + 1)
      | some (k, t) => if ts.length = 150 then .error (i + 1) else lexGo z n (i + t.length) (ts ++ [⟨k, t, i + 1⟩])
def lexM (z : Str) : Except Nat (List Tk) := lexGo (tl z) ((tl z).length + 1) 0 []
def endTk (z : Str) : Tk := ⟨"end of line", "", (tl z).length + 1⟩
theorem tok1_len {r : List Nat} {k t : Str} (h : tok1 r = some (k, t)) : 0 < t.length ∧ t.length ≤ r.length := by
  cases r with
  | nil => cases h
  | cons c r =>
    have h : tokC c (c :: r) = some (k, t) := h
    unfold tokC at h
    by_cases a : inS sSmall c = true
    · have p : 0 < (run sAl (c :: r)).length := by
        have : inS sAl c = true := by
          unfold inS sAl at *
          have e : (sSmall ++ sDig).cps.toList = sSmall.cps.toList ++ sDig.cps.toList := TL.tl_append _ _
          rw [e]
          exact decide_eq_true (List.mem_append_left _ (of_decide_eq_true a))
        rw [run_yes this]; simp
      have q := run_len sAl (c :: r)
      rw [if_pos a] at h
      split at h
      · cases h; exact ⟨p, q⟩
      · split at h
        · cases h
        · cases h; exact ⟨p, q⟩
    · rw [if_neg a] at h
      by_cases b : inS sDig c = true
      · have p : 0 < (run sDig (c :: r)).length := by rw [run_yes b]; simp
        have q := run_len sDig (c :: r)
        rw [if_pos b] at h
        split at h
        · cases h
        · cases h; exact ⟨p, q⟩
      · rw [if_neg b] at h
        cases e : sSyms.find? fun s => decide (mk ((c :: r).take s.length) = s) with
        | none => rw [e] at h; cases h
        | some s =>
          rw [e] at h
          cases h
          have m := List.mem_of_find?_eq_some e
          have l0 := List.find?_some e
          have l := of_decide_eq_true l0
          have l2 := congrArg Str.length l
          rw [mk_len, List.length_take] at l2
          have : 0 < t.length := by
            have all : ∀ s ∈ sSyms, 0 < s.length := by decide +kernel
            exact all t m
          omega
/-! ### the promises -/
def tkF (t : Tk) : List (Str × V) := [("kind", .str t.kind), ("spelling", .str t.text), ("column", .int t.col)]
/-- a token stands at a -/
def TkAt (K : PySem.W.Frag) (H : Hp) (a : Addr) (t : Tk) : Prop := ∃ dx, H a = some (.ins (He.ga K "Token") dx (tkF t))
/-- a list of tokens at l -/
def TksAt (K : PySem.W.Frag) (H : Hp) (l : Addr) (ts : List Tk) : Prop := ∃ as : List Addr, H l = some (.lst (as.map V.ref)) ∧ as.length = ts.length ∧ ∀ (i : Nat) (a : Addr) (t : Tk), as[i]? = some a → ts[i]? = some t → TkAt K H a t
theorem TkAt.same {K : PySem.W.Frag} {H H' : Hp} {a : Addr} {t : Tk} (h : TkAt K H a t) (s : Same H H') : TkAt K H' a t := let ⟨dx, e⟩ := h; ⟨dx, s _ _ e⟩
theorem TksAt.same {K : PySem.W.Frag} {H H' : Hp} {a : Addr} {ts : List Tk} (h : TksAt K H a ts) (s : Same H H') : TksAt K H' a ts :=
  let ⟨as, e, l, k⟩ := h
  ⟨as, s _ _ e, l, fun i b t h1 h2 => (k i b t h1 h2).same s⟩
def spTokInit (K : PySem.W.Frag) : Sp := fun vs H Q _ => ∃ (p dx : Addr) (t : Tk), vs = [.ref p, .str t.kind, .str t.text, .int t.col] ∧ H p = some (.ins (He.ga K "Token") dx []) ∧
  ∀ H', H' p = some (.ins (He.ga K "Token") dx (tkF t)) → (∀ b o, b ≠ p → H b = some o → H' b = some o) → Q .non H'
def spRun : Sp := fun vs H Q _ => ∃ (z sg : Str) (i : Nat), vs = [.str z, .int i, .str sg] ∧ i ≤ (tl z).length ∧ (tl z).length ≤ 100000 ∧ Q (.int ((i + (run sg ((tl z).drop i)).length : Nat) : Int)) H
/-- how a problem leaves: line l, column c -/
def Bad (K : PySem.W.Frag) (H : Hp) (E : XK) (l c : Nat) : Prop := ∀ d H', Same H H' → H d = none → H' d = some (.xd (synF l c)) → E (.ref (cSyn K)) (some d) H'
def spTok (K : PySem.W.Frag) : Sp := fun vs H Q E => ∃ (z : Str) (l i : Nat), vs = [.str z, .int l, .int i] ∧ i < (tl z).length ∧ (tl z).length ≤ 100000 ∧ l < 1000000 ∧
  (match tok1 ((tl z).drop i) with
    | none => Bad K H E l (i + 1)
    | some (k, t) => ∀ a H', Same H H' → H a = none → TkAt K H' a ⟨k, t, i + 1⟩ → Q (.ref a) H')
def spToks (K : PySem.W.Frag) : Sp := fun vs H Q E => ∃ (z : Str) (l : Nat), vs = [.str z, .int l] ∧ (tl z).length ≤ 100000 ∧ l < 1000000 ∧
  (match lexM z with
    | .error c => Bad K H E l c
    | .ok ts => ∀ a H', Same H H' → H a = none → TksAt K H' a (ts ++ [endTk z]) → Q (.ref a) H')
section
variable {P : Program} {w : World} {K : PySem.W.Frag} {mg : Str → Option Value} {base : Heap}
abbrev N_Token_init : List Str := ["self", "kind", "text", "column"]
theorem sc_Token_init : FnScope N_Token_init ["self", "kind", "text", "column"] (defScope s_Token_init) := ⟨rfl, rfl, rfl, by decide +kernel, rfl, by decide +kernel, by decide +kernel⟩
theorem b_Token_init (T : Tx K mg) : Binds K T.fd_Token_init ["self", "kind", "text", "column"] [] := T.F_Token_init.bindsN fun _ _ _ _ _ _ us hl => match us, hl with | [_, _, _, _], _ => rfl
theorem ok_Token_init (T : Tx K mg) : FnOk P w K mg base CX0 1 (He.ma K (He.ga K "Token") "__init__") T.fd_Token_init ["self", "kind", "text", "column"] (spTokInit K) := by
  refine T.F_Token_init.ok sc_Token_init (fun vs H Q E h => ?_) (fun cdv A outer s H vs Q E hr h => ?_)
  · obtain ⟨p, dx, t, rfl, _⟩ := h
    rfl
  obtain ⟨p, dx, t, rfl, hp, q⟩ := h
  refine ⟨_, PSs.nox (pss_cons (ps_fld (pv 0) (pv 1) rfl)
      (pss_cons (ps_fld (pv 0) (pv 2) rfl)
      (pss_one (ps_fld (pv 0) (pv 3) rfl)))), ?_⟩
  refine ⟨_, rfl, _, rfl, p, _, dx, _, rfl, hp, T.cl_Token, T.na_Token_kind, by decide, _, rfl, _, rfl, p, _, dx, _, rfl, upd_same, T.cl_Token, T.na_Token_spelling, (by show 1 < 1000; decide), _, rfl, _, rfl, p, _, dx, _, rfl, upd_same, T.cl_Token, T.na_Token_column, (by show 2 < 1000; decide), ?_⟩
  refine q _ upd_same fun b o hb e => ?_
  rw [upd_ne hb, upd_ne hb, upd_ne hb]
  exact e
abbrev N_end_of_run : List Str := ["line", "start", "signs", "end"]
theorem sc_end_of_run : FnScope N_end_of_run ["line", "start", "signs"] (defScope s_end_of_run) := ⟨rfl, rfl, rfl, by decide +kernel, rfl, by decide +kernel, by decide +kernel⟩
theorem b_end_of_run (T : Tx K mg) : Binds K T.fd_end_of_run ["line", "start", "signs"] [] := T.F_end_of_run.bindsN fun _ _ _ _ _ _ us hl => match us, hl with | [_, _, _], _ => rfl
theorem ok_end_of_run (T : Tx K mg) : FnOk P w K mg base CX0 1 (He.ga K "end_of_run") T.fd_end_of_run ["line", "start", "signs"] spRun := by
  refine T.F_end_of_run.ok sc_end_of_run (fun vs H Q E h => ?_) (fun cdv A outer s H vs Q E hr h => ?_)
  · obtain ⟨z, sg, i, rfl, _⟩ := h
    rfl
  obtain ⟨z, sg, i, rfl, hi, hz, q⟩ := h
  refine ⟨_, PSs.nox (pss_cons (ps_set (i := 3) sc_end_of_run.nd rfl (Or.inl rfl) (pv 1))
      (pss_cons (ps_while PassesOwn.never (PW.pt (pw_and (pt_cmpR (op_lt) (pv 3) (pe_callB call_len_str rfl T.z_len PySem.boot_len (pa_cons (pv 0) pa_nil)) (nomark _)) (pw_and1 (pt_cmpR (op_in_sign) (pe_ix ix_str (pv 0) (pv 3) (fun _ _ => rfl)) (pv 2) (by rfl))))) (pss_one (ps_aug (i := 3) sc_end_of_run.nd rfl (Or.inl rfl) pe_int ip_add)))
      (pss_one (ps_ret (pv 3))))), ?_⟩
  refine ⟨_, rfl, ?_⟩
  refine while_by (fun σ H' => H' = H ∧ ∃ j : Nat, σ = [some (.str z), some (.int i), some (.str sg), some (.int j)] ∧ j ≤ (tl z).length ∧ j + (run sg ((tl z).drop j)).length = i + (run sg ((tl z).drop i)).length) (fun σ _ => match σ with
    | [_, _, _, some (.int j)] => (tl z).length - j.toNat
    | _ => 0) ⟨rfl, i, rfl, hi, rfl⟩ ?_ ?_
  · rintro σ H' ⟨rfl, j, rfl, hj, e⟩
    refine ⟨_, rfl, _, rfl, _, rfl, sz _ hz, _, _, rfl, rfl, _, rfl, ?_⟩
    by_cases c : j < (tl z).length
    · rw [decide_eq_true (show (j : Int) < ((z.length : Nat) : Int) from Int.ofNat_lt.mpr c)]
      refine iteT ?_
      have eg : (tl z)[j]? = some (tl z)[j] := List.getElem?_eq_getElem c
      refine ⟨_, rfl, _, rfl, z, j, (tl z)[j], rfl, rfl, sz _ hz, atI_nat eg, _, rfl, _, sg, rfl, rfl, _, rfl, ?_⟩
      cases d : inS sg (tl z)[j] with
      | true =>
        rw [show decide ((tl z)[j] ∈ sg.cps.toList) = true from d]
        refine iteT ?_
        refine ⟨_, rfl, _, _, rfl, rfl, ⟨rfl, j + 1, rfl, c, ?_⟩, ?_⟩
        · rw [← e, drop_cons c, run_yes d, List.length_cons]
          omega
        · show (tl z).length - (((j : Int) + 1).toNat) < (tl z).length - ((j : Int).toNat)
          omega
      | false =>
        rw [show decide ((tl z)[j] ∈ sg.cps.toList) = false from d]
        refine iteF ?_
        rw [drop_cons c, run_no d] at e
        refine ⟨_, rfl, ?_⟩
        rw [← e] at q
        exact q
    · rw [decide_eq_false (show ¬ (j : Int) < ((z.length : Nat) : Int) from fun y => c (Int.ofNat_lt.mp y))]
      refine iteF ?_
      refine iteF ?_
      have ej : j = (tl z).length := by omega
      rw [List.drop_eq_nil_of_le (Nat.le_of_eq ej.symm), run_nil] at e
      refine ⟨_, rfl, ?_⟩
      rw [← e] at q
      exact q
  · intro σ H' Q1 Q2 hQ h
    obtain ⟨v, e, v2, e2, z', e3, l, i1, i2, e4, e5, k, e6, h⟩ := h
    refine ⟨v, e, v2, e2, z', e3, l, i1, i2, e4, e5, k, e6, ?_⟩
    cases k with
    | false => exact hQ _ _ h
    | true =>
      obtain ⟨v, e, v2, e2, z', i', c', e3, e4, l, a, v3, e5, c2, z2, e6, e7, k2, e8, h⟩ := h
      exact ⟨v, e, v2, e2, z', i', c', e3, e4, l, a, v3, e5, c2, z2, e6, e7, k2, e8, hQ _ _ h⟩
end
end Kw

set_option Elab.async false
set_option linter.all false
set_option maxRecDepth 100000
set_option maxHeartbeats 4000000
namespace Kw
open PySem PySem.Spec PyProof.Rows L2
local macro_rules | `(tactic| walk_at $s:str) => do
  match s.getString.splitOn " " with
  | ["new", a] =>
    let p := Lean.mkIdent (Lean.Name.mkSimple ("p" ++ a))
    let n := Lean.mkIdent (Lean.Name.mkSimple ("n" ++ a))
    let H := Lean.mkIdent (Lean.Name.mkSimple ("H" ++ a))
    let s := Lean.mkIdent (Lean.Name.mkSimple ("s" ++ a))
    let h := Lean.mkIdent (Lean.Name.mkSimple ("h" ++ a))
    `(tactic| (intro $p $n; generalize e : upd _ $p _ = $H; have $s : Same _ $H := e ▸ same_new $n; have $h : $H $p = some _ := e ▸ upd_same; clear e))
  | _ => Lean.Macro.throwUnsupported
theorem inV_strs (t : Str) : ∀ l : List Str, inV (.str t) (l.map V.str) = decide (t ∈ l)
  | [] => rfl
  | a :: l => by
    have ih := inV_strs t l
    unfold inV at *
    rw [List.map_cons, List.any_cons, ih]
    show ((a == t) || decide (t ∈ l)) = _
    by_cases e : a = t
    · subst e; simp
    · have e' : ¬ t = a := fun q => e q.symm
      simp [e, e']
theorem flat_strs : ∀ l : List Str, (l.map V.str).all flatV = true
  | [] => rfl
  | _ :: l => flat_strs l
theorem Bad.same {K : PySem.W.Frag} {H H1 : Hp} {E : XK} {l c : Nat} (b : Bad K H E l c) (s : Same H H1) : Bad K H1 E l c := fun d H' s1 n e => b d H' (s.trans s1) (s.free n) e
theorem tks_snoc {K : PySem.W.Frag} {H : Hp} {l a : Addr} {as : List Addr} {ts : List Tk} {t : Tk} (hl : as.length = ts.length) (k : ∀ (i : Nat) (b : Addr) (u : Tk), as[i]? = some b → ts[i]? = some u → TkAt K H b u) (ta : TkAt K H a t)
    (e : H l = some (.lst (as.map V.ref ++ [V.ref a]))) : TksAt K H l (ts ++ [t]) := by
  refine ⟨as ++ [a], by rw [e, List.map_append] <;> rfl, by rw [List.length_append, List.length_append, hl] <;> rfl, fun j b u h1 h2 => ?_⟩
  rw [List.getElem?_append] at h1 h2
  rw [hl] at h1
  split at h1
  · rename_i g
    rw [if_pos g] at h2
    exact k j b u h1 h2
  · rename_i g
    rw [if_neg g] at h2
    cases ej : j - ts.length with
    | zero =>
      rw [ej] at h1 h2
      rw [← Option.some.inj h1, ← Option.some.inj h2]
      exact ta
    | succ y =>
      rw [ej] at h1
      simp at h1
/-- a text of one sign, compared -/
theorem one_eq (c d : Nat) (z : Str) (e : z = ⟨#[d]⟩) : decide (V.str ⟨#[c]⟩ = V.str z) = decide (c = d) := by
  subst e
  by_cases h : c = d
  · subst h; simp
  · rw [decide_eq_false h]
    exact decide_eq_false fun y => h (by
      have y1 := Str.mk.inj (V.str.inj y)
      have y2 := congrArg Array.toList y1
      exact (List.cons.inj y2).1)
section
variable {P : Program} {w : World} {K : PySem.W.Frag} {mg : Str → Option Value} {base : Heap}
/-- a new token -/
theorem make_tok {H : Hp} {E : XK} (t : Tk) {G : Addr → Hp → Prop} (q : ∀ a H', Same H H' → H a = none → TkAt K H' a t → G a H') :
    ∀ x dx, H x = none → H dx = none → dx ≠ x → spTokInit K (.ref x :: ([.str t.kind, .str t.text, .int t.col] ++ [])) (upd (upd H dx (.own x)) x (.ins (He.ga K "Token") dx [])) (fun v H2 => v = .non ∧ G x H2) E := by
  intro x dx nx ndx ne
  refine ⟨x, dx, t, rfl, upd_same, fun H' e k => ⟨rfl, q x H' (fun b o z => ?_) nx ⟨dx, e⟩⟩⟩
  have h1 : b ≠ x := ne_of_none z nx
  exact k b o h1 (by rw [upd_ne h1, upd_ne (ne_of_none z ndx)]; exact z)
abbrev N_token_at : List Str := ["line", "number", "start", "sign", "text", "symbol"]
theorem sc_token_at : FnScope N_token_at ["line", "number", "start"] (defScope s_token_at) := ⟨rfl, rfl, rfl, by decide +kernel, rfl, by decide +kernel, by decide +kernel⟩
theorem b_token_at (T : Tx K mg) : Binds K T.fd_token_at ["line", "number", "start"] [] := T.F_token_at.bindsN fun _ _ _ _ _ _ us hl => match us, hl with | [_, _, _], _ => rfl
theorem ok_token_at (T : Tx K mg) : FnOk P w K mg base (L2.CX P w) 4 (He.ga K "token_at") T.fd_token_at ["line", "number", "start"] (spTok K) := by
  refine T.F_token_at.ok sc_token_at (fun vs H Q E h => ?_) (fun cdv A outer s H vs Q E hr h => ?_)
  · obtain ⟨z, l, i, rfl, _⟩ := h
    rfl
  obtain ⟨z, l, i, rfl, hi, hz, hl, q⟩ := h
  have tk0 : Takes (cxOf (L2.CX P w) P w K mg base N_token_at "token_at" (defScope s_token_at) (He.ga K "token_at") cdv A outer s H E) (fun cls d _ H => E cls d H) := takes_of rfl rfl rfl rfl
  refine ⟨_, (pss_cons (ps_set (i := 3) sc_token_at.nd rfl (Or.inl rfl) (pe_ix ix_str (pv 0) (pv 2) (fun _ _ => rfl)))
      (pss_cons (ps_if (pt_cmpR (op_in_sign) (pv 3) (pe_gv rfl T.c_SMALL) (by rfl)) (pss_cons (ps_set (i := 4) sc_token_at.nd rfl (Or.inl rfl) (pe_slice sl_str (pv 0) (po_some (pv 2)) (po_some (pe_call (ok_end_of_run T) (hr.mono (by decide)) rfl T.g_end_of_run T.F_end_of_run.kp (b_end_of_run T) .nil pass0 (pa_cons (pv 0) (pa_cons (pv 2) (pa_cons (pe_op op_add_str (pe_gv rfl T.c_SMALL) (pe_gv rfl T.c_DIGITS)) pa_nil)))))))
      (pss_cons (ps_if (PW.pt (pw_and (pt_cmpR (r := rIn K true) (op_notIn_seq) (pv 4) (pe_gr rfl T.g_KEYWORDS) (by rfl)) (pw_and1 (pt_cmpR (op_gt) (pe_callB call_len_str rfl T.z_len PySem.boot_len (pa_cons (pv 4) pa_nil)) (pe_gv rfl T.c_MAX_NAME) (nomark _))))) (pss_one (ps_raiseSyn T hr rfl tk0 (pa_cons (pv 1) (pa_cons (pe_op op_add (pv 2) pe_int) pa_nil)))) pss_nil)
      (pss_one (ps_ret (pe_make T.mk_Token (ok_Token_init T) (hr.mono (by decide)) rfl T.g_Token (b_Token_init T) .nil pass0 (pa_cons (pe_ifExp (pt_cmpR (r := rIn K false) (op_in_seq) (pv 4) (pe_gr rfl T.g_KEYWORDS) (by rfl)) pe_str pe_str) (pa_cons (pv 4) (pa_cons (pe_op op_add (pv 2) pe_int) pa_nil)))))))) pss_nil)
      (pss_cons (ps_if (pt_cmpR (op_in_sign) (pv 3) (pe_gv rfl T.c_DIGITS) (by rfl)) (pss_cons (ps_set (i := 4) sc_token_at.nd rfl (Or.inl rfl) (pe_slice sl_str (pv 0) (po_some (pv 2)) (po_some (pe_call (ok_end_of_run T) (hr.mono (by decide)) rfl T.g_end_of_run T.F_end_of_run.kp (b_end_of_run T) .nil pass0 (pa_cons (pv 0) (pa_cons (pv 2) (pa_cons (pe_gv rfl T.c_DIGITS) pa_nil)))))))
      (pss_cons (ps_if (PW.pt (pw_or (pt_cmpR (op_gt) (pe_callB call_len_str rfl T.z_len PySem.boot_len (pa_cons (pv 4) pa_nil)) (pe_gv rfl T.c_MAX_DIGITS) (nomark _)) (pw_or1 (PW.pt (pw_and (pt_cmpR (op_gt) (pe_callB call_len_str rfl T.z_len PySem.boot_len (pa_cons (pv 4) pa_nil)) pe_int (nomark _)) (pw_and1 (pt_cmpR (op_eq) (pv 3) pe_str (nomark _)))))))) (pss_one (ps_raiseSyn T hr rfl tk0 (pa_cons (pv 1) (pa_cons (pe_op op_add (pv 2) pe_int) pa_nil)))) pss_nil)
      (pss_one (ps_ret (pe_make T.mk_Token (ok_Token_init T) (hr.mono (by decide)) rfl T.g_Token (b_Token_init T) .nil pass0 (pa_cons pe_str (pa_cons (pv 4) (pa_cons (pe_op op_add (pv 2) pe_int) pa_nil)))))))) pss_nil)
      (pss_cons (ps_for (passes_of rfl) rfl (pi_tup (pe_gr rfl T.g_SYMBOLS)) (pg_name (i := 5) sc_token_at.nd rfl (Or.inl rfl)) (pss_one (ps_if (pt_cmpR (op_eq) (pe_slice sl_str (pv 0) (po_some (pv 2)) (po_some (pe_op op_add (pv 2) (pe_callB call_len_str rfl T.z_len PySem.boot_len (pa_cons (pv 5) pa_nil))))) (pv 5) (nomark _)) (pss_one (ps_ret (pe_make T.mk_Token (ok_Token_init T) (hr.mono (by decide)) rfl T.g_Token (b_Token_init T) .nil pass0 (pa_cons pe_str (pa_cons (pv 5) (pa_cons (pe_op op_add (pv 2) pe_int) pa_nil)))))) pss_nil)))
      (pss_one (ps_raiseSyn T hr rfl tk0 (pa_cons (pv 1) (pa_cons (pe_op op_add (pv 2) pe_int) pa_nil)))))))), ?_⟩
  have eg : (tl z)[i]? = some (tl z)[i] := List.getElem?_eq_getElem hi
  have hd := drop_cons hi
  generalize (tl z)[i] = c at eg hd
  rw [hd] at q
  have q : (match tokC c (c :: (tl z).drop (i + 1)) with
    | none => Bad K H E l (i + 1)
    | some (k, t) => ∀ a H', Same H H' → H a = none → TkAt K H' a ⟨k, t, i + 1⟩ → Q (.ref a) H') := q
  rw [← hd] at q
  have hz' : z.length ≤ sizeLine := sz _ hz
  have cut : ∀ n : Nat, cutS z (some ((i : Nat) : Int)) (some ((i + n : Nat) : Int)) = mk (((tl z).drop i).take n) := fun n => by
    rw [cut_sub (Nat.le_of_lt hi), Nat.add_sub_cancel_left]
  have bad : Bad K H E l (i + 1) → ∀ (d : Addr) (H2 : Hp), Same H H2 → H d = none → H2 d = some (.xd (synF l (i + 1))) → E (.ref (cSyn K)) (some d) H2 := fun b d H2 s n e => b d H2 s n e
  have li : i + 1 < 1000000 := by omega
  unfold tokC at q
  refine ⟨_, rfl, _, rfl, z, i, c, rfl, rfl, hz', atI_nat eg, ?_⟩
  refine ⟨_, rfl, c, sSmall, rfl, rfl, _, rfl, ?_⟩
  cases a1 : inS sSmall c with
  | true =>
    rw [show decide (c ∈ sSmall.cps.toList) = true from a1]
    refine iteT ?_
    rw [if_pos a1] at q
    have lr : (run sAl ((tl z).drop i)).length ≤ 100000 := Nat.le_trans (run_len _ _) (by rw [List.length_drop]; omega)
    refine ⟨_, rfl, _, rfl, _, rfl, _, rfl, _, rfl, _, _, rfl, rfl, (by decide +kernel), z, sAl, i, rfl, Nat.le_of_lt hi, hz, _, rfl, z, rfl, hz', ?_⟩
    rw [cut, run_take]
    have kw : inV (.str (mk (run sAl ((tl z).drop i)))) [V.str "vars", V.str "repeat", V.str "forever", V.str "mean", V.str "end"] = decide (mk (run sAl ((tl z).drop i)) ∈ sKeys) := inV_strs _ sKeys
    have fl : ([V.str "vars", V.str "repeat", V.str "forever", V.str "mean", V.str "end"]).all flatV = true := flat_strs sKeys
    have ml : (mk (run sAl ((tl z).drop i))).length = (run sAl ((tl z).drop i)).length := rfl
    generalize mk (run sAl ((tl z).drop i)) = t at *
    refine ⟨_, rfl, _, _, rfl, .inr (T.t_KEYWORDS _), rfl, fl, _, rfl, ?_⟩
    rw [kw]
    have mkT : ∀ (k : Str) (G : Addr → Hp → Prop), (∀ a H', Same H H' → H a = none → TkAt K H' a ⟨k, t, i + 1⟩ → G a H') → ∀ x dx, H x = none → H dx = none → dx ≠ x →
        spTokInit K (.ref x :: ([.str k, .str t, .int ((i : Int) + 1)] ++ [])) (upd (upd H dx (.own x)) x (.ins (He.ga K "Token") dx [])) (fun v H2 => v = .non ∧ G x H2) E := fun k G g => make_tok ⟨k, t, i + 1⟩ g
    cases a2 : decide (t ∈ sKeys) with
    | true =>
      rw [if_pos a2] at q
      refine iteF ?_
      refine iteF ?_
      refine ⟨_, rfl, _, _, rfl, .inr (T.t_KEYWORDS _), rfl, fl, _, rfl, ?_⟩
      rw [kw, a2]
      refine iteT ?_
      exact ⟨_, rfl, _, rfl, _, _, rfl, rfl, mkT _ _ q⟩
    | false =>
      rw [if_neg (by rw [a2]; exact Bool.false_ne_true)] at q
      refine iteT ?_
      refine ⟨_, rfl, _, rfl, sz _ (by rw [ml]; exact lr), _, _, rfl, rfl, _, rfl, ?_⟩
      by_cases a3 : 8 < (run sAl ((tl z).drop i)).length
      · rw [if_pos a3] at q
        rw [decide_eq_true (show (8 : Int) < ((t.length : Nat) : Int) by omega)]
        refine iteT ?_
        exact ⟨_, rfl, _, rfl, _, _, rfl, rfl, l, i + 1, rfl, hl, li, bad q⟩
      · rw [if_neg a3] at q
        rw [decide_eq_false (show ¬ (8 : Int) < ((t.length : Nat) : Int) by omega)]
        refine iteF ?_
        refine ⟨_, rfl, _, _, rfl, .inr (T.t_KEYWORDS _), rfl, fl, _, rfl, ?_⟩
        rw [kw, a2]
        refine iteF ?_
        exact ⟨_, rfl, _, rfl, _, _, rfl, rfl, mkT _ _ q⟩
  | false =>
    rw [show decide (c ∈ sSmall.cps.toList) = false from a1]
    refine iteF ?_
    rw [if_neg (by rw [a1]; exact Bool.false_ne_true)] at q
    refine ⟨_, rfl, c, sDig, rfl, rfl, _, rfl, ?_⟩
    have mkT : ∀ (k t : Str) (G : Addr → Hp → Prop), (∀ a H', Same H H' → H a = none → TkAt K H' a ⟨k, t, i + 1⟩ → G a H') → ∀ x dx, H x = none → H dx = none → dx ≠ x →
        spTokInit K (.ref x :: ([.str k, .str t, .int ((i : Int) + 1)] ++ [])) (upd (upd H dx (.own x)) x (.ins (He.ga K "Token") dx [])) (fun v H2 => v = .non ∧ G x H2) E := fun k t G g => make_tok ⟨k, t, i + 1⟩ g
    cases b1 : inS sDig c with
    | true =>
      rw [show decide (c ∈ sDig.cps.toList) = true from b1]
      refine iteT ?_
      rw [if_pos b1] at q
      have lr : (run sDig ((tl z).drop i)).length ≤ 100000 := Nat.le_trans (run_len _ _) (by rw [List.length_drop]; omega)
      refine ⟨_, rfl, _, rfl, _, rfl, _, rfl, _, rfl, z, sDig, i, rfl, Nat.le_of_lt hi, hz, _, rfl, z, rfl, hz', ?_⟩
      rw [cut, run_take]
      have ml : (mk (run sDig ((tl z).drop i))).length = (run sDig ((tl z).drop i)).length := rfl
      generalize mk (run sDig ((tl z).drop i)) = t at *
      refine ⟨_, rfl, _, rfl, sz _ (by rw [ml]; exact lr), _, _, rfl, rfl, _, rfl, ?_⟩
      by_cases b2 : 6 < (run sDig ((tl z).drop i)).length
      · rw [if_pos (.inl b2)] at q
        rw [decide_eq_true (show (6 : Int) < ((t.length : Nat) : Int) by omega)]
        refine iteT ?_
        refine iteT ?_
        exact ⟨_, rfl, _, rfl, _, _, rfl, rfl, l, i + 1, rfl, hl, li, bad q⟩
      · rw [decide_eq_false (show ¬ (6 : Int) < ((t.length : Nat) : Int) by omega)]
        refine iteF ?_
        refine ⟨_, rfl, _, rfl, sz _ (by rw [ml]; exact lr), _, _, rfl, rfl, _, rfl, ?_⟩
        have c48 : decide (V.str ⟨#[c]⟩ = V.str "0") = decide (c = 48) := by
          have e : ("0" : Str) = ⟨#[48]⟩ := by decide +kernel
          rw [e]
          by_cases d : c = 48
          · subst d; simp
          · rw [decide_eq_false d]
            exact decide_eq_false fun y => d (by
              have y1 := Str.mk.inj (V.str.inj y)
              have y2 := congrArg Array.toList y1
              exact (List.cons.inj y2).1)
        by_cases b3 : 1 < (run sDig ((tl z).drop i)).length
        · rw [decide_eq_true (show (1 : Int) < ((t.length : Nat) : Int) by omega)]
          refine iteT ?_
          refine ⟨_, rfl, rfl, _, rfl, ?_⟩
          rw [c48]
          by_cases b4 : c = 48
          · rw [if_pos (.inr ⟨b3, b4⟩)] at q
            rw [decide_eq_true b4]
            refine iteT ?_
            exact ⟨_, rfl, _, rfl, _, _, rfl, rfl, l, i + 1, rfl, hl, li, bad q⟩
          · rw [if_neg (by rintro (h | h); exact b2 h; exact b4 h.2)] at q
            rw [decide_eq_false b4]
            refine iteF ?_
            exact ⟨_, rfl, _, rfl, _, _, rfl, rfl, mkT _ _ _ q⟩
        · rw [if_neg (by rintro (h | h); exact b2 h; exact b3 h.1)] at q
          rw [decide_eq_false (show ¬ (1 : Int) < ((t.length : Nat) : Int) by omega)]
          refine iteF ?_
          refine iteF ?_
          exact ⟨_, rfl, _, rfl, _, _, rfl, rfl, mkT _ _ _ q⟩
    | false =>
      rw [show decide (c ∈ sDig.cps.toList) = false from b1]
      refine iteF ?_
      rw [if_neg (by rw [b1]; exact Bool.false_ne_true)] at q
      have ts := T.t_SYMBOLS
      refine ⟨_, rfl, ⟨_, ts H⟩, for_tup (K := K) (xs := sSyms.map V.str) (fun j σ H' => H' = H ∧ (∃ v, σ = [some (.str z), some (.int l), some (.int i), some (.str ⟨#[c]⟩), none, v]) ∧ (sSyms.find? fun s => decide (mk (((tl z).drop i).take s.length) = s)) = (sSyms.drop j).find? fun s => decide (mk (((tl z).drop i).take s.length) = s))
        ⟨rfl, ⟨none, rfl⟩, rfl⟩ (fun j σ H' _ ⟨e, _⟩ => by rw [e]; exact ts H) ?_ ?_⟩
      · rintro j y σ H' hy ⟨rfl, ⟨v, rfl⟩, e⟩
        obtain ⟨s, hs, rfl⟩ := map_get hy
        have sl : s.length ≤ 2 := by
          have all : ∀ s ∈ sSyms, s.length ≤ 2 := by decide +kernel
          exact all s (List.mem_of_getElem? hs)
        refine ⟨_, rfl, _, rfl, _, rfl, _, rfl, _, rfl, _, rfl, sz _ (by omega), _, _, rfl, rfl, _, rfl, z, rfl, hz', _, rfl, rfl, _, rfl, ?_⟩
        have cs := cut s.length
        rw [show ((i + s.length : Nat) : Int) = (i : Int) + (s.length : Int) from rfl] at cs
        rw [cs]
        have hj : j < sSyms.length := (List.getElem?_eq_some_iff.mp hs).1
        have dj : sSyms.drop j = s :: sSyms.drop (j + 1) := by
          rw [List.drop_eq_getElem_cons hj]
          congr 1
          exact (List.getElem?_eq_some_iff.mp hs).2
        rw [dj, List.find?_cons] at e
        by_cases d : mk (((tl z).drop i).take s.length) = s
        · rw [decide_eq_true d] at e
          rw [e] at q
          rw [decide_eq_true (show V.str (mk (((tl z).drop i).take s.length)) = V.str s by rw [d])]
          refine iteT ?_
          exact ⟨_, rfl, _, rfl, _, _, rfl, rfl, mkT _ _ _ q⟩
        · rw [decide_eq_false d] at e
          rw [decide_eq_false (show ¬ V.str (mk (((tl z).drop i).take s.length)) = V.str s from fun y => d (V.str.inj y))]
          refine iteF ?_
          exact ⟨rfl, ⟨_, rfl⟩, e⟩
      · rintro σ H' ⟨rfl, ⟨v, rfl⟩, e⟩
        rw [show sSyms.drop (sSyms.map V.str).length = [] from rfl] at e
        rw [e] at q
        exact ⟨_, rfl, _, rfl, _, _, rfl, rfl, l, i + 1, rfl, hl, li, bad q⟩
abbrev N_tokens_of : List Str := ["line", "number", "tokens", "index", "token"]
theorem sc_tokens_of : FnScope N_tokens_of ["line", "number"] (defScope s_tokens_of) := ⟨rfl, rfl, rfl, by decide +kernel, rfl, by decide +kernel, by decide +kernel⟩
theorem b_tokens_of (T : Tx K mg) : Binds K T.fd_tokens_of ["line", "number"] [] := T.F_tokens_of.bindsN fun _ _ _ _ _ _ us hl => match us, hl with | [_, _], _ => rfl
theorem ok_tokens_of (T : Tx K mg) : FnOk P w K mg base (L2.CX P w) 5 (He.ga K "tokens_of") T.fd_tokens_of ["line", "number"] (spToks K) := by
  refine T.F_tokens_of.ok sc_tokens_of (fun vs H Q E h => ?_) (fun cdv A outer s H vs Q E hr h => ?_)
  · obtain ⟨z, l, rfl, _⟩ := h
    rfl
  obtain ⟨z, l, rfl, hz, hl, q⟩ := h
  have tk0 : Takes (cxOf (L2.CX P w) P w K mg base N_tokens_of "tokens_of" (defScope s_tokens_of) (He.ga K "tokens_of") cdv A outer s H E) (fun cls d _ H => E cls d H) := takes_of rfl rfl rfl rfl
  refine ⟨_, (pss_cons (ps_set (i := 2) sc_tokens_of.nd rfl (Or.inl rfl) (pe_lst pa_nil))
      (pss_cons (ps_set (i := 3) sc_tokens_of.nd rfl (Or.inl rfl) pe_int)
      (pss_cons (ps_while (passes_of rfl) (pt_cmpR (op_lt) (pv 3) (pe_callB call_len_str rfl T.z_len PySem.boot_len (pa_cons (pv 0) pa_nil)) (nomark _)) (pss_one (ps_if (pt_cmpR (op_eq) (pe_ix ix_str (pv 0) (pv 3) (fun _ _ => rfl)) pe_str (nomark _)) (pss_one (ps_aug (i := 3) sc_tokens_of.nd rfl (Or.inl rfl) pe_int ip_add)) (pss_cons (ps_set (i := 4) sc_tokens_of.nd rfl (Or.inl rfl) (pe_call (ok_token_at T) (hr.mono (by decide)) rfl T.g_token_at T.F_token_at.kp (b_token_at T) .nil (passes_call tk0 fun _ _ _ _ h => h) (pa_cons (pv 0) (pa_cons (pv 1) (pa_cons (pv 3) pa_nil)))))
      (pss_cons (ps_if (pt_cmpR (op_eq) (pe_callB (call_lenQ (K := K) rfl) rfl T.z_len PySem.boot_len (pa_cons (pv 2) pa_nil)) (pe_gv rfl T.c_MAX_TOKENS) (nomark _)) (pss_one (ps_raiseSyn T hr rfl tk0 (pa_cons (pv 1) (pa_cons (pe_fldK (K := K) (pv 4) rfl rfl) pa_nil)))) pss_nil)
      (pss_cons (ps_expr (pe_bm PySem.F.plainAttrs_list PySem.F.slot_list_append PySem.F.type_list_append mt_append (pv 2) (pa_cons (pv 4) pa_nil)))
      (pss_one (ps_aug (i := 3) sc_tokens_of.nd rfl (Or.inl rfl) (pe_callB call_len_str rfl T.z_len PySem.boot_len (pa_cons (pe_fldK (K := K) (pv 4) rfl rfl) pa_nil)) ip_add))))))))
      (pss_one (ps_ret (pe_op op_cat (pv 2) (pe_lst (pa_cons (pe_make T.mk_Token (ok_Token_init T) (hr.mono (by decide)) rfl T.g_Token (b_Token_init T) .nil pass0 (pa_cons (pe_gv rfl T.c_END) (pa_cons pe_str (pa_cons (pe_op op_add (pe_callB call_len_str rfl T.z_len PySem.boot_len (pa_cons (pv 0) pa_nil)) pe_int) pa_nil)))) pa_nil)))))))), ?_⟩
  have hz' : z.length ≤ sizeLine := sz _ hz
  refine ⟨sz 0, ?_⟩
  walk_at "new 0"
  refine ⟨fun m σ H' => ∃ (i n : Nat) (ts : List Tk) (v : Option V), m = (tl z).length - i ∧ σ = [some (.str z), some (.int l), some (.ref p0), some (.int i), v] ∧ i ≤ (tl z).length ∧ (tl z).length - i < n ∧ lexGo (tl z) n i ts = lexM z ∧ ts.length ≤ i ∧ ts.length ≤ 150 ∧ Same H H' ∧ TksAt K H' p0 ts,
    ⟨_, 0, (tl z).length + 1, [], none, rfl, rfl, Nat.zero_le _, Nat.lt_succ_self _, rfl, Nat.zero_le _, by decide, s0, [], h0, rfl, fun j a t e => by simp at e⟩, ?_⟩
  rintro m σ H1 ⟨i, n, ts, v, rfl, rfl, hi, hn, e, ti, t150, s1, k1⟩
  obtain ⟨as, e1, la, ka⟩ := id k1
  refine ⟨_, rfl, _, rfl, _, rfl, hz', _, _, rfl, rfl, _, rfl, ?_⟩
  cases n with
  | zero => omega
  | succ n =>
  by_cases c : i < (tl z).length
  · rw [decide_eq_true (show (i : Int) < ((z.length : Nat) : Int) from Int.ofNat_lt.mpr c)]
    refine iteT ⟨_, fun _ _ h => h, ?_⟩
    have eg : (tl z)[i]? = some (tl z)[i] := List.getElem?_eq_getElem c
    have hd := drop_cons c
    generalize (tl z)[i] = d at eg hd
    have e2 : lexGo (tl z) (n + 1) i ts = (if d = 32 then lexGo (tl z) n (i + 1) ts else match tok1 (d :: (tl z).drop (i + 1)) with
      | none => .error (i + 1)
      | some (k, t) => if ts.length = 150 then .error (i + 1) else lexGo (tl z) n (i + t.length) (ts ++ [⟨k, t, i + 1⟩])) := by
      conv => lhs; unfold lexGo
      rw [hd]
      try rfl
    rw [e2] at e
    refine ⟨_, rfl, _, rfl, z, i, d, rfl, rfl, hz', atI_nat eg, rfl, _, rfl, ?_⟩
    rw [one_eq d 32 " " (by decide +kernel)]
    by_cases d32 : d = 32
    · rw [if_pos d32] at e
      rw [decide_eq_true d32]
      refine iteT ?_
      exact ⟨_, rfl, _, _, rfl, rfl, _, (by omega), i + 1, n, ts, v, rfl, rfl, c, by omega, e, by omega, t150, s1, k1⟩
    · rw [if_neg d32, ← hd] at e
      rw [decide_eq_false d32]
      refine iteF ?_
      refine ⟨_, rfl, _, rfl, _, rfl, z, l, i, rfl, c, hz, hl, ?_⟩
      cases et : tok1 ((tl z).drop i) with
      | none =>
        rw [et] at e
        rw [← e] at q
        exact q.same s1
      | some kt =>
        obtain ⟨k, t⟩ := kt
        rw [et] at e
        have tlen := tok1_len et
        have e : (if ts.length = 150 then .error (i + 1) else lexGo (tl z) n (i + t.length) (ts ++ [⟨k, t, i + 1⟩])) = lexM z := e
        intro a H2 s2 na tk
        obtain ⟨dx, ea⟩ := id tk
        have k2 := k1.same s2
        obtain ⟨as2, f1, f2, f3⟩ := id k2
        have ml : (as2.map V.ref).length = ts.length := by rw [List.length_map, f2]
        refine ⟨_, rfl, p0, _, rfl, .inl (.of f1), rfl, _, rfl, ?_⟩
        rw [ml]
        by_cases f : ts.length = 150
        · rw [if_pos f] at e
          rw [← e] at q
          rw [decide_eq_true (show V.int ((ts.length : Nat) : Int) = V.int 150 by rw [f] <;> rfl)]
          refine iteT ?_
          exact ⟨_, rfl, _, rfl, a, _, dx, _, _, rfl, ea, T.cl_Token, T.na_Token_column, rfl, l, i + 1, rfl, hl, by omega, q.same ((s1).trans s2)⟩
        · rw [if_neg f] at e
          rw [decide_eq_false (show ¬ V.int ((ts.length : Nat) : Int) = V.int 150 from fun y => f (by have := V.int.inj y; omega))]
          refine iteF ?_
          have ap : a ≠ p0 := ne_of ea f1 (by intro y; cases y)
          have lr : t.length ≤ 100000 := by
            have := tlen.2
            rw [List.length_drop] at this
            omega
          refine ⟨_, rfl, .inl ⟨rfl, _, .inl (.inl f1)⟩, _, rfl, p0, _, _, rfl, rfl, f1, szl _ (by rw [ml]; omega), ?_⟩
          refine ⟨_, rfl, _, rfl, a, _, dx, _, _, rfl, by rw [upd_ne ap]; exact ea, T.cl_Token, T.na_Token_spelling, rfl, _, rfl, sz _ lr, _, _, rfl, rfl, ?_⟩
          have tg : i + t.length ≤ (tl z).length := by
            have := tlen.2
            rw [List.length_drop] at this
            omega
          have sm : Same H (upd H2 p0 (.lst (as2.map V.ref ++ [V.ref a]))) := fun b o z => by
            rw [upd_ne (ne_of_none z n0)]
            exact s2 _ _ (s1 _ _ z)
          have keep : ∀ b u, TkAt K H2 b u → TkAt K (upd H2 p0 (.lst (as2.map V.ref ++ [V.ref a]))) b u := fun b u ⟨dy, y⟩ => ⟨dy, by rw [upd_ne (ne_of y f1 (by intro y; cases y))]; exact y⟩
          refine ⟨_, ?_, i + t.length, n, ts ++ [⟨k, t, i + 1⟩], _, rfl, rfl, tg, by omega, e, ?_, ?_, sm, tks_snoc f2 (fun j b u h1 h2 => keep b u (f3 j b u h1 h2)) (keep _ _ tk) upd_same⟩
          · have := tlen.1
            omega
          · rw [List.length_append]
            have := tlen.1
            show ts.length + 1 ≤ _
            omega
          · rw [List.length_append]
            show ts.length + 1 ≤ 150
            omega
  · rw [decide_eq_false (show ¬ (i : Int) < ((z.length : Nat) : Int) from fun y => c (Int.ofNat_lt.mp y))]
    refine iteF ?_
    have ei : (tl z).drop i = [] := List.drop_eq_nil_of_le (by omega)
    have e2 : lexGo (tl z) (n + 1) i ts = .ok ts := by
      unfold lexGo
      rw [ei]
    rw [← e, e2] at q
    refine ⟨_, rfl, _, rfl, _, rfl, hz', _, _, rfl, rfl, ?_⟩
    refine make_tok (H := H1) (endTk z) fun a H2 s2 na ta => ⟨sz 1, ?_⟩
    walk_at "new 3"
    have k3 := k1.same (s2.trans s3)
    obtain ⟨as3, f1, f2, f3⟩ := k3
    refine ⟨p0, p3, _, _, rfl, rfl, f1, h3, sz _ ?_, ?_⟩
    · rw [List.length_map, f2]
      show ts.length + 1 ≤ 100000
      omega
    walk_at "new 4"
    exact q p4 H4 ((s1.trans s2).trans (s3.trans s4)) (s1.free (s2.free (s3.free n4))) (tks_snoc f2 (fun j b u g1 g2 => (f3 j b u g1 g2).same s4) ((ta.same s3).same s4) h4)
end
end Kw

set_option Elab.async false
set_option linter.all false
set_option maxRecDepth 100000
set_option maxHeartbeats 4000000
namespace Kw
open PySem PySem.Spec PyProof.Rows L2
local macro_rules | `(tactic| walk_at $s:str) => do
  match s.getString.splitOn " " with
  | ["new", a] =>
    let p := Lean.mkIdent (Lean.Name.mkSimple ("p" ++ a))
    let n := Lean.mkIdent (Lean.Name.mkSimple ("n" ++ a))
    let H := Lean.mkIdent (Lean.Name.mkSimple ("H" ++ a))
    let s := Lean.mkIdent (Lean.Name.mkSimple ("s" ++ a))
    let h := Lean.mkIdent (Lean.Name.mkSimple ("h" ++ a))
    `(tactic| (intro $p $n; generalize e : upd _ $p _ = $H; have $s : Same _ $H := e ▸ same_new $n; have $h : $H $p = some _ := e ▸ upd_same; clear e))
  | _ => Lean.Macro.throwUnsupported
/-! ### heaps but for some objects -/
def Kf (F : Addr → Prop) (H H' : Hp) : Prop := ∀ a o, ¬ F a → H a = some o → H' a = some o
abbrev Kp (p : Addr) : Hp → Hp → Prop := Kf (fun a => a = p)
theorem Kf.refl {F : Addr → Prop} (H : Hp) : Kf F H H := fun _ _ _ e => e
theorem Kf.trans {F : Addr → Prop} {H H1 H2 : Hp} (a : Kf F H H1) (b : Kf F H1 H2) : Kf F H H2 := fun p o n e => b p o n (a p o n e)
theorem Kf.of {F : Addr → Prop} {H H' : Hp} (s : Same H H') : Kf F H H' := fun p o _ e => s p o e
theorem Kf.sub {F G : Addr → Prop} {H H' : Hp} (k : Kf F H H') (h : ∀ a, F a → G a) : Kf G H H' := fun p o n e => k p o (fun q => n (h p q)) e
theorem Kf.upd {F : Addr → Prop} {H : Hp} {a : Addr} {o : HO} (h : F a) : Kf F H (upd H a o) := fun p u n e => by
  rw [upd_ne (fun q => n (by rw [q]; exact h))]
  exact e
/-- an instance at p: neither list nor tuple -/
def Ins (H : Hp) (p : Addr) : Prop := ∃ C dx fs, H p = some (.ins C dx fs)
theorem kp_rd {H H' : Hp} {p a : Addr} {u : HO} (k : Kp p H H') (i : Ins H p) (hu : (∃ xs, u = .lst xs) ∨ ∃ xs, u = .tup xs) (h : Rd H a u) : Rd H' a u := by
  obtain ⟨C, dx, fs, e⟩ := i
  rcases h with h | ⟨o, h⟩
  · refine .inl (k _ _ ?_ h)
    rintro rfl
    rw [e] at h
    rcases hu with ⟨xs, rfl⟩ | ⟨xs, rfl⟩ <;> cases h
  · refine .inr ⟨o, k _ _ ?_ h⟩
    rintro rfl
    rw [e] at h
    cases h
theorem kp_L {K : PySem.W.Frag} {H H' : Hp} {p a : Addr} {xs : List V} (k : Kp p H H') (i : Ins H p) (h : SqL K H a xs) : SqL K H' a xs := by
  rcases h with h | h
  · exact .inl (kp_rd k i (.inl ⟨_, rfl⟩) h)
  · exact .inr h
theorem kp_T {K : PySem.W.Frag} {H H' : Hp} {p a : Addr} {xs : List V} (k : Kp p H H') (i : Ins H p) (h : SqT K H a xs) : SqT K H' a xs := by
  rcases h with h | h
  · exact .inl (kp_rd k i (.inr ⟨_, rfl⟩) h)
  · exact .inr h
theorem kp_tups {H H' : Hp} {p : Addr} (k : Kp p H H') (i : Ins H p) : SameT H H' := fun a xs => by
  obtain ⟨C, dx, fs, e⟩ := i
  refine ⟨fun h => k _ _ ?_ h, fun o h => k _ _ ?_ h⟩
  · rintro rfl; rw [e] at h; cases h
  · rintro rfl; rw [e] at h; cases h
theorem kp_lst {H H' : Hp} {p a : Addr} {xs : List V} (k : Kp p H H') (i : Ins H p) (h : H a = some (.lst xs)) : H' a = some (.lst xs) := by
  obtain ⟨C, dx, fs, e⟩ := i
  refine k _ _ ?_ h
  rintro rfl
  rw [e] at h
  cases h
/-! ### the line's parser: its fields, what stands at it -/
def lpF (num : Nat) (nm tla : Addr) (idx nest : Nat) : List (Str × V) := [("number", .int num), ("names", .ref nm), ("tokens", .ref tla), ("index", .int idx), ("nesting", .int nest)]
structure LS where
  num : Nat
  nm : Addr
  names : List Str
  ts : List Tk
  idx : Nat
  nest : Nat
  tla : Addr
/-- the tokens of a line, with the end token behind them -/
structure TsOk (ts : List Tk) : Prop where
  pos : 0 < ts.length
  col : ∀ t ∈ ts, t.col < 1000000
  num : ∀ t ∈ ts, t.kind = "number" → ∃ n : Nat, intText? t.text = some (n : Int) ∧ n < 1000000 ∧ t.text.length ≤ 640
  fin : ∀ (i : Nat) (t : Tk), ts[i]? = some t → t.kind ≠ "end of line" → i + 1 < ts.length
  len : ts.length ≤ 151
structure LsOk (S : LS) : Prop where
  num : S.num < 1000000
  ts : TsOk S.ts
  names : S.names.length ≤ 4
def NmAt (K : PySem.W.Frag) (H : Hp) (a : Addr) (names : List Str) : Prop := SqL K H a (names.map V.str) ∨ SqT K H a (names.map V.str)
def LPAt (K : PySem.W.Frag) (H : Hp) (p : Addr) (S : LS) : Prop := ∃ dx tla, H p = some (.ins (He.ga K "LineParser") dx (lpF S.num S.nm tla S.idx S.nest)) ∧ TksAt K H tla S.ts ∧ NmAt K H S.nm S.names ∧ tla = S.tla
theorem kind_num : ¬ (("kind" : Str) = "number") := by decide +kernel
theorem tk_ne_lp {C D dx dy : Addr} {t : Tk} {num idx nest : Nat} {nm tla : Addr} : HO.ins C dx (tkF t) ≠ .ins D dy (lpF num nm tla idx nest) := fun e => by
  have e1 := (HO.ins.inj e).2.2
  unfold tkF lpF at e1
  exact kind_num (Prod.mk.inj (List.cons.inj e1).1).1
theorem LPAt.ins {K : PySem.W.Frag} {H : Hp} {p : Addr} {S : LS} (h : LPAt K H p S) : Ins H p := let ⟨dx, _, e, _⟩ := h; ⟨_, dx, _, e⟩
theorem TkAt.kp {K : PySem.W.Frag} {H H' : Hp} {p a : Addr} {S : LS} {t : Tk} (h : TkAt K H a t) (l : LPAt K H p S) (k : Kp p H H') : TkAt K H' a t := by
  obtain ⟨dx, e⟩ := h
  obtain ⟨dy, tla, e2, _⟩ := l
  exact ⟨dx, k _ _ (ne_of e e2 tk_ne_lp) e⟩
theorem TksAt.kp {K : PySem.W.Frag} {H H' : Hp} {p a : Addr} {S : LS} {ts : List Tk} (h : TksAt K H a ts) (l : LPAt K H p S) (k : Kp p H H') : TksAt K H' a ts := by
  obtain ⟨as, e, el, f⟩ := h
  exact ⟨as, kp_lst k l.ins e, el, fun i b t h1 h2 => (f i b t h1 h2).kp l k⟩
theorem NmAt.kp {K : PySem.W.Frag} {H H' : Hp} {p a : Addr} {names : List Str} (h : NmAt K H a names) (i : Ins H p) (k : Kp p H H') : NmAt K H' a names := h.imp (kp_L k i) (kp_T k i)
theorem LPAt.same {K : PySem.W.Frag} {H H' : Hp} {p : Addr} {S : LS} (h : LPAt K H p S) (s : Same H H') : LPAt K H' p S := by
  obtain ⟨dx, tla, e, ht, hn, et⟩ := h
  exact ⟨dx, tla, s _ _ e, ht.same s, hn.imp s.seq (sameT s), et⟩
/-- its index, its nesting are stored anew -/
theorem LPAt.put {K : PySem.W.Frag} {H : Hp} {p dx tla : Addr} {S : LS} (e : H p = some (.ins (He.ga K "LineParser") dx (lpF S.num S.nm tla S.idx S.nest))) (ht : TksAt K H tla S.ts) (hn : NmAt K H S.nm S.names ∧ tla = S.tla) (i n : Nat) :
    LPAt K (upd H p (.ins (He.ga K "LineParser") dx (lpF S.num S.nm tla i n))) p { S with idx := i, nest := n } ∧ Kp p H (upd H p (.ins (He.ga K "LineParser") dx (lpF S.num S.nm tla i n))) := by
  have k : Kp p H (upd H p (.ins (He.ga K "LineParser") dx (lpF S.num S.nm tla i n))) := Kf.upd rfl
  have l : LPAt K H p S := ⟨dx, tla, e, ht, hn⟩
  exact ⟨⟨dx, tla, upd_same, ht.kp l k, hn.1.kp l.ins k, hn.2⟩, k⟩
theorem LPAt.tla_ne {K : PySem.W.Frag} {H : Hp} {p a : Addr} {S : LS} (h : LPAt K H p S) (n : H a = none) : a ≠ S.tla := by
  obtain ⟨dx, tla, e, ⟨as, e2, _⟩, _, rfl⟩ := h
  exact fun q => by rw [q, e2] at n; cases n
/-- how a problem leaves when the parser at p has been changed -/
def BadP (K : PySem.W.Frag) (p : Addr) (H : Hp) (E : XK) (l c : Nat) : Prop := ∀ d H', Kp p H H' → H' d = some (.xd (synF l c)) → E (.ref (cSyn K)) (some d) H'
theorem BadP.kp {K : PySem.W.Frag} {p : Addr} {H H1 : Hp} {E : XK} {l c : Nat} (b : BadP K p H E l c) (k : Kp p H H1) : BadP K p H1 E l c := fun d H' k' e => b d H' (k.trans k') e
theorem ifT {c : Bool} {A B : Prop} (h : c = true) (x : A) : if c = true then A else B := by rw [if_pos h]; exact x
theorem ifF {c : Bool} {A B : Prop} (h : c = false) (x : B) : if c = true then A else B := by rw [if_neg (by rw [h]; exact Bool.false_ne_true)]; exact x
/-! ### a tuple whose object is known: it has no dict, so its methods are found -/
def NmT (H : Hp) (a : Addr) (xs : List V) : Prop := ∃ o, H a = some (.frz o (.tup xs)) ∧ o.cls = .type "tuple" ∧ o.dict = none
theorem NmT.rd {K : PySem.W.Frag} {H : Hp} {a : Addr} {xs : List V} (h : NmT H a xs) : SqT K H a xs := let ⟨o, e, _⟩ := h; .inl (.inr ⟨o, e⟩)
theorem NmT.same {H H' : Hp} {a : Addr} {xs : List V} (h : NmT H a xs) (s : Same H H') : NmT H' a xs := let ⟨o, e, r⟩ := h; ⟨o, s _ _ e, r⟩
theorem NmT.kf {F : Addr → Prop} {H H' : Hp} {a : Addr} {xs : List V} (h : NmT H a xs) (k : Kf F H H') (n : ¬ F a) : NmT H' a xs := let ⟨o, e, r⟩ := h; ⟨o, k _ _ n e, r⟩
theorem NmT.kp {H H' : Hp} {a p : Addr} {xs : List V} (h : NmT H a xs) (k : Kp p H H') (i : Ins H p) : NmT H' a xs := h.kf k (by
  rintro rfl
  obtain ⟨o, e, _⟩ := h
  obtain ⟨C, dx, fs, e2⟩ := i
  rw [e] at e2
  cases e2)
def tIdx (to tx : TE) : TE := fun σ H Q => to σ H fun x H1 => ∃ (p : Addr) (ys : List Str), x = .ref p ∧ NmT H1 p (ys.map V.str) ∧ tx σ H1 fun y H2 => ∃ (z : Str) (j : Nat), [y] = [V.str z] ∧ NmT H2 p (ys.map V.str) ∧ ys[j]? = some z ∧ (∀ m, m < j → ys[m]? ≠ some z) ∧ Q (.int (j : Nat)) H2
/-- t.index(x), t such a tuple -/
theorem pe_idx {X : Cx} {oe xe : Expr} {tO tX : TE} {p1 p2 : Pos} (h1 : PE X oe tO) (h2 : PE X xe tX)
    (c1 : attributeBase oe "index" X.env (eval oe X.env) = eval oe X.env := by rfl)
    (c2 : ((backTo p2 (starEach [xe] X.env)).all (fun q => !q.1) && (backToKw p2 (keywordEach [] X.env)).all (fun q => q.1.isSome) && decide ([xe].length + ([] : List Keyword).length + (if ([] : List Keyword).isEmpty then 0 else 1) < 30)) = true := by rfl)
    (c3 : (p1.endLine == p2.line) = true := by rfl) (c4 : starEach [xe] X.env = (false, eval xe X.env) :: starEach [] X.env := by rfl) (c5 : (backTo p2 (starEach [] X.env)).any (·.1) = false := by rfl) :
    PE X (.Call (.Attribute oe "index" p1) [xe] [] p2) (tIdx tO tX) := by
  constructor
  intro pins s σ H Q I h
  refine wpAny_Call_method_late c1 c2 c3 rfl (thn (h1.run pins s σ H _ I h) fun v sA ⟨x, H1, I1, r1, p, ys, ex, ⟨o, e, oc, od⟩, q1⟩ => ?_)
  subst ex
  cases r1
  obtain ⟨g, _⟩ := (show ObjOk X.prog X.w H1 sA.heap p (.frz o (.tup (ys.map V.str))) from I1.hok p _ e)
  refine ⟨"tuple", "tuple.index", PySem.F.plainAttrs_tuple, PySem.F.slot_tuple_index, PySem.F.type_tuple_index, ⟨o, g, oc⟩, fun a ea => ⟨o, by cases ea; exact g, od⟩, ?_⟩
  have hA := (pa_cons (hs := c4) h2 pa_nil).run p2 pins sA σ H1 (fun vs H2 => ∃ (z : Str) (j : Nat), vs = [V.str z] ∧ NmT H2 p (ys.map V.str) ∧ ys[j]? = some z ∧ (∀ m, m < j → ys[m]? ≠ some z) ∧ Q (.int (j : Nat)) H2) I1 q1
  rw [c4] at hA ⊢
  refine Calls.callWith_builtin (by show (false || (backTo p2 (starEach [] X.env)).any (·.1)) = false; rw [c5] <;> rfl) (Calls.evalArgs_plain ?_)
  exact thn hA fun us sB ⟨vs, H2, I2, r2, z, j, e2, n2, k1, k2, q2⟩ => mt_tup_index pins sB σ H2 (.ref p) vs (.ref p) us Q I2 rfl r2 ⟨p, ys, z, j, rfl, e2, n2.rd, k1, k2, q2⟩
/-- tuple(l), the object known -/
theorem call_tupleF {X : Cx} : CallR X (.type "tuple") (fun xs H Q => ∃ p ys, xs = [.ref p] ∧ SqL X.K H p ys ∧ ∀ l o, o.cls = Value.type "tuple" → o.dict = none → H l = none → Q (.ref l) (upd H l (.frz o (.tup ys)))) := by
  intro pins s σ H xs us Q I r h
  obtain ⟨p, ys, rfl, hq, q⟩ := h
  obtain ⟨u, rfl, rx⟩ := vals1 r
  cases rx
  obtain ⟨its, r', pl, hz⟩ := I.list hq
  have hlen := r'.length
  refine call_tuple_list pl.isList (fun hp kp => ?_) (by simp only [List.size_toArray] <;> omega)
  have J : Inv X pins σ H { s with heap := hp } := I.kept (t' := s.toks) kp
  exact ⟨.ref hp.objs.size, _, J.laid (a := hp.objs.size) (o := HO.frz { cls := .type "tuple", data := .seq its.toArray } (.tup ys)) (t' := s.toks) (fun b o e => Heap.get?_push_of_some _ e) (Nat.le_refl _) ⟨Heap.get?_push_size _ rfl, hz, its, r', IsTup.new _ _⟩, rfl, q _ _ rfl rfl (J.hok.fresh (Nat.le_refl _))⟩
/-! ### the promises -/
abbrev tkAt (ts : List Tk) (i : Nat) : Option Tk := ts[i]?
def spPeek (K : PySem.W.Frag) : Sp := fun vs H Q _ => ∃ (p : Addr) (S : LS) (t : Tk), vs = [.ref p] ∧ LPAt K H p S ∧ S.ts[S.idx]? = some t ∧ ∀ a, TkAt K H a t → Q (.ref a) H
def spFail (K : PySem.W.Frag) : Sp := fun vs H _ E => ∃ (p a : Addr) (S : LS) (t : Tk), vs = [.ref p, .ref a] ∧ LPAt K H p S ∧ LsOk S ∧ TkAt K H a t ∧ t.col < 1000000 ∧ BadP K p H E S.num t.col
/-- take's and accept's tests -/
def tkOk (k : Str) (tx : Option Str) (t : Tk) : Bool := decide (t.kind = k) && (match tx with
  | none => true
  | some s => decide (t.text = s))
def txV : Option Str → V
  | none => .non
  | some s => .str s
def acOk (k : Str) (texts : List Str) (t : Tk) : Bool := decide (t.kind = k) && decide (t.text ∈ texts)
def spTake (K : PySem.W.Frag) : Sp := fun vs H Q E => ∃ (p : Addr) (S : LS) (t : Tk) (k : Str) (tx : Option Str), vs = [.ref p, .str k, txV tx] ∧ LPAt K H p S ∧ LsOk S ∧ S.ts[S.idx]? = some t ∧
  (if tkOk k tx t = true then ∀ a H', Kp p H H' → LPAt K H' p { S with idx := S.idx + 1 } → TkAt K H' a t → Q (.ref a) H' else BadP K p H E S.num t.col)
def spAccept (K : PySem.W.Frag) : Sp := fun vs H Q _ => ∃ (p b : Addr) (S : LS) (t : Tk) (k : Str) (texts : List Str), vs = [.ref p, .str k, .ref b] ∧ LPAt K H p S ∧ S.ts[S.idx]? = some t ∧ SqT K H b (texts.map V.str) ∧
  (if acOk k texts t = true then ∀ a H', Kp p H H' → LPAt K H' p { S with idx := S.idx + 1 } → TkAt K H' a t → Q (.ref a) H' else Q .non H)
/-- a declared name: its place -/
def declM (names : List Str) (t : Tk) : Option Nat := if t.kind = "name" then names.findIdx? (fun x => decide (x = t.text)) else none
def spDecl (K : PySem.W.Frag) : Sp := fun vs H Q E => ∃ (p : Addr) (S : LS) (t : Tk), vs = [.ref p] ∧ LPAt K H p S ∧ LsOk S ∧ S.ts[S.idx]? = some t ∧ NmT H S.nm (S.names.map V.str) ∧
  (match declM S.names t with
    | some i => ∀ b a H', Kp p H H' → LPAt K H' p { S with idx := S.idx + 1 } → TkAt K H' a t → SqT K H' b [.int i, .ref a] → Q (.ref b) H'
    | none => BadP K p H E S.num t.col)
section
variable {P : Program} {w : World} {K : PySem.W.Frag} {mg : Str → Option Value} {base : Heap}
abbrev N_LineParser_peek : List Str := ["self"]
theorem sc_LineParser_peek : FnScope N_LineParser_peek ["self"] (defScope s_LineParser_peek) := ⟨rfl, rfl, rfl, by decide +kernel, rfl, by decide +kernel, by decide +kernel⟩
theorem b_LineParser_peek (T : Tx K mg) : Binds K T.fd_LineParser_peek ["self"] [] := T.F_LineParser_peek.bindsN fun _ _ _ _ _ _ us hl => match us, hl with | [_], _ => rfl
theorem ok_LineParser_peek (T : Tx K mg) : FnOk P w K mg base CX0 1 (He.ma K (He.ga K "LineParser") "peek") T.fd_LineParser_peek ["self"] (spPeek K) := by
  refine T.F_LineParser_peek.ok sc_LineParser_peek (fun vs H Q E h => ?_) (fun cdv A outer s H vs Q E hr h => ?_)
  · obtain ⟨p, S, t, rfl, _⟩ := h
    rfl
  obtain ⟨p, S, t, rfl, ⟨dx, tla, hp, ⟨as, ha, hl, hk⟩, hn⟩, ht, q⟩ := h
  refine ⟨_, PSs.nox (pss_one (ps_ret (pe_ix (r := rIxL K) ix_list (pe_fldK (K := K) (pv 0) rfl rfl) (pe_fldK (K := K) (pv 0) rfl rfl) (fun _ _ => rfl)))), ?_⟩
  have hi : S.idx < S.ts.length := (List.getElem?_eq_some_iff.mp ht).1
  obtain ⟨a, h1⟩ : ∃ a, as[S.idx]? = some a := ⟨as[S.idx]'(by omega), List.getElem?_eq_getElem _⟩
  have h2 : (as.map V.ref)[S.idx]? = some (V.ref a) := by rw [List.getElem?_map, h1] <;> rfl
  refine ⟨_, rfl, p, _, dx, _, _, rfl, hp, T.cl_LineParser, T.na_LineParser_tokens, rfl, _, rfl, p, _, dx, _, _, rfl, hp, T.cl_LineParser, T.na_LineParser_index, rfl, tla, _, _, _, rfl, rfl, .of ha, atI_nat h2, ?_⟩
  exact q a (hk _ _ _ h1 ht)
abbrev N_LineParser_fail : List Str := ["self", "token"]
theorem sc_LineParser_fail : FnScope N_LineParser_fail ["self", "token"] (defScope s_LineParser_fail) := ⟨rfl, rfl, rfl, by decide +kernel, rfl, by decide +kernel, by decide +kernel⟩
theorem b_LineParser_fail (T : Tx K mg) : Binds K T.fd_LineParser_fail ["self", "token"] [] := T.F_LineParser_fail.bindsN fun _ _ _ _ _ _ us hl => match us, hl with | [_, _], _ => rfl
theorem ok_LineParser_fail (T : Tx K mg) : FnOk P w K mg base (L2.CX P w) 4 (He.ma K (He.ga K "LineParser") "fail") T.fd_LineParser_fail ["self", "token"] (spFail K) := by
  refine T.F_LineParser_fail.ok sc_LineParser_fail (fun vs H Q E h => ?_) (fun cdv A outer s H vs Q E hr h => ?_)
  · obtain ⟨p, a, S, t, rfl, _⟩ := h
    rfl
  obtain ⟨p, a, S, t, rfl, ⟨dx, tla, hp, _⟩, ok, ⟨dy, ha⟩, hc, b⟩ := h
  have tk0 : Takes (cxOf (L2.CX P w) P w K mg base N_LineParser_fail "LineParser.fail" (defScope s_LineParser_fail) (He.ma K (He.ga K "LineParser") "fail") cdv A outer s H E) (fun cls d _ H => E cls d H) := takes_of rfl rfl rfl rfl
  refine ⟨_, (pss_one (ps_raiseSyn T hr rfl tk0 (pa_cons (pe_fldK (K := K) (pv 0) rfl rfl) (pa_cons (pe_fldK (K := K) (pv 1) rfl rfl) pa_nil)))), ?_⟩
  exact ⟨_, rfl, p, _, dx, _, _, rfl, hp, T.cl_LineParser, T.na_LineParser_number, rfl, _, rfl, a, _, dy, _, _, rfl, ha, T.cl_Token, T.na_Token_column, rfl, S.num, t.col, rfl, ok.num, hc, fun d H2 s _ e => b d H2 (Kf.of s) e⟩
abbrev N_LineParser_take : List Str := ["self", "kind", "text", "token"]
theorem sc_LineParser_take : FnScope N_LineParser_take ["self", "kind", "text"] (defScope s_LineParser_take) := ⟨rfl, rfl, rfl, by decide +kernel, rfl, by decide +kernel, by decide +kernel⟩
theorem take_b (T : Tx K mg) : ∃ ds, Vals [V.non] ds ∧ Binds K T.fd_LineParser_take ["self", "kind", "text"] ds :=
  T.F_LineParser_take.binds1 2 0 (List.cons_ne_nil _ _) rfl fun _ _ _ _ _ _ _ us its h1 h2 => match us, its, h1, h2 with
    | [_, _], [_], _, _ => ⟨_, rfl, rfl⟩
noncomputable def dsT1 (T : Tx K mg) : List Value := Classical.choose (take_b T)
theorem b_take1 (T : Tx K mg) : Binds K T.fd_LineParser_take ["self", "kind", "text"] (dsT1 T) := (Classical.choose_spec (take_b T)).2
theorem v_take1 (T : Tx K mg) : Vals [V.non] (dsT1 T) := (Classical.choose_spec (take_b T)).1
theorem b_take2 (T : Tx K mg) : Binds K T.fd_LineParser_take ["self", "kind", "text"] [] := by
  obtain ⟨ds, h1, h2⟩ := T.F_LineParser_take.binds1 (ps := ["self", "kind", "text"]) 3 1 (List.cons_ne_nil _ _) rfl fun _ _ _ _ _ _ _ us its h1 h2 => match us, its, h1, h2 with
    | [_, _, _], [_], _, _ => ⟨_, rfl, rfl⟩
  cases h1
  exact h2
theorem ok_LineParser_take (T : Tx K mg) : FnOk P w K mg base (L2.CX P w) 6 (He.ma K (He.ga K "LineParser") "take") T.fd_LineParser_take ["self", "kind", "text"] (spTake K) := by
  refine T.F_LineParser_take.ok sc_LineParser_take (fun vs H Q E h => ?_) (fun cdv A outer s H vs Q E hr h => ?_)
  · obtain ⟨p, S, t, k, tx, rfl, _⟩ := h
    rfl
  obtain ⟨p, S, t, k, tx, rfl, hS, ok, ht, q⟩ := h
  have tk0 : Takes (cxOf (L2.CX P w) P w K mg base N_LineParser_take "LineParser.take" (defScope s_LineParser_take) (He.ma K (He.ga K "LineParser") "take") cdv A outer s H E) (fun cls d _ H => E cls d H) := takes_of rfl rfl rfl rfl
  refine ⟨_, (pss_cons (ps_set (i := 3) sc_LineParser_take.nd rfl (Or.inl rfl) (pe_meth0 (pv 0) T.cl_LineParser T.me_LineParser_peek (ok_LineParser_peek T) (hr.mono (by decide)) (b_LineParser_peek T) .nil pass0))
      (pss_cons (ps_if (PW.pt (pw_or (pt_cmpR (op_ne) (pe_fldK (K := K) (pv 3) rfl rfl) (pv 1) (nomark _)) (pw_or1 (PW.pt (pw_and (pt_cmpR (op_notN) (pv 2) pe_non (nomark _)) (pw_and1 (pt_cmpR (op_ne) (pe_fldK (K := K) (pv 3) rfl rfl) (pv 2) (nomark _)))))))) (pss_one (ps_expr (pe_meth (pv 0) T.cl_LineParser T.me_LineParser_fail (ok_LineParser_fail T) (hr.mono (by decide)) (b_LineParser_fail T) .nil (passes_call tk0 fun _ _ _ _ h => h) (pa_cons (pv 3) pa_nil)))) pss_nil)
      (pss_cons (ps_fldaug (pv 0) pe_int in_add)
      (pss_one (ps_ret (pv 3)))))), ?_⟩
  obtain ⟨dx, tla, hp, hts, hn⟩ := hS
  have hS : LPAt K H p S := ⟨dx, tla, hp, hts, hn⟩
  have hc : t.col < 1000000 := ok.ts.col t (List.mem_of_getElem? ht)
  refine ⟨_, rfl, p, dx, _, rfl, hp, rfl, p, S, t, rfl, hS, ht, fun a hk => ?_⟩
  obtain ⟨dy, hk'⟩ := hk
  have hk : TkAt K H a t := ⟨dy, hk'⟩
  refine ⟨_, rfl, a, _, dy, _, _, rfl, hk', T.cl_Token, T.na_Token_kind, rfl, _, rfl, rfl, _, rfl, ?_⟩
  by_cases e1 : t.kind = k
  · refine ifF (by simp [e1]) ?_
    cases tx with
    | none =>
      refine ⟨_, rfl, rfl, _, rfl, ifF rfl ?_⟩
      rw [if_pos (by simp [tkOk, e1])] at q
      obtain ⟨l, kk⟩ := LPAt.put hp hts hn (S.idx + 1) S.nest
      exact ⟨_, rfl, p, _, dx, _, _, rfl, hp, T.cl_LineParser, T.na_LineParser_index, rfl, _, _, rfl, rfl, _, _, hp, (by show 5 < 1000; decide), _, rfl, q a _ kk l (hk.kp hS kk)⟩
    | some z =>
      refine ⟨_, rfl, rfl, _, rfl, ifT rfl ?_⟩
      refine ⟨_, rfl, a, _, dy, _, _, rfl, hk', T.cl_Token, T.na_Token_spelling, rfl, _, rfl, rfl, _, rfl, ?_⟩
      by_cases e2 : t.text = z
      · refine ifF (by simp [e2, txV]) ?_
        rw [if_pos (by simp [tkOk, e1, e2])] at q
        obtain ⟨l, kk⟩ := LPAt.put hp hts hn (S.idx + 1) S.nest
        exact ⟨_, rfl, p, _, dx, _, _, rfl, hp, T.cl_LineParser, T.na_LineParser_index, rfl, _, _, rfl, rfl, _, _, hp, (by show 5 < 1000; decide), _, rfl, q a _ kk l (hk.kp hS kk)⟩
      · refine ifT (by simp [e2, txV]) ?_
        rw [if_neg (by simp [tkOk, e1, e2])] at q
        exact ⟨_, rfl, p, dx, _, rfl, hp, rfl, _, rfl, p, a, S, t, rfl, hS, ok, hk, hc, q⟩
  · refine ifT (by simp [e1]) ?_
    rw [if_neg (by simp [tkOk, e1])] at q
    exact ⟨_, rfl, p, dx, _, rfl, hp, rfl, _, rfl, p, a, S, t, rfl, hS, ok, hk, hc, q⟩
abbrev N_LineParser_accept : List Str := ["self", "kind", "texts", "token"]
theorem sc_LineParser_accept : FnScope N_LineParser_accept ["self", "kind", "texts"] (defScope s_LineParser_accept) := ⟨rfl, rfl, rfl, by decide +kernel, rfl, by decide +kernel, by decide +kernel⟩
theorem b_LineParser_accept (T : Tx K mg) : Binds K T.fd_LineParser_accept ["self", "kind", "texts"] [] := T.F_LineParser_accept.bindsN fun _ _ _ _ _ _ us hl => match us, hl with | [_, _, _], _ => rfl
theorem ok_LineParser_accept (T : Tx K mg) : FnOk P w K mg base CX0 2 (He.ma K (He.ga K "LineParser") "accept") T.fd_LineParser_accept ["self", "kind", "texts"] (spAccept K) := by
  refine T.F_LineParser_accept.ok sc_LineParser_accept (fun vs H Q E h => ?_) (fun cdv A outer s H vs Q E hr h => ?_)
  · obtain ⟨p, b, S, t, k, texts, rfl, _⟩ := h
    rfl
  obtain ⟨p, b, S, t, k, texts, rfl, hS, ht, hb, q⟩ := h
  refine ⟨_, PSs.nox (pss_cons (ps_set (i := 3) sc_LineParser_accept.nd rfl (Or.inl rfl) (pe_meth0 (pv 0) T.cl_LineParser T.me_LineParser_peek (ok_LineParser_peek T) (hr.mono (by decide)) (b_LineParser_peek T) .nil pass0))
      (pss_cons (ps_if (PW.pt (pw_or (pt_cmpR (op_ne) (pe_fldK (K := K) (pv 3) rfl rfl) (pv 1) (nomark _)) (pw_or1 (pt_cmpR (r := rIn K true) (op_notIn_seq) (pe_fldK (K := K) (pv 3) rfl rfl) (pv 2) (by rfl))))) (pss_one (ps_ret pe_non)) pss_nil)
      (pss_cons (ps_fldaug (pv 0) pe_int in_add)
      (pss_one (ps_ret (pv 3)))))), ?_⟩
  obtain ⟨dx, tla, hp, hts, hn⟩ := hS
  have hS : LPAt K H p S := ⟨dx, tla, hp, hts, hn⟩
  refine ⟨_, rfl, p, dx, _, rfl, hp, rfl, p, S, t, rfl, hS, ht, fun a hk => ?_⟩
  obtain ⟨dy, hk'⟩ := hk
  have hk : TkAt K H a t := ⟨dy, hk'⟩
  refine ⟨_, rfl, a, _, dy, _, _, rfl, hk', T.cl_Token, T.na_Token_kind, rfl, _, rfl, rfl, _, rfl, ?_⟩
  by_cases e1 : t.kind = k
  · refine ifF (by simp [e1]) ?_
    refine ⟨_, rfl, a, _, dy, _, _, rfl, hk', T.cl_Token, T.na_Token_spelling, rfl, _, rfl, b, _, rfl, .inr hb, rfl, flat_strs _, _, rfl, ?_⟩
    rw [inV_strs]
    by_cases e2 : t.text ∈ texts
    · refine ifF (by simp [e2]) ?_
      rw [if_pos (by simp [acOk, e1, e2])] at q
      obtain ⟨l, kk⟩ := LPAt.put hp hts hn (S.idx + 1) S.nest
      exact ⟨_, rfl, p, _, dx, _, _, rfl, hp, T.cl_LineParser, T.na_LineParser_index, rfl, _, _, rfl, rfl, _, _, hp, (by show 5 < 1000; decide), _, rfl, q a _ kk l (hk.kp hS kk)⟩
    · refine ifT (by simp [e2]) ?_
      rw [if_neg (by simp [acOk, e1, e2])] at q
      exact q
  · refine ifT (by simp [e1]) ?_
    rw [if_neg (by simp [acOk, e1])] at q
    exact q
abbrev N_LineParser_declared : List Str := ["self", "token"]
theorem sc_LineParser_declared : FnScope N_LineParser_declared ["self"] (defScope s_LineParser_declared) := ⟨rfl, rfl, rfl, by decide +kernel, rfl, by decide +kernel, by decide +kernel⟩
theorem b_LineParser_declared (T : Tx K mg) : Binds K T.fd_LineParser_declared ["self"] [] := T.F_LineParser_declared.bindsN fun _ _ _ _ _ _ us hl => match us, hl with | [_], _ => rfl
theorem declM_some {names : List Str} {t : Tk} {i : Nat} (h : declM names t = some i) : t.kind = "name" ∧ names[i]? = some t.text ∧ ∀ m, m < i → names[m]? ≠ some t.text := by
  unfold declM at h
  split at h
  · rename_i e
    obtain ⟨h1, h2⟩ := List.findIdx?_eq_some_iff_getElem.mp h
    obtain ⟨h3, h4⟩ := h2
    refine ⟨e, ?_, fun m hm => ?_⟩
    · rw [List.getElem?_eq_getElem h1]
      exact congrArg some (of_decide_eq_true h3)
    · rw [List.getElem?_eq_getElem (by omega)]
      intro e2
      exact h4 m hm (decide_eq_true (Option.some.inj e2))
  · cases h
theorem declM_none {names : List Str} {t : Tk} (h : declM names t = none) : t.kind ≠ "name" ∨ t.text ∉ names := by
  unfold declM at h
  split at h
  · refine .inr fun hm => ?_
    have h2 := List.findIdx?_eq_none_iff.mp h _ hm
    simp at h2
  · rename_i e
    exact .inl e
theorem ok_LineParser_declared (T : Tx K mg) : FnOk P w K mg base (L2.CX P w) 8 (He.ma K (He.ga K "LineParser") "declared") T.fd_LineParser_declared ["self"] (spDecl K) := by
  refine T.F_LineParser_declared.ok sc_LineParser_declared (fun vs H Q E h => ?_) (fun cdv A outer s H vs Q E hr h => ?_)
  · obtain ⟨p, S, t, rfl, _⟩ := h
    rfl
  obtain ⟨p, S, t, rfl, hS, ok, ht, hN, q⟩ := h
  have tk0 : Takes (cxOf (L2.CX P w) P w K mg base N_LineParser_declared "LineParser.declared" (defScope s_LineParser_declared) (He.ma K (He.ga K "LineParser") "declared") cdv A outer s H E) (fun cls d _ H => E cls d H) := takes_of rfl rfl rfl rfl
  refine ⟨_, (pss_cons (ps_set (i := 1) sc_LineParser_declared.nd rfl (Or.inl rfl) (pe_meth (pv 0) T.cl_LineParser T.me_LineParser_take (ok_LineParser_take T) (hr.mono (by decide)) (b_take1 T) (v_take1 T) (passes_call tk0 fun _ _ _ _ h => h) (pa_cons pe_str pa_nil)))
      (pss_cons (ps_if (pt_cmpR (r := rIn K true) (op_notIn_seq) (pe_fldK (K := K) (pv 1) rfl rfl) (pe_fldK (K := K) (pv 0) rfl rfl) (by rfl)) (pss_one (ps_expr (pe_meth (pv 0) T.cl_LineParser T.me_LineParser_fail (ok_LineParser_fail T) (hr.mono (by decide)) (b_LineParser_fail T) .nil (passes_call tk0 fun _ _ _ _ h => h) (pa_cons (pv 1) pa_nil)))) pss_nil)
      (pss_one (ps_ret (pe_tup (pa_cons (pe_idx (pe_fldK (K := K) (pv 0) rfl rfl) (pe_fldK (K := K) (pv 1) rfl rfl)) (pa_cons (pv 1) pa_nil))))))), ?_⟩
  have hc : t.col < 1000000 := ok.ts.col t (List.mem_of_getElem? ht)
  obtain ⟨dx, tla, hp, hts, hn⟩ := hS
  have hS : LPAt K H p S := ⟨dx, tla, hp, hts, hn⟩
  refine ⟨_, rfl, p, dx, _, rfl, hp, rfl, p, S, t, "name", none, rfl, hS, ok, ht, ?_⟩
  by_cases e1 : t.kind = "name"
  · rw [if_pos (by simp [tkOk, e1])]
    intro a H1 k1 l1 ⟨dy, hk'⟩
    have hk : TkAt K H1 a t := ⟨dy, hk'⟩
    obtain ⟨dx1, tla1, hp1, hts1, hn1⟩ := l1
    have l1 : LPAt K H1 p { S with idx := S.idx + 1 } := ⟨dx1, tla1, hp1, hts1, hn1⟩
    have hN1 : NmT H1 S.nm (S.names.map V.str) := hN.kp k1 hS.ins
    refine ⟨_, rfl, a, _, dy, _, _, rfl, hk', T.cl_Token, T.na_Token_spelling, rfl, _, rfl, p, _, dx1, _, _, rfl, hp1, T.cl_LineParser, T.na_LineParser_names, rfl, S.nm, _, rfl, .inr hN1.rd, rfl, flat_strs _, _, rfl, ?_⟩
    rw [inV_strs]
    cases hd : declM S.names t with
    | none =>
      rw [hd] at q
      have hm : t.text ∉ S.names := (declM_none hd).resolve_left (fun z => z e1)
      refine ifT (by simp [hm]) ?_
      exact ⟨_, rfl, p, dx1, _, rfl, hp1, rfl, _, rfl, p, a, _, t, rfl, l1, ⟨ok.num, ok.ts, ok.names⟩, hk, hc, BadP.kp q k1⟩
    | some i =>
      rw [hd] at q
      obtain ⟨_, h1, h2⟩ := declM_some hd
      refine ifF (by simp [List.mem_of_getElem? h1]) ?_
      refine ⟨_, rfl, p, _, dx1, _, _, rfl, hp1, T.cl_LineParser, T.na_LineParser_names, rfl, S.nm, S.names, rfl, hN1, _, rfl, a, _, dy, _, _, rfl, hk', T.cl_Token, T.na_Token_spelling, rfl, _, i, rfl, hN1, h1, h2, _, rfl, sz 2, ?_⟩
      intro p1 n1
      have s1 := same_new (o := .tup [V.int i, V.ref a]) n1
      exact q p1 a _ (k1.trans (Kf.of s1)) (l1.same s1) (hk.same s1) (.of upd_same)
  · rw [if_neg (by simp [tkOk, e1])]
    have hd : declM S.names t = none := by unfold declM; rw [if_neg e1]
    rw [hd] at q
    exact q
/-- the number of a number's token -/
def numV (t : Tk) : Nat := ((intText? t.text).getD 0).toNat
theorem numV_ok {ts : List Tk} (h : TsOk ts) {t : Tk} (m : t ∈ ts) (k : t.kind = "number") : intText? t.text = some (numV t : Int) ∧ numV t < 1000000 ∧ t.text.length ≤ 640 := by
  obtain ⟨n, h1, h2, h3⟩ := h.num t m k
  have e : numV t = n := by unfold numV; rw [h1]; rfl
  rw [e]
  exact ⟨h1, h2, h3⟩
def spCount (K : PySem.W.Frag) : Sp := fun vs H Q E => ∃ (p : Addr) (S : LS) (t : Tk) (outer : Nat), vs = [.ref p, .int outer] ∧ LPAt K H p S ∧ LsOk S ∧ S.ts[S.idx]? = some t ∧ outer ≤ 1000 ∧
  (if t.kind = "number" ∧ numV t * outer ≤ 50 then ∃ t2, S.ts[S.idx + 1]? = some t2 ∧ (if t2.kind = "end of line" then ∀ H', Kp p H H' → LPAt K H' p { S with idx := S.idx + 2 } → Q (.int (numV t : Nat)) H' else BadP K p H E S.num t2.col)
    else BadP K p H E S.num t.col)
theorem LsOk.at {S : LS} (h : LsOk S) (i n : Nat) : LsOk { S with idx := i, nest := n } := ⟨h.num, h.ts, h.names⟩
abbrev N_LineParser_count_of_rounds : List Str := ["self", "outer", "token"]
theorem sc_LineParser_count_of_rounds : FnScope N_LineParser_count_of_rounds ["self", "outer"] (defScope s_LineParser_count_of_rounds) := ⟨rfl, rfl, rfl, by decide +kernel, rfl, by decide +kernel, by decide +kernel⟩
theorem b_LineParser_count_of_rounds (T : Tx K mg) : Binds K T.fd_LineParser_count_of_rounds ["self", "outer"] [] := T.F_LineParser_count_of_rounds.bindsN fun _ _ _ _ _ _ us hl => match us, hl with | [_, _], _ => rfl
theorem ok_LineParser_count_of_rounds (T : Tx K mg) : FnOk P w K mg base (L2.CX P w) 8 (He.ma K (He.ga K "LineParser") "count_of_rounds") T.fd_LineParser_count_of_rounds ["self", "outer"] (spCount K) := by
  refine T.F_LineParser_count_of_rounds.ok sc_LineParser_count_of_rounds (fun vs H Q E h => ?_) (fun cdv A outer s H vs Q E hr h => ?_)
  · obtain ⟨p, S, t, outer, rfl, _⟩ := h
    rfl
  obtain ⟨p, S, t, rr, rfl, hS, ok, ht, ho, q⟩ := h
  have tk0 : Takes (cxOf (L2.CX P w) P w K mg base N_LineParser_count_of_rounds "LineParser.count_of_rounds" (defScope s_LineParser_count_of_rounds) (He.ma K (He.ga K "LineParser") "count_of_rounds") cdv A outer s H E) (fun cls d _ H => E cls d H) := takes_of rfl rfl rfl rfl
  refine ⟨_, (pss_cons (ps_set (i := 2) sc_LineParser_count_of_rounds.nd rfl (Or.inl rfl) (pe_meth (pv 0) T.cl_LineParser T.me_LineParser_take (ok_LineParser_take T) (hr.mono (by decide)) (b_take1 T) (v_take1 T) (passes_call tk0 fun _ _ _ _ h => h) (pa_cons pe_str pa_nil)))
      (pss_cons (ps_if (pt_cmpR (op_gt) (pe_op op_mulW (pe_callTy call_int_str rfl T.z_int (by decide +kernel) (pa_cons (pe_fldK (K := K) (pv 2) rfl rfl) pa_nil)) (pv 1)) (pe_gv rfl T.c_MAX_ROUNDS) (nomark _)) (pss_one (ps_expr (pe_meth (pv 0) T.cl_LineParser T.me_LineParser_fail (ok_LineParser_fail T) (hr.mono (by decide)) (b_LineParser_fail T) .nil (passes_call tk0 fun _ _ _ _ h => h) (pa_cons (pv 2) pa_nil)))) pss_nil)
      (pss_cons (ps_expr (pe_meth (pv 0) T.cl_LineParser T.me_LineParser_take (ok_LineParser_take T) (hr.mono (by decide)) (b_take1 T) (v_take1 T) (passes_call tk0 fun _ _ _ _ h => h) (pa_cons (pe_gv rfl T.c_END) pa_nil)))
      (pss_one (ps_ret (pe_callTy call_int_str rfl T.z_int (by decide +kernel) (pa_cons (pe_fldK (K := K) (pv 2) rfl rfl) pa_nil))))))), ?_⟩
  have hc : t.col < 1000000 := ok.ts.col t (List.mem_of_getElem? ht)
  obtain ⟨dx, tla, hp, hts, hn⟩ := hS
  have hS : LPAt K H p S := ⟨dx, tla, hp, hts, hn⟩
  refine ⟨_, rfl, p, dx, _, rfl, hp, rfl, p, S, t, "number", none, rfl, hS, ok, ht, ?_⟩
  by_cases e1 : t.kind = "number"
  · rw [if_pos (by simp [tkOk, e1])]
    intro a H1 k1 l1 ⟨dy, hk'⟩
    have hk : TkAt K H1 a t := ⟨dy, hk'⟩
    obtain ⟨n1, n2, n3⟩ := numV_ok ok.ts (List.mem_of_getElem? ht) e1
    obtain ⟨dx1, tla1, hp1, hts1, hn1⟩ := l1
    have l1 : LPAt K H1 p { S with idx := S.idx + 1 } := ⟨dx1, tla1, hp1, hts1, hn1⟩
    have hb : (numV t : Int) * (rr : Int) = ((numV t * rr : Nat) : Int) := by simp
    refine ⟨_, rfl, a, _, dy, _, _, rfl, hk', T.cl_Token, T.na_Token_spelling, rfl, _, _, rfl, n1, n3, _, rfl, _, _, rfl, rfl, ?_⟩
    refine ⟨Bd.wmul (a := 20) (b := 20) (by unfold Bd; simp; omega) (by unfold Bd; simp; omega), _, _, rfl, rfl, _, rfl, ?_⟩
    rw [hb]
    by_cases e2 : numV t * rr ≤ 50
    · rw [if_pos ⟨e1, e2⟩] at q
      obtain ⟨t2, ht2, q⟩ := q
      refine ifF (by simp; omega) ?_
      refine ⟨_, rfl, p, dx1, _, rfl, hp1, rfl, p, _, t2, "end of line", none, rfl, l1, ok.at _ _, ht2, ?_⟩
      by_cases e3 : t2.kind = "end of line"
      · rw [if_pos e3] at q
        rw [if_pos (by simp [tkOk, e3])]
        intro b H2 k2 l2 _
        obtain ⟨dy2, hk2⟩ := hk.kp l1 k2
        exact ⟨_, rfl, a, _, dy2, _, _, rfl, hk2, T.cl_Token, T.na_Token_spelling, rfl, _, _, rfl, n1, n3, q H2 (k1.trans k2) l2⟩
      · rw [if_neg e3] at q
        rw [if_neg (by simp [tkOk, e3])]
        exact BadP.kp q k1
    · rw [if_neg (fun z => e2 z.2)] at q
      refine ifT (by simp; omega) ?_
      exact ⟨_, rfl, p, dx1, _, rfl, hp1, rfl, _, rfl, p, a, _, t, rfl, l1, ok.at _ _, hk, hc, BadP.kp q k1⟩
  · rw [if_neg (fun z => e1 z.1)] at q
    rw [if_neg (by simp [tkOk, e1])]
    exact q
end
end Kw

set_option Elab.async false
set_option linter.all false
set_option maxRecDepth 100000
set_option maxHeartbeats 4000000
namespace Kw
open PySem PySem.Spec PyProof.Rows L2
local macro_rules | `(tactic| walk_at $s:str) => do
  match s.getString.splitOn " " with
  | ["new", a] =>
    let p := Lean.mkIdent (Lean.Name.mkSimple ("p" ++ a))
    let n := Lean.mkIdent (Lean.Name.mkSimple ("n" ++ a))
    let H := Lean.mkIdent (Lean.Name.mkSimple ("H" ++ a))
    let s := Lean.mkIdent (Lean.Name.mkSimple ("s" ++ a))
    let h := Lean.mkIdent (Lean.Name.mkSimple ("h" ++ a))
    `(tactic| (intro $p $n; generalize e : upd _ $p _ = $H; have $s : Same _ $H := e ▸ same_new $n; have $h : $H $p = some _ := e ▸ upd_same; clear e))
  | _ => Lean.Macro.throwUnsupported
theorem rowS {K : PySem.W.Frag} {H H' : Hp} {v : V} {r : Row} (s : Same H H') (h : Dp K H v (rowD r)) : Dp K H' v (rowD r) := dp_mono (Same.tups s) _ _ (rowD_tup r) h
/-! ### rows in lowest terms -/
theorem frM_red {n d : Int} (h0 : d ≠ 0) (z : (frM n d).1 = 0) : (frM n d).2 = 1 := by
  have g0 : 0 < (Int.gcd n d : Int) := by
    have := Int.gcd_pos_of_ne_zero_right n h0
    omega
  have z : (if d < 0 then -1 else 1) * n / (Int.gcd n d : Int) = 0 := z
  have dv : (Int.gcd n d : Int) ∣ (if d < 0 then -1 else 1) * n := Int.dvd_mul_of_dvd_right (Int.gcd_dvd_left n d)
  have e := Int.ediv_mul_cancel dv
  rw [z, Int.zero_mul] at e
  have n0 : n = 0 := by
    by_cases h : d < 0
    · rw [if_pos h] at e; omega
    · rw [if_neg h] at e; omega
  show (if d < 0 then -1 else 1) * d / (Int.gcd n d : Int) = 1
  rw [n0, Int.gcd_zero_left]
  have e2 : (if d < 0 then -1 else 1) * d = (d.natAbs : Int) := by
    by_cases h : d < 0
    · rw [if_pos h]; omega
    · rw [if_neg h]; omega
  rw [e2]
  exact Int.ediv_self (by omega)
/-- a row of n + 1 numbers -/
structure RowG (n b : Nat) (r : Row) : Prop where
  len : r.length = n + 1
  ok : RowOk b r
  red : ∀ f ∈ r, f.1 = 0 → f.2 = 1
def lastF (r : Row) : Int × Int := r.getLastD (0, 1)
def addR (a b : Row) : Row := (a.zip b).map fun p => addM p.1 p.2
def joinM (op : Str) (a b : Row) : Option Row :=
  if op = "/" then (if isConstM b = true ∧ isZ (lastF b) = false then some (scaleM a (divM (1, 1) (lastF b))) else none)
  else if isConstM b = true then some (scaleM a (lastF b))
  else if isConstM a = true then some (scaleM b (lastF a)) else none
theorem RowG.mono {n a b : Nat} {r : Row} (h : RowG n a r) (l : a ≤ b) : RowG n b r := ⟨h.len, h.ok.mono l, h.red⟩
theorem RowG.scale {n a b : Nat} {r : Row} {f : Int × Int} (h : RowG n a r) (k : FrOk b f) : RowG n (a + b) (scaleM r f) := by
  refine ⟨by unfold scaleM; rw [List.length_map]; exact h.len, h.ok.scale k, fun g m => ?_⟩
  obtain ⟨c, hc, rfl⟩ := List.mem_map.mp m
  exact frM_red (Int.ne_of_gt (Int.mul_pos (h.ok c hc).p k.p))
theorem RowG.add {n a b : Nat} {r s : Row} (h : RowG n a r) (k : RowG n b s) : RowG n (a + b + 1) (addR r s) := by
  refine ⟨by unfold addR; rw [List.length_map, List.length_zip, h.len, k.len, Nat.min_self], fun g m => ?_, fun g m => ?_⟩
  · obtain ⟨c, hc, rfl⟩ := List.mem_map.mp m
    exact addM_ok (h.ok _ (List.of_mem_zip hc).1) (k.ok _ (List.of_mem_zip hc).2)
  · obtain ⟨c, hc, rfl⟩ := List.mem_map.mp m
    exact frM_red (Int.ne_of_gt (Int.mul_pos (h.ok _ (List.of_mem_zip hc).1).p (k.ok _ (List.of_mem_zip hc).2).p))
theorem RowG.ne {n a : Nat} {r : Row} (h : RowG n a r) : r ≠ [] := fun e => by
  have := h.len
  rw [e] at this
  cases this
theorem lastF_get {r : Row} (h : r ≠ []) : r[r.length - 1]? = some (lastF r) := by
  unfold lastF
  rw [List.getLastD_eq_getLast?, ← List.getLast?_eq_getElem?, List.getLast?_eq_some_getLast h] <;> rfl
theorem RowG.last {n a : Nat} {r : Row} (h : RowG n a r) : lastF r ∈ r := List.mem_of_getElem? (lastF_get h.ne)
theorem neg_ok : FrOk 1 ((-1, 1) : Int × Int) := ⟨by unfold Bd; decide, by unfold Bd; decide, by decide⟩
theorem unit_g {p n : Nat} (h : p ≤ n) : RowG n 1 (unitM p n) := by
  refine ⟨unit_len h, unit_ok p n, fun f m => ?_⟩
  unfold unitM at m
  rcases List.mem_append.mp m with m | m
  · rcases List.mem_append.mp m with m | m
    · rw [List.eq_of_mem_replicate m]; exact fun _ => rfl
    · rw [List.mem_singleton.mp m]; exact fun _ => rfl
  · rw [List.eq_of_mem_replicate m]; exact fun _ => rfl
def numR (n m : Nat) : Row := List.replicate n (0, 1) ++ [((m : Int), 1)]
theorem num_g {n m : Nat} (h : m < 1000000) : RowG n 20 (numR n m) := by
  refine ⟨by unfold numR; simp, fun f k => ?_, fun f k => ?_⟩
  · unfold numR at k
    rcases List.mem_append.mp k with k | k
    · rw [List.eq_of_mem_replicate k]; exact zero_ok.mono (by decide)
    · rw [List.mem_singleton.mp k]
      exact ⟨by unfold Bd; simp; omega, by unfold Bd; show (1 : Int).natAbs < 2 ^ 20; decide, by show (0 : Int) < 1; decide⟩
  · unfold numR at k
    rcases List.mem_append.mp k with k | k
    · rw [List.eq_of_mem_replicate k]; exact fun _ => rfl
    · rw [List.mem_singleton.mp k]; exact fun _ => rfl
theorem nz_of {n a : Nat} {r : Row} (h : RowG n a r) (e : isZ (lastF r) = false) : (lastF r).1 ≠ 0 := fun z => by
  have z2 := h.red _ h.last z
  unfold isZ at e
  rw [z, z2] at e
  cases e
theorem joinM_g {n a b : Nat} {op : Str} {r s x : Row} (h : RowG n a r) (k : RowG n b s) (e : joinM op r s = some x) : RowG n (a + b + 1) x := by
  unfold joinM at e
  by_cases h1 : op = "/"
  · rw [if_pos h1] at e
    by_cases h2 : isConstM s = true ∧ isZ (lastF s) = false
    · rw [if_pos h2] at e
      rw [← Option.some.inj e]
      exact h.scale (divM_ok (k.ok _ k.last) (nz_of k h2.2))
    · rw [if_neg h2] at e; cases e
  · rw [if_neg h1] at e
    by_cases h2 : isConstM s = true
    · rw [if_pos h2] at e
      rw [← Option.some.inj e]
      exact (h.scale (k.ok _ k.last)).mono (by omega)
    · rw [if_neg h2] at e
      by_cases h3 : isConstM r = true
      · rw [if_pos h3] at e
        rw [← Option.some.inj e]
        exact (k.scale (h.ok _ h.last)).mono (by omega)
      · rw [if_neg h3] at e; cases e
/-! ### the expressions: the mirror -/
abbrev Res := Except Nat (Row × Nat)
def colAt (ts : List Tk) (i : Nat) : Nat := match ts[i]? with
  | some t => t.col
  | none => 0
def symAt (ts : List Tk) (i : Nat) (texts : List Str) : Option Tk := match ts[i]? with
  | some t => if acOk "symbol" texts t = true then some t else none
  | none => none
def mulLoop (fac : Nat → Res) (ts : List Tk) : Nat → Row → Nat → Res
  | 0, _, _ => .error 0
  | f + 1, r, i => match symAt ts i ["*", "/"] with
    | none => .ok (r, i)
    | some t => match fac (i + 1) with
      | .error c => .error c
      | .ok (b, j) => match joinM t.text r b with
        | none => .error t.col
        | some x => mulLoop fac ts f x j
def termOf (fac : Nat → Res) (ts : List Tk) (i : Nat) : Res := match fac i with
  | .error c => .error c
  | .ok (a, j) => mulLoop fac ts ts.length a j
def sumLoop (ter : Nat → Res) (ts : List Tk) : Nat → Row → Nat → Res
  | 0, _, _ => .error 0
  | f + 1, r, i => match symAt ts i ["+", "-"] with
    | none => .ok (r, i)
    | some t => match ter (i + 1) with
      | .error c => .error c
      | .ok (b, j) => sumLoop ter ts f (addR r (if t.text = "+" then b else scaleM b (-1, 1))) j
def exprOf (ter : Nat → Res) (ts : List Tk) (i : Nat) : Res := match ter i with
  | .error c => .error c
  | .ok (a, j) => sumLoop ter ts ts.length a j
def facStep (names : List Str) (ts : List Tk) (neg sub : Nat → Res) (i : Nat) : Res := match ts[i]? with
  | none => .error 0
  | some t => if t.kind = "number" then .ok (numR names.length (numV t), i + 1)
    else if t.kind = "name" then (match declM names t with
      | some p => .ok (unitM p names.length, i + 1)
      | none => .error t.col)
    else if acOk "symbol" ["-"] t = true then (match neg (i + 1) with
      | .ok (r, j) => .ok (scaleM r (-1, 1), j)
      | .error c => .error c)
    else if tkOk "symbol" (some "(") t = true then (match sub (i + 1) with
      | .ok (r, j) => (match ts[j]? with
        | none => .error 0
        | some u => if tkOk "symbol" (some ")") u = true then .ok (r, j + 1) else .error u.col)
      | .error c => .error c)
    else .error t.col
def facM (names : List Str) (ts : List Tk) : Nat → Nat → Res
  | 0 => facStep names ts (fun j => .error (colAt ts j)) (fun j => .error (colAt ts j))
  | d + 1 => facStep names ts (facM names ts d) (exprOf (termOf (facM names ts d) ts) ts)
def termM (names : List Str) (ts : List Tk) (d : Nat) : Nat → Res := termOf (facM names ts d) ts
def exprM (names : List Str) (ts : List Tk) : Nat → Nat → Res
  | 0 => fun j => .error (colAt ts j)
  | d + 1 => exprOf (termM names ts d) ts
/-- the recursion of a negative factor -/
def negM (names : List Str) (ts : List Tk) : Nat → Nat → Res
  | 0 => fun j => .error (colAt ts j)
  | d + 1 => facM names ts d
theorem facM_eq (names : List Str) (ts : List Tk) (d : Nat) : facM names ts d = facStep names ts (negM names ts d) (exprM names ts d) := by
  cases d <;> rfl
/-- what an answer of the mirror is: it goes on, it stays inside, its row is small -/
def Gd (ts : List Tk) (n i : Nat) (R : Res) : Prop := ∀ r j, R = .ok (r, j) → i < j ∧ j < ts.length ∧ RowG n (21 * (j - i)) r
theorem sym_in {ts : List Tk} (h : TsOk ts) {i : Nat} {texts : List Str} {t : Tk} (e : symAt ts i texts = some t) : ts[i]? = some t ∧ acOk "symbol" texts t = true ∧ i + 1 < ts.length := by
  unfold symAt at e
  cases q : ts[i]? with
  | none => rw [q] at e; cases e
  | some u =>
    rw [q] at e
    simp only at e
    by_cases a : acOk "symbol" texts u = true
    · rw [if_pos a] at e
      cases e
      refine ⟨rfl, a, h.fin i t q ?_⟩
      unfold acOk at a
      rw [Bool.and_eq_true] at a
      rw [of_decide_eq_true a.1]
      decide +kernel
    · rw [if_neg a] at e; cases e
theorem tk_in {ts : List Tk} (h : TsOk ts) {i : Nat} {k : Str} {tx : Option Str} {t : Tk} (q : ts[i]? = some t) (a : tkOk k tx t = true) (hk : k ≠ "end of line") : i + 1 < ts.length := by
  refine h.fin i t q ?_
  unfold tkOk at a
  rw [Bool.and_eq_true] at a
  rw [of_decide_eq_true a.1]
  exact hk
theorem mulLoop_g {ts : List Tk} (h : TsOk ts) {n i0 : Nat} {fac : Nat → Res} (hf : ∀ i, Gd ts n i (fac i)) : ∀ (f : Nat) (r : Row) (i : Nat), i0 < i → i < ts.length → RowG n (21 * (i - i0)) r → Gd ts n i0 (mulLoop fac ts f r i)
  | 0, _, _, _, _, _ => fun _ _ e => by cases e
  | f + 1, r, i, h1, h2, h3 => fun r' j' e => by
    unfold mulLoop at e
    cases q : symAt ts i ["*", "/"] with
    | none =>
      rw [q] at e
      cases e
      exact ⟨h1, h2, h3⟩
    | some t =>
      rw [q] at e
      simp only at e
      cases q2 : fac (i + 1) with
      | error c => rw [q2] at e; cases e
      | ok bj =>
        obtain ⟨b, j⟩ := bj
        rw [q2] at e
        simp only at e
        obtain ⟨g1, g2, g3⟩ := hf (i + 1) b j q2
        cases q3 : joinM t.text r b with
        | none => rw [q3] at e; cases e
        | some x =>
          rw [q3] at e
          exact mulLoop_g h hf f x j (by omega) g2 ((joinM_g h3 g3 q3).mono (by omega)) r' j' e
theorem termOf_g {ts : List Tk} (h : TsOk ts) {n : Nat} {fac : Nat → Res} (hf : ∀ i, Gd ts n i (fac i)) (i : Nat) : Gd ts n i (termOf fac ts i) := fun r j e => by
  unfold termOf at e
  cases q : fac i with
  | error c => rw [q] at e; cases e
  | ok aj =>
    obtain ⟨a, k⟩ := aj
    rw [q] at e
    obtain ⟨g1, g2, g3⟩ := hf i a k q
    exact mulLoop_g h hf _ a k g1 g2 g3 r j e
theorem sumLoop_g {ts : List Tk} (h : TsOk ts) {n i0 : Nat} {fac : Nat → Res} (hf : ∀ i, Gd ts n i (fac i)) : ∀ (f : Nat) (r : Row) (i : Nat), i0 < i → i < ts.length → RowG n (21 * (i - i0)) r → Gd ts n i0 (sumLoop fac ts f r i)
  | 0, _, _, _, _, _ => fun _ _ e => by cases e
  | f + 1, r, i, h1, h2, h3 => fun r' j' e => by
    unfold sumLoop at e
    cases q : symAt ts i ["+", "-"] with
    | none =>
      rw [q] at e
      cases e
      exact ⟨h1, h2, h3⟩
    | some t =>
      rw [q] at e
      simp only at e
      cases q2 : fac (i + 1) with
      | error c => rw [q2] at e; cases e
      | ok bj =>
        obtain ⟨b, j⟩ := bj
        rw [q2] at e
        simp only at e
        obtain ⟨g1, g2, g3⟩ := hf (i + 1) b j q2
        refine sumLoop_g h hf f _ j (by omega) g2 ?_ r' j' e
        by_cases q3 : t.text = "+"
        · rw [if_pos q3]
          exact (h3.add g3).mono (by omega)
        · rw [if_neg q3]
          exact (h3.add (g3.scale neg_ok)).mono (by omega)
theorem exprOf_g {ts : List Tk} (h : TsOk ts) {n : Nat} {fac : Nat → Res} (hf : ∀ i, Gd ts n i (fac i)) (i : Nat) : Gd ts n i (exprOf fac ts i) := fun r j e => by
  unfold exprOf at e
  cases q : fac i with
  | error c => rw [q] at e; cases e
  | ok aj =>
    obtain ⟨a, k⟩ := aj
    rw [q] at e
    obtain ⟨g1, g2, g3⟩ := hf i a k q
    exact sumLoop_g h hf _ a k g1 g2 g3 r j e
theorem declM_lt {names : List Str} {t : Tk} {i : Nat} (h : declM names t = some i) : i < names.length := (List.getElem?_eq_some_iff.mp (declM_some h).2.1).1
theorem facStep_g {ts : List Tk} (h : TsOk ts) {names : List Str} {neg sub : Nat → Res} (hn : ∀ i, Gd ts names.length i (neg i)) (hs : ∀ i, Gd ts names.length i (sub i)) (i : Nat) : Gd ts names.length i (facStep names ts neg sub i) := fun r j e => by
  unfold facStep at e
  cases q : ts[i]? with
  | none => rw [q] at e; cases e
  | some t =>
    rw [q] at e
    simp only at e
    have m := List.mem_of_getElem? q
    by_cases k1 : t.kind = "number"
    · rw [if_pos k1] at e
      cases e
      refine ⟨by omega, h.fin i t q (by rw [k1]; decide +kernel), (num_g (numV_ok h m k1).2.1).mono (by omega)⟩
    · rw [if_neg k1] at e
      by_cases k2 : t.kind = "name"
      · rw [if_pos k2] at e
        cases q2 : declM names t with
        | none => rw [q2] at e; cases e
        | some p =>
          rw [q2] at e
          cases e
          refine ⟨by omega, h.fin i t q (by rw [k2]; decide +kernel), (unit_g (Nat.le_of_lt (declM_lt q2))).mono (by omega)⟩
      · rw [if_neg k2] at e
        by_cases k3 : acOk "symbol" ["-"] t = true
        · rw [if_pos k3] at e
          cases q2 : neg (i + 1) with
          | error c => rw [q2] at e; cases e
          | ok rj =>
            obtain ⟨a, k⟩ := rj
            rw [q2] at e
            cases e
            obtain ⟨g1, g2, g3⟩ := hn (i + 1) a j q2
            exact ⟨by omega, g2, (g3.scale neg_ok).mono (by omega)⟩
        · rw [if_neg k3] at e
          by_cases k4 : tkOk "symbol" (some "(") t = true
          · rw [if_pos k4] at e
            cases q2 : sub (i + 1) with
            | error c => rw [q2] at e; cases e
            | ok rj =>
              obtain ⟨a, k⟩ := rj
              rw [q2] at e
              simp only at e
              obtain ⟨g1, g2, g3⟩ := hs (i + 1) a k q2
              cases q3 : ts[k]? with
              | none => rw [q3] at e; cases e
              | some u =>
                rw [q3] at e
                simp only at e
                by_cases k5 : tkOk "symbol" (some ")") u = true
                · rw [if_pos k5] at e
                  cases e
                  exact ⟨by omega, tk_in h q3 k5 (by decide +kernel), g3.mono (by omega)⟩
                · rw [if_neg k5] at e; cases e
          · rw [if_neg k4] at e; cases e
theorem facM_g {ts : List Tk} (h : TsOk ts) (names : List Str) : ∀ d i, Gd ts names.length i (facM names ts d i)
  | 0, i => facStep_g h (fun _ _ _ e => by cases e) (fun _ _ _ e => by cases e) i
  | d + 1, i => facStep_g h (facM_g h names d) (exprOf_g h (termOf_g h (facM_g h names d))) i
theorem termM_g {ts : List Tk} (h : TsOk ts) (names : List Str) (d i : Nat) : Gd ts names.length i (termM names ts d i) := termOf_g h (facM_g h names d) i
theorem exprM_g {ts : List Tk} (h : TsOk ts) (names : List Str) : ∀ d i, Gd ts names.length i (exprM names ts d i)
  | 0, i => fun _ _ e => by cases e
  | d + 1, i => exprOf_g h (termM_g h names d) i
theorem negM_g {ts : List Tk} (h : TsOk ts) (names : List Str) : ∀ d i, Gd ts names.length i (negM names ts d i)
  | 0, i => fun _ _ e => by cases e
  | d + 1, i => facM_g h names d i
/-! ### the promises -/
def spJoin (K : PySem.W.Frag) : Sp := fun vs H Q E => ∃ (p o : Addr) (x y : V) (S : LS) (t : Tk) (n a b : Nat) (r s : Row), vs = [.ref p, .ref o, x, y] ∧ LPAt K H p S ∧ LsOk S ∧ TkAt K H o t ∧ t.col < 1000000 ∧ Dp K H x (rowD r) ∧ Dp K H y (rowD s) ∧
  RowG n a r ∧ RowG n b s ∧ n ≤ 4 ∧ a + b ≤ 3200 ∧
  (match joinM t.text r s with
    | some z => ∀ v H', Same H H' → Dp K H' v (rowD z) → Q v H'
    | none => BadP K p H E S.num t.col)
section
variable {P : Program} {w : World} {K : PySem.W.Frag} {mg : Str → Option Value} {base : Heap}
theorem row_last {K : PySem.W.Frag} {H : Hp} {v : V} {n a : Nat} {r : Row} (g : RowG n a r) (h : Dp K H v (rowD r)) : ∃ (p : Addr) (vs : List V) (x : V), v = .ref p ∧ SqT K H p vs ∧ atI vs (-1) = some x ∧ Dp K H x (frD (lastF r)) := by
  obtain ⟨p, vs, rfl, h1, h2⟩ := row_of h
  have l : vs.length = r.length := by rw [dpAll_len h2, List.length_map]
  have l2 := g.len
  obtain ⟨x, hx⟩ : ∃ x, vs[r.length - 1]? = some x := ⟨vs[r.length - 1]'(by omega), List.getElem?_eq_getElem _⟩
  obtain ⟨f, hf, df⟩ := row_at h2 hx
  rw [lastF_get g.ne] at hf
  rw [← Option.some.inj hf] at df
  refine ⟨p, vs, x, rfl, h1, ?_, df⟩
  unfold atI ixN
  rw [if_neg (by omega), if_pos (by omega)]
  rw [show ((-1 : Int) + (vs.length : Int)).toNat = r.length - 1 by omega]
  exact hx
abbrev N_LineParser_joined : List Str := ["self", "operator", "first", "second"]
theorem sc_LineParser_joined : FnScope N_LineParser_joined ["self", "operator", "first", "second"] (defScope s_LineParser_joined) := ⟨rfl, rfl, rfl, by decide +kernel, rfl, by decide +kernel, by decide +kernel⟩
theorem b_LineParser_joined (T : Tx K mg) : Binds K T.fd_LineParser_joined ["self", "operator", "first", "second"] [] := T.F_LineParser_joined.bindsN fun _ _ _ _ _ _ us hl => match us, hl with | [_, _, _, _], _ => rfl
theorem ok_LineParser_joined (T : Tx K mg) : FnOk P w K mg base (L2.CX P w) 6 (He.ma K (He.ga K "LineParser") "joined") T.fd_LineParser_joined ["self", "operator", "first", "second"] (spJoin K) := by
  refine T.F_LineParser_joined.ok sc_LineParser_joined (fun vs H Q E h => ?_) (fun cdv A outer s H vs Q E hr h => ?_)
  · obtain ⟨p, o, x, y, S, t, n, a, b, r, s, rfl, _⟩ := h
    rfl
  obtain ⟨p, o, x, y, S, t, n, a, b, r, r2, rfl, hS, ok, ⟨dy, hk'⟩, hc, hx, hy, g1, g2, n4, ab, q⟩ := h
  have hk : TkAt K H o t := ⟨dy, hk'⟩
  have tk0 : Takes (cxOf (L2.CX P w) P w K mg base N_LineParser_joined "LineParser.joined" (defScope s_LineParser_joined) (He.ma K (He.ga K "LineParser") "joined") cdv A outer s H E) (fun cls d _ H => E cls d H) := takes_of rfl rfl rfl rfl
  refine ⟨_, (pss_cons (ps_if (pt_cmpR (op_eq) (pe_fldK (K := K) (pv 1) rfl rfl) pe_str (nomark _)) (pss_cons (ps_if (PW.pt (pw_or (pt_not (pt_val (pe_call (ok_is_constant T) (hr.mono (by decide)) rfl T.g_is_constant T.F_is_constant.kp (b_is_constant T) .nil pass0 (pa_cons (pv 3) pa_nil)))) (pw_or1 (pt_cmpR (r := rEqD K) (op_eqD hr.units) (pe_ix (r := rIxT K) ix_tup (pv 3) (pe_un un_neg pe_int) (fun _ _ => rfl)) (pe_gr rfl T.g_ZERO) (nomark _))))) (pss_one (ps_expr (pe_meth (pv 0) T.cl_LineParser T.me_LineParser_fail (ok_LineParser_fail T) (hr.mono (by decide)) (b_LineParser_fail T) .nil (passes_call tk0 fun _ _ _ _ h => h) (pa_cons (pv 1) pa_nil)))) pss_nil)
      (pss_one (ps_ret (pe_call (ok_scale_row T) (hr.mono (by decide)) rfl T.g_scale_row T.F_scale_row.kp (b_scale_row T) .nil pass0 (pa_cons (pv 2) (pa_cons (pe_call (ok_divide T) (hr.mono (by decide)) rfl T.g_divide T.F_divide.kp (b_divide T) .nil pass0 (pa_cons (pe_gr rfl T.g_ONE) (pa_cons (pe_ix (r := rIxT K) ix_tup (pv 3) (pe_un un_neg pe_int) (fun _ _ => rfl)) pa_nil))) pa_nil)))))) pss_nil)
      (pss_cons (ps_if (pt_val (pe_call (ok_is_constant T) (hr.mono (by decide)) rfl T.g_is_constant T.F_is_constant.kp (b_is_constant T) .nil pass0 (pa_cons (pv 3) pa_nil))) (pss_one (ps_ret (pe_call (ok_scale_row T) (hr.mono (by decide)) rfl T.g_scale_row T.F_scale_row.kp (b_scale_row T) .nil pass0 (pa_cons (pv 2) (pa_cons (pe_ix (r := rIxT K) ix_tup (pv 3) (pe_un un_neg pe_int) (fun _ _ => rfl)) pa_nil))))) pss_nil)
      (pss_cons (ps_if (pt_not (pt_val (pe_call (ok_is_constant T) (hr.mono (by decide)) rfl T.g_is_constant T.F_is_constant.kp (b_is_constant T) .nil pass0 (pa_cons (pv 2) pa_nil)))) (pss_one (ps_expr (pe_meth (pv 0) T.cl_LineParser T.me_LineParser_fail (ok_LineParser_fail T) (hr.mono (by decide)) (b_LineParser_fail T) .nil (passes_call tk0 fun _ _ _ _ h => h) (pa_cons (pv 1) pa_nil)))) pss_nil)
      (pss_one (ps_ret (pe_call (ok_scale_row T) (hr.mono (by decide)) rfl T.g_scale_row T.F_scale_row.kp (b_scale_row T) .nil pass0 (pa_cons (pv 3) (pa_cons (pe_ix (r := rIxT K) ix_tup (pv 2) (pe_un un_neg pe_int) (fun _ _ => rfl)) pa_nil)))))))), ?_⟩
  obtain ⟨dx, tla, hp, hts, hn⟩ := hS
  have hS : LPAt K H p S := ⟨dx, tla, hp, hts, hn⟩
  have l1 : r.length ≤ 10 := by rw [g1.len]; omega
  have l2 : r2.length ≤ 10 := by rw [g2.len]; omega
  have rk1 : RowOk 3300 r := g1.ok.mono (by omega)
  have rk2 : RowOk 3300 r2 := g2.ok.mono (by omega)
  refine ⟨_, rfl, o, _, dy, _, _, rfl, hk', T.cl_Token, T.na_Token_spelling, rfl, rfl, _, rfl, ?_⟩
  unfold joinM at q
  by_cases e1 : t.text = "/"
  · rw [if_pos e1] at q
    refine ifT (by simp [e1]) ?_
    refine ⟨_, rfl, y, r2, rfl, hy, g2.ne, l2, fun H1 s1 => ⟨_, rfl, ?_⟩⟩
    by_cases e2 : isConstM r2 = true
    · refine ifF (by rw [e2]; rfl) ?_
      obtain ⟨py, vy, xy, rfl, hy1, hy2, hy3⟩ := row_last g2 (rowS s1 hy)
      refine ⟨_, rfl, _, rfl, py, vy, _, xy, rfl, rfl, hy1, hy2, frD (lastF r2), frD (0, 1), hy3, zero_at T _, shaped_fr _, shaped_fr _, _, rfl, ?_⟩
      rw [eqv_zero]
      by_cases e3 : isZ (lastF r2) = true
      · rw [if_neg (fun z => by rw [e3] at z; cases z.2)] at q
        refine ifT e3 ?_
        exact ⟨_, rfl, p, dx, _, rfl, s1 _ _ hp, rfl, _, rfl, p, o, S, t, rfl, hS.same s1, ok, hk.same s1, hc, q.kp (Kf.of s1)⟩
      · have e3 : isZ (lastF r2) = false := by simpa using e3
        rw [if_pos ⟨e2, e3⟩] at q
        refine ifF e3 ?_
        refine ⟨_, rfl, _, rfl, _, rfl, py, vy, _, xy, rfl, rfl, hy1, hy2, _, xy, (1, 1), lastF r2, rfl, one_at T _, hy3, one_ok.mono (by decide), rk2 _ g2.last, nz_of g2 e3, fun v H2 s2 d2 => ?_⟩
        refine ⟨x, v, r, _, rfl, rowS (s1.trans s2) hx, d2, rk1, (divM_ok (g2.ok _ g2.last) (nz_of g2 e3)).mono (by omega), l1, fun v3 H3 s3 d3 => ?_⟩
        exact q v3 H3 ((s1.trans s2).trans s3) d3
    · have e2 : isConstM r2 = false := by simpa using e2
      rw [if_neg (fun z => by rw [e2] at z; cases z.1)] at q
      refine ifT (by rw [e2]; rfl) ?_
      exact ⟨_, rfl, p, dx, _, rfl, s1 _ _ hp, rfl, _, rfl, p, o, S, t, rfl, hS.same s1, ok, hk.same s1, hc, q.kp (Kf.of s1)⟩
  · rw [if_neg e1] at q
    refine ifF (by simp [e1]) ?_
    refine ⟨_, rfl, y, r2, rfl, hy, g2.ne, l2, fun H1 s1 => ⟨_, rfl, ?_⟩⟩
    by_cases e2 : isConstM r2 = true
    · rw [if_pos e2] at q
      refine ifT e2 ?_
      obtain ⟨py, vy, xy, rfl, hy1, hy2, hy3⟩ := row_last g2 (rowS s1 hy)
      refine ⟨_, rfl, _, rfl, _, rfl, py, vy, _, xy, rfl, rfl, hy1, hy2, x, xy, r, lastF r2, rfl, rowS s1 hx, hy3, rk1, rk2 _ g2.last, l1, fun v3 H3 s3 d3 => ?_⟩
      exact q v3 H3 (s1.trans s3) d3
    · have e2' : isConstM r2 = false := by simpa using e2
      rw [if_neg e2] at q
      refine ifF e2' ?_
      refine ⟨_, rfl, x, r, rfl, rowS s1 hx, g1.ne, l1, fun H2 s2 => ⟨_, rfl, ?_⟩⟩
      have s12 := s1.trans s2
      by_cases e3 : isConstM r = true
      · rw [if_pos e3] at q
        refine ifF (by rw [e3]; rfl) ?_
        obtain ⟨py, vy, xy, rfl, hy1, hy2, hy3⟩ := row_last g1 (rowS s12 hx)
        refine ⟨_, rfl, _, rfl, _, rfl, py, vy, _, xy, rfl, rfl, hy1, hy2, y, xy, r2, lastF r, rfl, rowS s12 hy, hy3, rk2, rk1 _ g1.last, l2, fun v3 H3 s3 d3 => ?_⟩
        exact q v3 H3 (s12.trans s3) d3
      · have e3' : isConstM r = false := by simpa using e3
        rw [if_neg e3] at q
        refine ifT (by rw [e3']; rfl) ?_
        exact ⟨_, rfl, p, dx, _, rfl, s12 _ _ hp, rfl, _, rfl, p, o, S, t, rfl, hS.same s12, ok, hk.same s12, hc, q.kp (Kf.of s12)⟩
end
end Kw

set_option Elab.async false
set_option linter.all false
set_option maxRecDepth 100000
set_option maxHeartbeats 4000000
namespace Kw
open PySem PySem.Spec PyProof.Rows L2
local macro_rules | `(tactic| walk_at $s:str) => do
  match s.getString.splitOn " " with
  | ["new", a] =>
    let p := Lean.mkIdent (Lean.Name.mkSimple ("p" ++ a))
    let n := Lean.mkIdent (Lean.Name.mkSimple ("n" ++ a))
    let H := Lean.mkIdent (Lean.Name.mkSimple ("H" ++ a))
    let s := Lean.mkIdent (Lean.Name.mkSimple ("s" ++ a))
    let h := Lean.mkIdent (Lean.Name.mkSimple ("h" ++ a))
    `(tactic| (intro $p $n; generalize e : upd _ $p _ = $H; have $s : Same _ $H := e ▸ same_new $n; have $h : $H $p = some _ := e ▸ upd_same; clear e))
  | _ => Lean.Macro.throwUnsupported
theorem rowK {K : PySem.W.Frag} {H H' : Hp} {p : Addr} {v : V} {r : Row} (k : Kp p H H') (i : Ins H p) (h : Dp K H v (rowD r)) : Dp K H' v (rowD r) := dp_mono (kp_tups k i) _ _ (rowD_tup r) h
theorem Kp.same {p : Addr} {H H1 H2 : Hp} (k : Kp p H H1) (s : Same H1 H2) : Kp p H H2 := k.trans (Kf.of s)
theorem ins_same {H H' : Hp} {p : Addr} (h : Ins H p) (s : Same H H') : Ins H' p := let ⟨C, dx, fs, e⟩ := h; ⟨C, dx, fs, s _ _ e⟩
/-- a promise about an expression -/
def spRes (K : PySem.W.Frag) (g : List Str → List Tk → Nat → Res) (nest : Nat) : Sp := fun vs H Q E => ∃ (p : Addr) (S : LS), vs = [.ref p] ∧ LPAt K H p S ∧ LsOk S ∧ S.nest = nest ∧ S.idx < S.ts.length ∧ NmT H S.nm (S.names.map V.str) ∧
  (match g S.names S.ts S.idx with
    | .ok (r, j) => ∀ v H', Kp p H H' → LPAt K H' p { S with idx := j } → Dp K H' v (rowD r) → Q v H'
    | .error c => BadP K p H E S.num c)
def spNever : Sp := fun _ _ _ _ => False
def spFac (K : PySem.W.Frag) (d : Nat) : Sp := spRes K (fun n t => facM n t d) (20 - d)
def spTerm (K : PySem.W.Frag) (d : Nat) : Sp := spRes K (fun n t => termM n t d) (20 - d)
def spExpr (K : PySem.W.Frag) (d : Nat) : Sp := spRes K (fun n t => exprM n t d) (20 - d)
def spNeg (K : PySem.W.Frag) : Nat → Sp
  | 0 => spNever
  | d + 1 => spFac K d
def spTermP (K : PySem.W.Frag) : Nat → Sp
  | 0 => spNever
  | d + 1 => spTerm K d
/-- behind accept: nothing, or the operator at i -/
def OpAt (K : PySem.W.Frag) (p : Addr) (S : LS) (texts : List Str) (i : Nat) (o : V) (H : Hp) : Prop :=
  (o = .non ∧ symAt S.ts i texts = none ∧ LPAt K H p { S with idx := i }) ∨ (∃ a t, o = .ref a ∧ symAt S.ts i texts = some t ∧ TkAt K H a t ∧ LPAt K H p { S with idx := i + 1 })
theorem accept_at {K : PySem.W.Frag} {p b : Addr} {H : Hp} {Q : VK} {E : XK} {S : LS} {texts : List Str} {i : Nat} (hS : LPAt K H p { S with idx := i }) (hi : i < S.ts.length) (hb : SqT K H b (texts.map V.str))
    (q : ∀ o H', Kp p H H' → OpAt K p S texts i o H' → Q o H') : spAccept K ([.ref p, .str "symbol", .ref b] ++ []) H Q E := by
  obtain ⟨t, ht⟩ : ∃ t, S.ts[i]? = some t := ⟨S.ts[i], List.getElem?_eq_getElem hi⟩
  refine ⟨p, b, _, t, "symbol", texts, rfl, hS, ht, hb, ?_⟩
  by_cases a : acOk "symbol" texts t = true
  · rw [if_pos a]
    intro x H' k l hk
    refine q _ H' k (.inr ⟨x, t, rfl, ?_, hk, l⟩)
    unfold symAt
    rw [ht]
    exact if_pos a
  · rw [if_neg a]
    refine q _ H (Kf.refl H) (.inl ⟨rfl, ?_, hS⟩)
    unfold symAt
    rw [ht]
    exact if_neg a
theorem LsOk.eq {S : LS} (h : LsOk S) {U : LS} (e1 : U.num = S.num) (e2 : U.names = S.names) (e3 : U.ts = S.ts) : LsOk U := ⟨by rw [e1]; exact h.num, by rw [e3]; exact h.ts, by rw [e2]; exact h.names⟩
section
variable {P : Program} {w : World} {K : PySem.W.Frag} {mg : Str → Option Value} {base : Heap}
abbrev N_LineParser_expression : List Str := ["self", "found", "operator", "row", "one", "other"]
theorem sc_LineParser_expression : FnScope N_LineParser_expression ["self"] (defScope s_LineParser_expression) := ⟨rfl, rfl, rfl, by decide +kernel, rfl, by decide +kernel, by decide +kernel⟩
theorem b_LineParser_expression (T : Tx K mg) : Binds K T.fd_LineParser_expression ["self"] [] := T.F_LineParser_expression.bindsN fun _ _ _ _ _ _ us hl => match us, hl with | [_], _ => rfl
abbrev N_LineParser_term : List Str := ["self", "found", "operator", "row"]
theorem sc_LineParser_term : FnScope N_LineParser_term ["self"] (defScope s_LineParser_term) := ⟨rfl, rfl, rfl, by decide +kernel, rfl, by decide +kernel, by decide +kernel⟩
theorem b_LineParser_term (T : Tx K mg) : Binds K T.fd_LineParser_term ["self"] [] := T.F_LineParser_term.bindsN fun _ _ _ _ _ _ us hl => match us, hl with | [_], _ => rfl
abbrev N_LineParser_factor : List Str := ["self", "token", "size", "place", "found"]
theorem sc_LineParser_factor : FnScope N_LineParser_factor ["self"] (defScope s_LineParser_factor) := ⟨rfl, rfl, rfl, by decide +kernel, rfl, by decide +kernel, by decide +kernel⟩
theorem b_LineParser_factor (T : Tx K mg) : Binds K T.fd_LineParser_factor ["self"] [] := T.F_LineParser_factor.bindsN fun _ _ _ _ _ _ us hl => match us, hl with | [_], _ => rfl
theorem ok_term (T : Tx K mg) (d : Nat) (hF : FnOk P w K mg base (L2.CX P w) (3 * d + 13) (He.ma K (He.ga K "LineParser") "factor") T.fd_LineParser_factor ["self"] (spFac K d)) :
    FnOk P w K mg base (L2.CX P w) (3 * d + 14) (He.ma K (He.ga K "LineParser") "term") T.fd_LineParser_term ["self"] (spTerm K d) := by
  refine T.F_LineParser_term.ok sc_LineParser_term (fun vs H Q E h => ?_) (fun cdv A outer s H vs Q E hr h => ?_)
  · obtain ⟨p, S, rfl, _⟩ := h
    rfl
  obtain ⟨p, S, rfl, hS, ok, hd, hi, hN, q⟩ := h
  have tk0 : Takes (cxOf (L2.CX P w) P w K mg base N_LineParser_term "LineParser.term" (defScope s_LineParser_term) (He.ma K (He.ga K "LineParser") "term") cdv A outer s H E) (fun cls d _ H => E cls d H) := takes_of rfl rfl rfl rfl
  refine ⟨_, (pss_cons (ps_set (i := 1) sc_LineParser_term.nd rfl (Or.inl rfl) (pe_meth0 (pv 0) T.cl_LineParser T.me_LineParser_factor hF (hr.mono (by omega)) (b_LineParser_factor T) .nil (passes_call tk0 fun _ _ _ _ h => h)))
      (pss_cons (ps_set (i := 2) sc_LineParser_term.nd rfl (Or.inl rfl) (pe_meth (pv 0) T.cl_LineParser T.me_LineParser_accept (ok_LineParser_accept T) (hr.mono (by omega)) (b_LineParser_accept T) .nil pass0 (pa_cons pe_str (pa_cons (pe_tup (pa_cons pe_str (pa_cons pe_str pa_nil))) pa_nil))))
      (pss_cons (ps_while (passes_of rfl) (pt_cmpR (op_notN) (pv 2) pe_non (nomark _)) (pss_cons (ps_set (i := 3) sc_LineParser_term.nd rfl (Or.inl rfl) (pe_meth0 (pv 0) T.cl_LineParser T.me_LineParser_factor hF (hr.mono (by omega)) (b_LineParser_factor T) .nil (passes_call tk0 fun _ _ _ _ h => h)))
      (pss_cons (ps_set (i := 1) sc_LineParser_term.nd rfl (Or.inl rfl) (pe_meth (pv 0) T.cl_LineParser T.me_LineParser_joined (ok_LineParser_joined T) (hr.mono (by omega)) (b_LineParser_joined T) .nil (passes_call tk0 fun _ _ _ _ h => h) (pa_cons (pv 2) (pa_cons (pv 1) (pa_cons (pv 3) pa_nil)))))
      (pss_one (ps_set (i := 2) sc_LineParser_term.nd rfl (Or.inl rfl) (pe_meth (pv 0) T.cl_LineParser T.me_LineParser_accept (ok_LineParser_accept T) (hr.mono (by omega)) (b_LineParser_accept T) .nil pass0 (pa_cons pe_str (pa_cons (pe_tup (pa_cons pe_str (pa_cons pe_str pa_nil))) pa_nil))))))))
      (pss_one (ps_ret (pv 1)))))), ?_⟩
  obtain ⟨dx, tla, hp, hts, hn⟩ := hS
  have hS : LPAt K H p S := ⟨dx, tla, hp, hts, hn⟩
  have fg := facM_g ok.ts S.names d
  have tg := termM_g ok.ts S.names d S.idx
  refine ⟨_, rfl, p, dx, _, rfl, hp, rfl, p, S, rfl, hS, ok, hd, hi, hN, ?_⟩
  simp only at q ⊢
  generalize eR : termM S.names S.ts d S.idx = R at q tg
  have eR0 := eR
  unfold termM termOf at eR0
  cases q1 : facM S.names S.ts d S.idx with
  | error c =>
    rw [q1] at eR0
    rw [← eR0] at q
    exact q
  | ok aj =>
  obtain ⟨r0, j0⟩ := aj
  rw [q1] at eR0
  simp only at eR0
  obtain ⟨g1, g2, g3⟩ := fg _ _ _ q1
  intro x H1 k1 l1 d1
  obtain ⟨dx1, tla1, hp1, _⟩ := id l1
  refine ⟨_, rfl, p, dx1, _, rfl, hp1, rfl, sz 2, ?_⟩
  walk_at "new 2"
  dsimp only [tNil]
  refine accept_at (S := S) (texts := ["*", "/"]) (i := j0) (l1.same s2) g2 (.of h2) fun o H3 k3 o3 => ?_
  have k13 : Kp p H H3 := (k1.same s2).trans k3
  refine ⟨fun m σ H' => ∃ (i : Nat) (r : Row) (x o : V) (rv : Option V), σ = [some (.ref p), some x, some o, rv] ∧ S.idx < i ∧ i < S.ts.length ∧ S.ts.length < m + i ∧ RowG S.names.length (21 * (i - S.idx)) r ∧ Kp p H H' ∧ Dp K H' x (rowD r) ∧
      OpAt K p S ["*", "/"] i o H' ∧ mulLoop (facM S.names S.ts d) S.ts m r i = R,
    ⟨S.ts.length, j0, r0, x, o, none, rfl, g1, g2, by omega, g3, k13, rowK k3 (ins_same l1.ins s2) (rowS s2 d1), o3, eR0⟩, ?_⟩
  rintro m σ H4 ⟨i, r, x, o, rv, rfl, i1, i2, i3, rg, k4, d4, o4, e4⟩
  refine ⟨_, rfl, rfl, _, rfl, ?_⟩
  cases m with
  | zero => omega
  | succ m =>
  unfold mulLoop at e4
  rcases o4 with ⟨rfl, n4, l4⟩ | ⟨a, t, rfl, n4, tk4, l4⟩
  · rw [n4] at e4
    refine ifF rfl ?_
    rw [← e4] at q
    exact ⟨_, rfl, q x H4 k4 l4 d4⟩
  · rw [n4] at e4
    simp only at e4
    refine ifT rfl ⟨_, fun _ _ h => h, ?_⟩
    obtain ⟨t1, t2, t3⟩ := sym_in ok.ts n4
    obtain ⟨dx4, tla4, hp4, _⟩ := id l4
    refine ⟨_, rfl, p, dx4, _, rfl, hp4, rfl, p, _, rfl, l4, ok.eq rfl rfl rfl, hd, t3, hN.kp k4 hS.ins, ?_⟩
    simp only
    cases q5 : facM S.names S.ts d (i + 1) with
    | error c =>
      rw [q5] at e4
      rw [← e4] at q
      exact q.kp k4
    | ok bj =>
    obtain ⟨b, j⟩ := bj
    rw [q5] at e4
    simp only at e4
    obtain ⟨f1, f2, f3⟩ := fg _ _ _ q5
    intro y H5 k5 l5 d5
    obtain ⟨dx5, tla5, hp5, _⟩ := id l5
    have tk5 := tk4.kp l4 k5
    have k45 : Kp p H H5 := k4.trans k5
    have d45 := rowK k5 l4.ins d4
    have l151 := ok.ts.len
    refine ⟨_, rfl, p, dx5, _, rfl, hp5, rfl, _, rfl, _, rfl, _, rfl, p, a, x, y, _, t, S.names.length, _, _, r, b, rfl, l5, ok.eq rfl rfl rfl, tk5, ok.ts.col t (List.mem_of_getElem? t1), d45, d5, rg, f3, ok.names, by omega, ?_⟩
    cases q6 : joinM t.text r b with
    | none =>
      rw [q6] at e4
      rw [← e4] at q
      exact q.kp k45
    | some z =>
    rw [q6] at e4
    simp only at e4
    intro v H6 s6 d6
    have l6 := l5.same s6
    obtain ⟨dx6, tla6, hp6, _⟩ := id l6
    refine ⟨_, rfl, p, dx6, _, rfl, hp6, rfl, sz 2, ?_⟩
    walk_at "new 7"
    dsimp only [tNil]
    refine accept_at (S := S) (texts := ["*", "/"]) (i := j) (l6.same s7) f2 (.of h7) fun o H8 k8 o8 => ?_
    exact ⟨m, by omega, j, z, v, o, some y, rfl, by omega, f2, by omega, (joinM_g rg f3 q6).mono (by omega), (k45.same (s6.trans s7)).trans k8, rowK k8 (ins_same l6.ins s7) (rowS s7 d6), o8, e4⟩
theorem ok_expr (T : Tx K mg) (d : Nat) (d20 : d ≤ 20) (hT : FnOk P w K mg base (L2.CX P w) (3 * d + 11) (He.ma K (He.ga K "LineParser") "term") T.fd_LineParser_term ["self"] (spTermP K d)) :
    FnOk P w K mg base (L2.CX P w) (3 * d + 12) (He.ma K (He.ga K "LineParser") "expression") T.fd_LineParser_expression ["self"] (spExpr K d) := by
  refine T.F_LineParser_expression.ok sc_LineParser_expression (fun vs H Q E h => ?_) (fun cdv A outer s H vs Q E hr h => ?_)
  · obtain ⟨p, S, rfl, _⟩ := h
    rfl
  obtain ⟨p, S, rfl, hS, ok, hd, hi, hN, q⟩ := h
  have tk0 : Takes (cxOf (L2.CX P w) P w K mg base N_LineParser_expression "LineParser.expression" (defScope s_LineParser_expression) (He.ma K (He.ga K "LineParser") "expression") cdv A outer s H E) (fun cls d _ H => E cls d H) := takes_of rfl rfl rfl rfl
  refine ⟨_, (pss_cons (ps_fldaug (pv 0) pe_int in_add)
      (pss_cons (ps_if (pt_cmpR (op_gt) (pe_fldK (K := K) (pv 0) rfl rfl) (pe_gv rfl T.c_MAX_NESTING) (nomark _)) (pss_one (ps_expr (pe_meth (pv 0) T.cl_LineParser T.me_LineParser_fail (ok_LineParser_fail T) (hr.mono (by omega)) (b_LineParser_fail T) .nil (passes_call tk0 fun _ _ _ _ h => h) (pa_cons (pe_meth0 (pv 0) T.cl_LineParser T.me_LineParser_peek (ok_LineParser_peek T) (hr.mono (by omega)) (b_LineParser_peek T) .nil pass0) pa_nil)))) pss_nil)
      (pss_cons (ps_set (i := 1) sc_LineParser_expression.nd rfl (Or.inl rfl) (pe_meth0 (pv 0) T.cl_LineParser T.me_LineParser_term hT (hr.mono (by omega)) (b_LineParser_term T) .nil (passes_call tk0 fun _ _ _ _ h => h)))
      (pss_cons (ps_set (i := 2) sc_LineParser_expression.nd rfl (Or.inl rfl) (pe_meth (pv 0) T.cl_LineParser T.me_LineParser_accept (ok_LineParser_accept T) (hr.mono (by omega)) (b_LineParser_accept T) .nil pass0 (pa_cons pe_str (pa_cons (pe_tup (pa_cons pe_str (pa_cons pe_str pa_nil))) pa_nil))))
      (pss_cons (ps_while (passes_of rfl) (pt_cmpR (op_notN) (pv 2) pe_non (nomark _)) (pss_cons (ps_set (i := 3) sc_LineParser_expression.nd rfl (Or.inl rfl) (pe_ifExp (pt_cmpR (op_eq) (pe_fldK (K := K) (pv 2) rfl rfl) pe_str (nomark _)) (pe_meth0 (pv 0) T.cl_LineParser T.me_LineParser_term hT (hr.mono (by omega)) (b_LineParser_term T) .nil (passes_call tk0 fun _ _ _ _ h => h)) (pe_call (ok_scale_row T) (hr.mono (by omega)) rfl T.g_scale_row T.F_scale_row.kp (b_scale_row T) .nil pass0 (pa_cons (pe_meth0 (pv 0) T.cl_LineParser T.me_LineParser_term hT (hr.mono (by omega)) (b_LineParser_term T) .nil (passes_call tk0 fun _ _ _ _ h => h)) (pa_cons (pe_tup (pa_cons (pe_un un_neg pe_int) (pa_cons pe_int pa_nil))) pa_nil)))))
      (pss_cons (ps_set (i := 1) sc_LineParser_expression.nd rfl (Or.inl rfl) (pe_callTy call_tuple_of rfl T.z_tuple (by decide +kernel) (pa_cons (pe_lc (own := [("one", 4), ("other", 5)]) (g := (gTup K 2 (gCons (gName 4) (gCons (gName 5) gNil)))) (tt := tYes) (by rfl) sc_LineParser_expression.nd (RZ.pi_zipA (by rfl) T.z_zip (pa_cons (pv 1) (pa_cons (pv 3) pa_nil))) (blkOk_by (own := [("one", 4), ("other", 5)]) (N := N_LineParser_expression) (sc := (defScope s_LineParser_expression)) (by decide +kernel)) (fun _ _ _ _ _ => (pg_tup rfl (pgs_cons (pg_name (i := 4) sc_LineParser_expression.nd rfl (Or.inl rfl)) (pgs_cons (pg_name (i := 5) sc_LineParser_expression.nd rfl (Or.inl rfl)) pgs_nil)))) (fun _ _ _ _ _ => pts_nil) (fun _ _ _ _ _ => (pe_call (ok_add T) (hr.mono (by omega)) rfl T.g_add T.F_add.kp (b_add T) .nil pass0 (pa_cons (pv 4) (pa_cons (pv 5) pa_nil))))) pa_nil)))
      (pss_one (ps_set (i := 2) sc_LineParser_expression.nd rfl (Or.inl rfl) (pe_meth (pv 0) T.cl_LineParser T.me_LineParser_accept (ok_LineParser_accept T) (hr.mono (by omega)) (b_LineParser_accept T) .nil pass0 (pa_cons pe_str (pa_cons (pe_tup (pa_cons pe_str (pa_cons pe_str pa_nil))) pa_nil))))))))
      (pss_cons (ps_fldaug (pv 0) pe_int in_sub)
      (pss_one (ps_ret (pv 1))))))))), ?_⟩
  obtain ⟨dx, tla, hp, hts, hn⟩ := hS
  have hS : LPAt K H p S := ⟨dx, tla, hp, hts, hn⟩
  simp only at q
  obtain ⟨l0, k0⟩ := LPAt.put hp hts hn S.idx (S.nest + 1)
  have hN0 := hN.kp k0 hS.ins
  obtain ⟨dx0, tla0, hp0, _⟩ := id l0
  have ok0 : LsOk { S with nest := S.nest + 1 } := ok.eq rfl rfl rfl
  refine ⟨_, rfl, p, _, dx, _, _, rfl, hp, T.cl_LineParser, T.na_LineParser_nesting, rfl, _, _, rfl, rfl, _, _, hp, (by show 5 < 1000; decide), ?_⟩
  refine ⟨_, rfl, p, _, dx0, _, _, rfl, hp0, T.cl_LineParser, T.na_LineParser_nesting, rfl, _, _, rfl, rfl, _, rfl, ?_⟩
  cases d with
  | zero =>
    obtain ⟨t, ht⟩ : ∃ t, S.ts[S.idx]? = some t := ⟨_, List.getElem?_eq_getElem hi⟩
    have qe : colAt S.ts S.idx = t.col := by unfold colAt; rw [ht]
    refine ifT (by simp; omega) ?_
    refine ⟨_, rfl, p, dx0, _, rfl, hp0, rfl, _, rfl, p, dx0, _, rfl, hp0, rfl, p, _, t, rfl, l0, ht, fun a tk => ?_⟩
    refine ⟨p, a, _, t, rfl, l0, ok0, tk, ok.ts.col t (List.mem_of_getElem? ht), ?_⟩
    rw [← qe]
    exact BadP.kp q k0
  | succ d =>
  refine ifF (by simp; omega) ?_
  have fg := termM_g ok.ts S.names d
  have eg := exprM_g ok.ts S.names (d + 1) S.idx
  have hd1 : S.nest + 1 = 20 - d := by omega
  refine ⟨_, rfl, p, dx0, _, rfl, hp0, rfl, p, _, rfl, l0, ok0, hd1, hi, hN0, ?_⟩
  simp only
  generalize eR : exprM S.names S.ts (d + 1) S.idx = R at q eg
  have eR0 : exprOf (termM S.names S.ts d) S.ts S.idx = R := eR
  unfold exprOf at eR0
  cases q1 : termM S.names S.ts d S.idx with
  | error c =>
    rw [q1] at eR0
    rw [← eR0] at q
    exact BadP.kp q k0
  | ok aj =>
  obtain ⟨r0, j0⟩ := aj
  rw [q1] at eR0
  simp only at eR0
  obtain ⟨g1, g2, g3⟩ := fg _ _ _ q1
  intro x H1 k1 l1 d1
  obtain ⟨dx1, tla1, hp1, _⟩ := id l1
  refine ⟨_, rfl, p, dx1, _, rfl, hp1, rfl, sz 2, ?_⟩
  walk_at "new 2"
  dsimp only [tNil]
  refine accept_at (S := { S with nest := S.nest + 1 }) (texts := ["+", "-"]) (i := j0) (l1.same s2) g2 (.of h2) fun o H3 k3 o3 => ?_
  have k13 : Kp p H H3 := (Kp.same (k0.trans k1) s2).trans k3
  refine ⟨fun m σ H' => ∃ (i : Nat) (r : Row) (x o : V) (rv : Option V), σ = [some (.ref p), some x, some o, rv, none, none] ∧ S.idx < i ∧ i < S.ts.length ∧ S.ts.length < m + i ∧ RowG S.names.length (21 * (i - S.idx)) r ∧ Kp p H H' ∧ Dp K H' x (rowD r) ∧
      OpAt K p { S with nest := S.nest + 1 } ["+", "-"] i o H' ∧ sumLoop (termM S.names S.ts d) S.ts m r i = R,
    ⟨S.ts.length, j0, r0, x, o, none, rfl, g1, g2, by omega, g3, k13, rowK k3 (ins_same l1.ins s2) (rowS s2 d1), o3, eR0⟩, ?_⟩
  rintro m σ H4 ⟨i, r, x, o, rv, rfl, i1, i2, i3, rg, k4, d4, o4, e4⟩
  refine ⟨_, rfl, rfl, _, rfl, ?_⟩
  cases m with
  | zero => omega
  | succ m =>
  unfold sumLoop at e4
  rcases o4 with ⟨rfl, n4, l4⟩ | ⟨a, t, rfl, n4, tk4, l4⟩
  · rw [n4] at e4
    refine ifF rfl ?_
    rw [← e4] at q
    obtain ⟨dx4, tla4, hp4, ht4, hn4⟩ := id l4
    obtain ⟨l9, k9⟩ := LPAt.put (S := { S with nest := S.nest + 1, idx := i }) hp4 ht4 hn4 i S.nest
    refine ⟨_, rfl, p, _, dx4, _, _, rfl, hp4, T.cl_LineParser, T.na_LineParser_nesting, rfl, ((S.nest + 1 : Nat) : Int), 1, rfl, rfl, _, _, hp4, (by show 5 < 1000; decide), _, rfl, ?_⟩
    rw [show (((S.nest + 1 : Nat) : Int) - 1) = (S.nest : Int) by omega]
    exact q x _ (k4.trans k9) l9 (rowK k9 l4.ins d4)
  · rw [n4] at e4
    simp only at e4
    refine ifT rfl ⟨_, fun _ _ h => h, ?_⟩
    obtain ⟨t1, t2, t3⟩ := sym_in ok.ts n4
    obtain ⟨dx4, tla4, hp4, _⟩ := id l4
    have l151 := ok.ts.len
    obtain ⟨dy, hk4⟩ := id tk4
    refine ⟨_, rfl, a, _, dy, _, _, rfl, hk4, T.cl_Token, T.na_Token_spelling, rfl, rfl, _, rfl, ?_⟩
    by_cases e : t.text = "+"
    case' pos =>
      refine ifT (by simp [e]) ⟨_, rfl, p, dx4, _, rfl, hp4, rfl, p, _, rfl, l4, ok.eq rfl rfl rfl, hd1, t3, hN.kp k4 hS.ins, ?_⟩
      simp only
      rcases q5 : termM S.names S.ts d (i + 1) with c | bj
      · rw [q5] at e4
        rw [← e4] at q
        exact BadP.kp q k4
      obtain ⟨b, j⟩ := bj
      rw [q5] at e4
      simp only at e4
      rw [if_pos e] at e4
      obtain ⟨f1, f2, f3⟩ := fg _ _ _ q5
      have fb : RowG S.names.length (21 * (j - (i + 1)) + 1) b := f3.mono (Nat.le_succ _)
      intro y H5 k5 l5 d5
      have k45 : Kp p H H5 := k4.trans k5
      have d45 := rowK k5 l4.ins d4
    case' neg =>
      refine ifF (by simp [e]) ⟨_, rfl, p, dx4, _, rfl, hp4, rfl, p, _, rfl, l4, ok.eq rfl rfl rfl, hd1, t3, hN.kp k4 hS.ins, ?_⟩
      simp only
      rcases q5 : termM S.names S.ts d (i + 1) with c | bj
      · rw [q5] at e4
        rw [← e4] at q
        exact BadP.kp q k4
      obtain ⟨b0, j⟩ := bj
      rw [q5] at e4
      simp only at e4
      rw [if_neg e] at e4
      obtain ⟨f1, f2, f3⟩ := fg _ _ _ q5
      have fb : RowG S.names.length (21 * (j - (i + 1)) + 1) (scaleM b0 (-1, 1)) := f3.scale neg_ok
      intro y0 H50 k50 l50 d50
      refine ⟨_, rfl, sz 2, ?_⟩
      walk_at "new 6"
      refine ⟨y0, .ref p6, b0, (-1, 1), rfl, rowS s6 d50, fr_mk (.of h6), f3.ok.mono (by omega), neg_ok.mono (by decide), by rw [f3.len]; have := ok.names; omega, ?_⟩
      generalize scaleM b0 (-1, 1) = b at fb e4
      intro y H5 s56 d5
      have s5 : Same H50 H5 := s6.trans s56
      have l5 := l50.same s5
      have k45 : Kp p H H5 := Kp.same (k4.trans k50) s5
      have d45 := rowS s5 (rowK k50 l4.ins d4)
    all_goals
      obtain ⟨ax, vx, rfl, hx, dvx⟩ := row_of d45
      obtain ⟨ay, vy, rfl, hy, dvy⟩ := row_of d5
      have lx : vx.length = S.names.length + 1 := by rw [dpAll_len dvx, List.length_map, rg.len]
      have ly : vy.length = S.names.length + 1 := by rw [dpAll_len dvy, List.length_map, fb.len]
      have nl := ok.names
      have nl : S.names.length ≤ 4 := nl
      refine ⟨_, rfl, _, rfl, ax, ay, vx, vy, rfl, .inr ⟨hx, hy, fun D hD => lc_pure (walk_zipT (K := K) (a := ax) (b := ay) (xs := vx) (ys := vy) (n := S.names.length + 1) (by rw [lx, ly, Nat.min_self])) hD (fun k v H => ∀ f g, r[k]? = some f → b[k]? = some g → Dp K H v (frD (addM f g))) (fun k v H H' s h f g e1 e2 => dp_mono s _ _ (frD_tup _) (h f g e1 e2)) (by omega)
        (fun H2 s2 => ⟨sameT s2 hx, sameT s2 hy⟩) (fun k z Ha Hb _ ⟨tt, u1, u2, _, e2, e3, _⟩ => by rw [e3]; exact same_new e2) ?_ ?_ ?_⟩⟩
      · rintro k z Ha Hb hk sa ⟨tt, u1, u2, rfl, nt, rfl, hu, hv⟩
        obtain ⟨f, hf, df⟩ := row_at dvx hu
        obtain ⟨g, hg, dg⟩ := row_at dvy hv
        have sb := sa.trans (same_new (o := .tup [u1, u2]) nt)
        refine ⟨tt, _, rfl, .of upd_same, rfl, u1, _, rfl, u2, _, rfl, rfl, rfl, Same.refl _, fun Q' h => ⟨_, rfl, _, rfl, u1, u2, f, g, rfl, dp_mono (Same.tups sb) _ _ (frD_tup _) df, dp_mono (Same.tups sb) _ _ (frD_tup _) dg, (rg.ok f (List.mem_of_getElem? hf)).mono (by omega), (fb.ok g (List.mem_of_getElem? hg)).mono (by omega), trivial, fun v H3 s3 d => h v H3 s3 fun f' g' e1 e2 => ?_⟩⟩
        rw [hf] at e1
        rw [hg] at e2
        rw [← Option.some.inj e1, ← Option.some.inj e2]
        exact d
      · intro z Ha A B m h
        obtain ⟨b1, xs, e1, e2, e3, v1, r1, e5, v2, r2, e6, e7, h⟩ := h
        exact ⟨b1, xs, e1, e2, e3, v1, r1, e5, v2, r2, e6, e7, m _ _ h⟩
      · intro ys H6 s6' h6' hn' hy'
        refine ⟨D, ys, rfl, .inl ⟨.of h6', ?_⟩⟩
        walk_at "new 7"
        have d7 : Dp K H7 (.ref p7) (rowD (addR r b)) := by
          refine .tup (.of h7) ?_
          have hz : ys.length = (List.map frD (addR r b)).length := by
            rw [List.length_map, (rg.add fb).len]
            exact hn'
          refine dpAll_mk hz fun k v dd e1 e2 => ?_
          obtain ⟨c', e3, rfl⟩ := map_get e2
          obtain ⟨c, e5, rfl⟩ := map_get (l := r.zip b) (f := fun q => addM q.1 q.2) e3
          obtain ⟨e6, e7⟩ := List.getElem?_zip_eq_some.mp e5
          exact dp_mono (Same.tups s7) _ _ (frD_tup _) (hy' k v e1 _ _ e6 e7)
        have l7 := (l5.same s6').same s7
        obtain ⟨dx7, tla7, hp7, _⟩ := id l7
        refine ⟨_, rfl, p, dx7, _, rfl, hp7, rfl, sz 2, ?_⟩
        walk_at "new 8"
        dsimp only [tNil]
        refine accept_at (S := { S with nest := S.nest + 1 }) (texts := ["+", "-"]) (i := j) (l7.same s8) f2 (.of h8) fun o H9 k9 o9 => ?_
        exact ⟨m, by omega, j, _, _, o, _, rfl, by omega, f2, by omega, (rg.add fb).mono (by omega), (Kp.same k45 ((s6'.trans s7).trans s8)).trans k9, rowK k9 (ins_same l7.ins s8) (rowS s8 d7), o9, e4⟩
end
end Kw

set_option Elab.async false
set_option linter.all false
set_option maxRecDepth 100000
set_option maxHeartbeats 4000000
namespace Kw
open PySem PySem.Spec PyProof.Rows L2
local macro_rules | `(tactic| walk_at $s:str) => do
  match s.getString.splitOn " " with
  | ["new", a] =>
    let p := Lean.mkIdent (Lean.Name.mkSimple ("p" ++ a))
    let n := Lean.mkIdent (Lean.Name.mkSimple ("n" ++ a))
    let H := Lean.mkIdent (Lean.Name.mkSimple ("H" ++ a))
    let s := Lean.mkIdent (Lean.Name.mkSimple ("s" ++ a))
    let h := Lean.mkIdent (Lean.Name.mkSimple ("h" ++ a))
    `(tactic| (intro $p $n; generalize e : upd _ $p _ = $H; have $s : Same _ $H := e ▸ same_new $n; have $h : $H $p = some _ := e ▸ upd_same; clear e))
  | _ => Lean.Macro.throwUnsupported
section
variable {P : Program} {w : World} {K : PySem.W.Frag} {mg : Str → Option Value} {base : Heap}
theorem zeros_dp {H : Hp} (T : Tx K mg) : ∀ m, DpAll K H (List.replicate m (V.ref (He.ga K "ZERO"))) ((List.replicate m ((0, 1) : Int × Int)).map frD)
  | 0 => .nil
  | m + 1 => .cons (zero_at T H) (zeros_dp T m)
theorem acOk_sym {t : Tk} {texts : List Str} {ts : List Tk} {i : Nat} (h : ts[i]? = some t) : symAt ts i texts = if acOk "symbol" texts t = true then some t else none := by
  unfold symAt
  rw [h]
theorem ok_fac (T : Tx K mg) (d : Nat) (d20 : d ≤ 20) (hF : FnOk P w K mg base (L2.CX P w) (3 * d + 10) (He.ma K (He.ga K "LineParser") "factor") T.fd_LineParser_factor ["self"] (spNeg K d))
    (hX : FnOk P w K mg base (L2.CX P w) (3 * d + 12) (He.ma K (He.ga K "LineParser") "expression") T.fd_LineParser_expression ["self"] (spExpr K d)) :
    FnOk P w K mg base (L2.CX P w) (3 * d + 13) (He.ma K (He.ga K "LineParser") "factor") T.fd_LineParser_factor ["self"] (spFac K d) := by
  refine T.F_LineParser_factor.ok sc_LineParser_factor (fun vs H Q E h => ?_) (fun cdv A outer s H vs Q E hr h => ?_)
  · obtain ⟨p, S, rfl, _⟩ := h
    rfl
  obtain ⟨p, S, rfl, hS, ok, hd, hi, hN, q⟩ := h
  have tk0 : Takes (cxOf (L2.CX P w) P w K mg base N_LineParser_factor "LineParser.factor" (defScope s_LineParser_factor) (He.ma K (He.ga K "LineParser") "factor") cdv A outer s H E) (fun cls d _ H => E cls d H) := takes_of rfl rfl rfl rfl
  refine ⟨_, (pss_cons (ps_set (i := 1) sc_LineParser_factor.nd rfl (Or.inl rfl) (pe_meth0 (pv 0) T.cl_LineParser T.me_LineParser_peek (ok_LineParser_peek T) (hr.mono (by omega)) (b_LineParser_peek T) .nil pass0))
      (pss_cons (ps_set (i := 2) sc_LineParser_factor.nd rfl (Or.inl rfl) (pe_callB (call_lenQ (K := K) rfl) rfl T.z_len PySem.boot_len (pa_cons (pe_fldK (K := K) (pv 0) rfl rfl) pa_nil)))
      (pss_cons (ps_if (pt_cmpR (op_eq) (pe_fldK (K := K) (pv 1) rfl rfl) pe_str (nomark _)) (pss_cons (ps_fldaug (pv 0) pe_int in_add)
      (pss_one (ps_ret (pe_op (r := rCatS K) op_catS (pe_op (r := rRepA K) op_repA (pe_tup (pa_cons (pe_gr rfl T.g_ZERO) pa_nil)) (pv 2)) (pe_tup (pa_cons (pe_tup (pa_cons (pe_callTy call_int_str rfl T.z_int (by decide +kernel) (pa_cons (pe_fldK (K := K) (pv 1) rfl rfl) pa_nil)) (pa_cons pe_int pa_nil))) pa_nil)))))) pss_nil)
      (pss_cons (ps_if (pt_cmpR (op_eq) (pe_fldK (K := K) (pv 1) rfl rfl) pe_str (nomark _)) (pss_cons (ps_asg (pe_meth0 (pv 0) T.cl_LineParser T.me_LineParser_declared (ok_LineParser_declared T) (hr.mono (by omega)) (b_LineParser_declared T) .nil (passes_call tk0 fun _ _ _ _ h => h)) (pg_tup rfl (pgs_cons (pg_name (i := 3) sc_LineParser_factor.nd rfl (Or.inl rfl)) (pgs_cons (pg_name (i := 1) sc_LineParser_factor.nd rfl (Or.inl rfl)) pgs_nil))))
      (pss_one (ps_ret (pe_op (r := rCatS K) op_catS (pe_op (r := rCatS K) op_catS (pe_op (r := rRepA K) op_repA (pe_tup (pa_cons (pe_gr rfl T.g_ZERO) pa_nil)) (pv 3)) (pe_tup (pa_cons (pe_gr rfl T.g_ONE) pa_nil))) (pe_op (r := rRepA K) op_repA (pe_tup (pa_cons (pe_gr rfl T.g_ZERO) pa_nil)) (pe_op op_sub (pv 2) (pv 3))))))) pss_nil)
      (pss_cons (ps_if (pt_cmpR (op_notN) (pe_meth (pv 0) T.cl_LineParser T.me_LineParser_accept (ok_LineParser_accept T) (hr.mono (by omega)) (b_LineParser_accept T) .nil pass0 (pa_cons pe_str (pa_cons (pe_tup (pa_cons pe_str pa_nil)) pa_nil))) pe_non (nomark _)) (pss_cons (ps_fldaug (pv 0) pe_int in_add)
      (pss_cons (ps_if (pt_cmpR (op_gt) (pe_fldK (K := K) (pv 0) rfl rfl) (pe_gv rfl T.c_MAX_NESTING) (nomark _)) (pss_one (ps_expr (pe_meth (pv 0) T.cl_LineParser T.me_LineParser_fail (ok_LineParser_fail T) (hr.mono (by omega)) (b_LineParser_fail T) .nil (passes_call tk0 fun _ _ _ _ h => h) (pa_cons (pe_meth0 (pv 0) T.cl_LineParser T.me_LineParser_peek (ok_LineParser_peek T) (hr.mono (by omega)) (b_LineParser_peek T) .nil pass0) pa_nil)))) pss_nil)
      (pss_cons (ps_set (i := 4) sc_LineParser_factor.nd rfl (Or.inl rfl) (pe_call (ok_scale_row T) (hr.mono (by omega)) rfl T.g_scale_row T.F_scale_row.kp (b_scale_row T) .nil pass0 (pa_cons (pe_meth0 (pv 0) T.cl_LineParser T.me_LineParser_factor hF (hr.mono (by omega)) (b_LineParser_factor T) .nil (passes_call tk0 fun _ _ _ _ h => h)) (pa_cons (pe_tup (pa_cons (pe_un un_neg pe_int) (pa_cons pe_int pa_nil))) pa_nil))))
      (pss_cons (ps_fldaug (pv 0) pe_int in_sub)
      (pss_one (ps_ret (pv 4))))))) pss_nil)
      (pss_cons (ps_expr (pe_meth (pv 0) T.cl_LineParser T.me_LineParser_take (ok_LineParser_take T) (hr.mono (by omega)) (b_take2 T) .nil (passes_call tk0 fun _ _ _ _ h => h) (pa_cons pe_str (pa_cons pe_str pa_nil))))
      (pss_cons (ps_set (i := 4) sc_LineParser_factor.nd rfl (Or.inl rfl) (pe_meth0 (pv 0) T.cl_LineParser T.me_LineParser_expression hX (hr.mono (by omega)) (b_LineParser_expression T) .nil (passes_call tk0 fun _ _ _ _ h => h)))
      (pss_cons (ps_expr (pe_meth (pv 0) T.cl_LineParser T.me_LineParser_take (ok_LineParser_take T) (hr.mono (by omega)) (b_take2 T) .nil (passes_call tk0 fun _ _ _ _ h => h) (pa_cons pe_str (pa_cons pe_str pa_nil))))
      (pss_one (ps_ret (pv 4))))))))))), ?_⟩
  obtain ⟨dx, tla, hp, hts, hn⟩ := hS
  have hS : LPAt K H p S := ⟨dx, tla, hp, hts, hn⟩
  obtain ⟨t, ht⟩ : ∃ t, S.ts[S.idx]? = some t := ⟨_, List.getElem?_eq_getElem hi⟩
  have nl : S.names.length ≤ 4 := ok.names
  have tm := List.mem_of_getElem? ht
  simp only at q
  rw [facM_eq] at q
  unfold facStep at q
  rw [ht] at q
  simp only at q
  refine ⟨_, rfl, p, dx, _, rfl, hp, rfl, p, S, t, rfl, hS, ht, fun a hk0 => ?_⟩
  obtain ⟨dy, hk⟩ := id hk0
  refine ⟨_, rfl, p, _, dx, _, _, rfl, hp, T.cl_LineParser, T.na_LineParser_names, rfl, S.nm, _, rfl, .inr hN.rd, ?_⟩
  rw [List.length_map]
  refine ⟨_, rfl, a, _, dy, _, _, rfl, hk, T.cl_Token, T.na_Token_kind, rfl, rfl, _, rfl, ?_⟩
  by_cases e1 : t.kind = "number"
  · rw [if_pos e1] at q
    refine ifT (by simp [e1]) ?_
    obtain ⟨l0, k0⟩ := LPAt.put hp hts hn (S.idx + 1) S.nest
    obtain ⟨m1, m2, m3⟩ := numV_ok ok.ts tm e1
    refine ⟨_, rfl, p, _, dx, _, _, rfl, hp, T.cl_LineParser, T.na_LineParser_index, rfl, _, _, rfl, rfl, _, _, hp, (by show 5 < 1000; decide), sz 1, ?_⟩
    have hk1 := hk0.kp hS k0
    walk_at "new 1"
    refine ⟨_, rfl, p1, S.names.length, _, rfl, rfl, .of h1, by simp, by omega, by omega, by simp, fun a2 H2 s2 h2 => ?_⟩
    rw [Int.toNat_natCast, rep_one] at h2
    obtain ⟨dy2, hk2⟩ := (hk1.same s1).same s2
    refine ⟨_, rfl, a, _, dy2, _, _, rfl, hk2, T.cl_Token, T.na_Token_spelling, rfl, _, _, rfl, m1, m3, sz 2, ?_⟩
    walk_at "new 3"
    refine ⟨sz 1, ?_⟩
    walk_at "new 4"
    refine ⟨a2, p4, _, _, rfl, rfl, sameT (s3.trans s4) h2, .of h4, ?_, fun a7 H7 s7 h7 => ?_⟩
    · simp only [List.length_replicate, List.length_singleton]
      omega
    · have ss := (((s1.trans s2).trans s3).trans s4).trans s7
      refine q _ H7 (Kp.same k0 ss) (l0.same ss) (.tup h7 ?_)
      unfold numR
      rw [List.map_append]
      refine dpAll_app (zeros_dp T _) (.cons (fr_mk (f := ((numV t : Int), 1)) (sameT (s4.trans s7) (.of h3))) .nil)
  · rw [if_neg e1] at q
    refine ifF (by simp [e1]) ?_
    refine ⟨_, rfl, a, _, dy, _, _, rfl, hk, T.cl_Token, T.na_Token_kind, rfl, rfl, _, rfl, ?_⟩
    by_cases e2 : t.kind = "name"
    · rw [if_pos e2] at q
      refine ifT (by simp [e2]) ?_
      refine ⟨_, rfl, p, dx, _, rfl, hp, rfl, p, S, t, rfl, hS, ok, ht, hN, ?_⟩
      rcases q1 : declM S.names t with _ | i
      · rw [q1] at q
        exact q
      rw [q1] at q
      have hin := declM_lt q1
      intro b a2 H0 k0 l0 tk0' hb
      refine ⟨b, _, rfl, hb, rfl, _, _, rfl, _, _, rfl, rfl, ?_⟩
      refine ⟨sz 1, ?_⟩
      walk_at "new 1"
      refine ⟨_, rfl, p1, i, _, rfl, rfl, .of h1, by simp, by omega, by omega, by simp, fun a2 H2 s2 h2 => ⟨sz 1, ?_⟩⟩
      walk_at "new 3"
      have e2 := sameT s3 h2
      rw [Int.toNat_natCast, rep_one] at e2
      refine ⟨a2, p3, _, _, rfl, rfl, e2, .of h3, ?_, fun a4 H4 s4 h4 => ⟨sz 1, ?_⟩⟩
      · rw [List.length_replicate]
        show i + 1 ≤ 100000
        omega
      walk_at "new 5"
      refine ⟨_, rfl, _, rfl, _, _, rfl, rfl, p5, _, _, rfl, rfl, .of h5, by simp, by omega, by omega, by simp, fun a6 H6 s6 h6 => ?_⟩
      have ez : ((S.names.length : Int) - (i : Int)).toNat = S.names.length - i := by omega
      rw [ez, rep_one] at h6
      refine ⟨a4, a6, _, _, rfl, rfl, sameT (s5.trans s6) h4, h6, ?_, fun a7 H7 s7 h7 => ?_⟩
      · simp only [List.length_append, List.length_replicate, List.length_singleton]
        omega
      · have ss := (((((s1.trans s2).trans s3).trans s4).trans s5).trans s6).trans s7
        exact q _ H7 (Kp.same k0 ss) (l0.same ss) (.tup h7 (unit_dp T i _))
    · rw [if_neg e2] at q
      refine ifF (by simp [e2]) ?_
      refine ⟨_, rfl, p, dx, _, rfl, hp, rfl, sz 1, ?_⟩
      walk_at "new 1"
      dsimp only [tNil]
      refine accept_at (S := S) (texts := ["-"]) (i := S.idx) (hS.same s1) hi (.of h1) fun o H2 k2 o2 => ?_
      have k12 : Kp p H H2 := (Kf.of s1).trans k2
      have hN2 := hN.kp k12 hS.ins
      rcases o2 with ⟨rfl, n2, l2⟩ | ⟨a2, t', rfl, n2, tk2, l2⟩
      · rw [acOk_sym ht] at n2
        by_cases e3 : acOk "symbol" ["-"] t = true
        · rw [if_pos e3] at n2; cases n2
        rw [if_neg e3] at q
        refine ⟨rfl, _, rfl, ifF rfl ?_⟩
        obtain ⟨dx2, tla2, hp2, _⟩ := id l2
        refine ⟨_, rfl, p, dx2, _, rfl, hp2, rfl, p, _, t, "symbol", some "(", rfl, l2, ok.eq rfl rfl rfl, ht, ?_⟩
        by_cases e4 : tkOk "symbol" (some "(") t = true
        · rw [if_pos e4] at q
          rw [if_pos e4]
          have hi1 := tk_in ok.ts ht e4 (by decide +kernel)
          intro b H3 k3 l3 _
          have k13 : Kp p H H3 := k12.trans k3
          obtain ⟨dx3, tla3, hp3, _⟩ := id l3
          refine ⟨_, rfl, p, dx3, _, rfl, hp3, rfl, p, _, rfl, l3, ok.eq rfl rfl rfl, hd, hi1, hN.kp k13 hS.ins, ?_⟩
          simp only
          rcases q5 : exprM S.names S.ts d (S.idx + 1) with c | rj
          · rw [q5] at q
            exact BadP.kp q k13
          obtain ⟨r, j⟩ := rj
          rw [q5] at q
          simp only at q
          obtain ⟨f1, f2, f3⟩ := exprM_g ok.ts S.names d _ _ _ q5
          intro v H4 k4 l4 d4
          obtain ⟨u, hu⟩ : ∃ u, S.ts[j]? = some u := ⟨_, List.getElem?_eq_getElem f2⟩
          rw [hu] at q
          simp only at q
          obtain ⟨dx4, tla4, hp4, _⟩ := id l4
          have k14 : Kp p H H4 := k13.trans k4
          refine ⟨_, rfl, p, dx4, _, rfl, hp4, rfl, p, _, u, "symbol", some ")", rfl, l4, ok.eq rfl rfl rfl, hu, ?_⟩
          by_cases e5 : tkOk "symbol" (some ")") u = true
          · rw [if_pos e5] at q
            rw [if_pos e5]
            intro b2 H5 k5 l5 _
            exact ⟨_, rfl, q v H5 (k14.trans k5) l5 (rowK k5 l4.ins d4)⟩
          · rw [if_neg e5] at q
            rw [if_neg e5]
            exact BadP.kp q k14
        · rw [if_neg e4] at q
          rw [if_neg e4]
          exact BadP.kp q k12
      · have n2' := n2
        rw [acOk_sym ht] at n2
        by_cases e3 : acOk "symbol" ["-"] t = true
        case neg => rw [if_neg e3] at n2; cases n2
        obtain ⟨_, _, hi1⟩ := sym_in ok.ts n2'
        rw [if_pos e3] at q
        refine ⟨rfl, _, rfl, ifT rfl ?_⟩
        obtain ⟨dx2, tla2, hp2, ht2, hn2⟩ := id l2
        obtain ⟨l3, k3⟩ := LPAt.put hp2 ht2 hn2 (S.idx + 1) (S.nest + 1)
        have hN3 := hN2.kp k3 l2.ins
        have k13 : Kp p H _ := k12.trans k3
        obtain ⟨dx3, tla3, hp3, _⟩ := id l3
        refine ⟨_, rfl, p, _, dx2, _, _, rfl, hp2, T.cl_LineParser, T.na_LineParser_nesting, rfl, _, _, rfl, rfl, _, _, hp2, (by show 5 < 1000; decide), ?_⟩
        refine ⟨_, rfl, p, _, dx3, _, _, rfl, hp3, T.cl_LineParser, T.na_LineParser_nesting, rfl, _, _, rfl, rfl, _, rfl, ?_⟩
        cases d with
        | zero =>
          obtain ⟨u, hu⟩ : ∃ u, S.ts[S.idx + 1]? = some u := ⟨_, List.getElem?_eq_getElem hi1⟩
          have qe : colAt S.ts (S.idx + 1) = u.col := by unfold colAt; rw [hu]
          refine ifT (by simp; omega) ?_
          refine ⟨_, rfl, p, dx3, _, rfl, hp3, rfl, _, rfl, p, dx3, _, rfl, hp3, rfl, p, _, u, rfl, l3, hu, fun a tk => ?_⟩
          refine ⟨p, a, _, u, rfl, l3, ok.eq rfl rfl rfl, tk, ok.ts.col u (List.mem_of_getElem? hu), ?_⟩
          rw [← qe]
          exact BadP.kp q k13
        | succ d =>
        refine ifF (by simp; omega) ?_
        have hd1 : S.nest + 1 = 20 - d := by omega
        refine ⟨_, rfl, p, dx3, _, rfl, hp3, rfl, p, _, rfl, l3, ok.eq rfl rfl rfl, hd1, hi1, hN3, ?_⟩
        have q : match (match facM S.names S.ts d (S.idx + 1) with
          | .ok (r, j) => (Except.ok (scaleM r (-1, 1), j) : Res)
          | .error c => .error c) with
          | .ok (r, j) => ∀ v H', Kp p H H' → LPAt K H' p { S with idx := j } → Dp K H' v (rowD r) → Q v H'
          | .error c => BadP K p H E S.num c := q
        simp only
        rcases q5 : facM S.names S.ts d (S.idx + 1) with c | rj
        · rw [q5] at q
          exact BadP.kp q k13
        obtain ⟨r, j⟩ := rj
        rw [q5] at q
        simp only at q
        obtain ⟨f1, f2, f3⟩ := facM_g ok.ts S.names d _ _ _ q5
        have l151 := ok.ts.len
        intro y H4 k4 l4 d4
        refine ⟨_, rfl, sz 2, ?_⟩
        walk_at "new 5"
        refine ⟨y, .ref p5, r, (-1, 1), rfl, rowS s5 d4, fr_mk (.of h5), f3.ok.mono (by omega), neg_ok.mono (by decide), by rw [f3.len]; omega, fun v H6 s6 d6 => ?_⟩
        have l6 := (l4.same s5).same s6
        obtain ⟨dx6, tla6, hp6, ht6, hn6⟩ := id l6
        obtain ⟨l9, k9⟩ := LPAt.put hp6 ht6 hn6 j S.nest
        refine ⟨_, rfl, p, _, dx6, _, _, rfl, hp6, T.cl_LineParser, T.na_LineParser_nesting, rfl, ((S.nest + 1 : Nat) : Int), 1, rfl, rfl, _, _, hp6, (by show 5 < 1000; decide), _, rfl, ?_⟩
        rw [show (((S.nest + 1 : Nat) : Int) - 1) = (S.nest : Int) by omega]
        exact q v _ ((Kp.same (k13.trans k4) (s5.trans s6)).trans k9) l9 (rowK k9 l6.ins d6)
/-! ### all depths -/
theorem ok_never_fac (T : Tx K mg) (k : Nat) : FnOk P w K mg base (L2.CX P w) (k + 1) (He.ma K (He.ga K "LineParser") "factor") T.fd_LineParser_factor ["self"] spNever :=
  T.F_LineParser_factor.ok sc_LineParser_factor (fun _ _ _ _ h => h.elim) (fun _ _ _ _ _ _ _ _ _ h => h.elim)
theorem ok_never_term (T : Tx K mg) (k : Nat) : FnOk P w K mg base (L2.CX P w) (k + 1) (He.ma K (He.ga K "LineParser") "term") T.fd_LineParser_term ["self"] spNever :=
  T.F_LineParser_term.ok sc_LineParser_term (fun _ _ _ _ h => h.elim) (fun _ _ _ _ _ _ _ _ _ h => h.elim)
theorem ok_depth (T : Tx K mg) : ∀ d, d ≤ 20 → FnOk P w K mg base (L2.CX P w) (3 * d + 12) (He.ma K (He.ga K "LineParser") "expression") T.fd_LineParser_expression ["self"] (spExpr K d) ∧
    FnOk P w K mg base (L2.CX P w) (3 * d + 13) (He.ma K (He.ga K "LineParser") "factor") T.fd_LineParser_factor ["self"] (spFac K d)
  | 0, h => by
    have x := ok_expr (P := P) (w := w) (base := base) T 0 h (ok_never_term T 10)
    exact ⟨x, ok_fac T 0 h (ok_never_fac T 9) x⟩
  | d + 1, h => by
    obtain ⟨_, f⟩ := ok_depth T d (by omega)
    have x := ok_expr T (d + 1) h (ok_term T d f)
    exact ⟨x, ok_fac T (d + 1) h f x⟩
theorem ok_LineParser_expression (T : Tx K mg) : FnOk P w K mg base (L2.CX P w) 72 (He.ma K (He.ga K "LineParser") "expression") T.fd_LineParser_expression ["self"] (spExpr K 20) := (ok_depth T 20 (Nat.le_refl _)).1
end
end Kw

set_option Elab.async false
set_option linter.all false
set_option maxRecDepth 100000
set_option maxHeartbeats 4000000
namespace Kw
open PySem PySem.Spec PyProof.Rows L2
local macro_rules | `(tactic| walk_at $s:str) => do
  match s.getString.splitOn " " with
  | ["new", a] =>
    let p := Lean.mkIdent (Lean.Name.mkSimple ("p" ++ a))
    let n := Lean.mkIdent (Lean.Name.mkSimple ("n" ++ a))
    let H := Lean.mkIdent (Lean.Name.mkSimple ("H" ++ a))
    let s := Lean.mkIdent (Lean.Name.mkSimple ("s" ++ a))
    let h := Lean.mkIdent (Lean.Name.mkSimple ("h" ++ a))
    `(tactic| (intro $p $n; generalize e : upd _ $p _ = $H; have $s : Same _ $H := e ▸ same_new $n; have $h : $H $p = some _ := e ▸ upd_same; clear e))
  | _ => Lean.Macro.throwUnsupported
/-! ### what tokens are -/
theorem digitsVal_lt : ∀ (cs : List Nat) (a : Nat), NumText.AllDigits cs → cs.foldl (fun acc c => acc * 10 + (c - 48)) a < (a + 1) * 10 ^ cs.length
  | [], a, _ => by simp
  | c :: cs, a, h => by
    have h1 := digitsVal_lt cs (a * 10 + (c - 48)) h.tail
    have h2 := h.head
    rw [List.foldl_cons, List.length_cons, Nat.pow_succ]
    refine Nat.lt_of_lt_of_le h1 ?_
    have h3 : a * 10 + (c - 48) + 1 ≤ (a + 1) * 10 := by omega
    calc (a * 10 + (c - 48) + 1) * 10 ^ cs.length ≤ ((a + 1) * 10) * 10 ^ cs.length := Nat.mul_le_mul_right _ h3
      _ = (a + 1) * (10 ^ cs.length * 10) := by rw [Nat.mul_assoc, Nat.mul_comm 10]
theorem dig_in {c : Nat} (h : inS sDig c = true) : 48 ≤ c ∧ c ≤ 57 := by
  unfold inS at h
  have h := of_decide_eq_true h
  have e : sDig.cps.toList = [48, 49, 50, 51, 52, 53, 54, 55, 56, 57] := by decide +kernel
  rw [e] at h
  simp at h
  omega
theorem run_all (z : Str) : ∀ (r : List Nat), ∀ c ∈ run z r, inS z c = true
  | [], c, hc => by cases hc
  | a :: r, c, hc => by
    by_cases h : inS z a = true
    · rw [run_yes h] at hc
      rcases List.mem_cons.mp hc with rfl | hc
      · exact h
      · exact run_all z r c hc
    · rw [run_no (by simpa using h)] at hc
      cases hc
/-- what a token's kind tells -/
theorem tok1_kind {r : List Nat} {k t : Str} (h : tok1 r = some (k, t)) :
    (k = "word" ∧ t ∈ sKeys) ∨ (k = "name" ∧ t ∉ sKeys ∧ t.length ≤ 8) ∨ (k = "number" ∧ NumText.AllDigits (tl t) ∧ tl t ≠ [] ∧ t.length ≤ 6) ∨ (k = "symbol" ∧ t ∈ sSyms) := by
  have tlen := tok1_len h
  cases r with
  | nil => cases h
  | cons c r =>
  have h : tokC c (c :: r) = some (k, t) := h
  unfold tokC at h
  by_cases a : inS sSmall c = true
  · rw [if_pos a] at h
    by_cases b : mk (run sAl (c :: r)) ∈ sKeys
    · rw [if_pos (decide_eq_true b)] at h
      obtain ⟨rfl, rfl⟩ := Prod.mk.inj (Option.some.inj h)
      exact .inl ⟨rfl, b⟩
    · rw [if_neg (by rw [decide_eq_false b]; exact Bool.false_ne_true)] at h
      by_cases d : 8 < (run sAl (c :: r)).length
      · rw [if_pos d] at h; cases h
      · rw [if_neg d] at h
        obtain ⟨rfl, rfl⟩ := Prod.mk.inj (Option.some.inj h)
        exact .inr (.inl ⟨rfl, b, Nat.le_of_not_lt d⟩)
  · rw [if_neg a] at h
    by_cases b : inS sDig c = true
    · rw [if_pos b] at h
      by_cases d : 6 < (run sDig (c :: r)).length ∨ (1 < (run sDig (c :: r)).length ∧ c = 48)
      · rw [if_pos d] at h; cases h
      · rw [if_neg d] at h
        obtain ⟨rfl, rfl⟩ := Prod.mk.inj (Option.some.inj h)
        refine .inr (.inr (.inl ⟨rfl, fun x hx => ?_, ?_, ?_⟩))
        · exact dig_in (run_all sDig (c :: r) x hx)
        · show run sDig (c :: r) ≠ []
          rw [run_yes b]
          exact List.cons_ne_nil _ _
        · show (run sDig (c :: r)).length ≤ 6
          omega
    · rw [if_neg b] at h
      cases q : sSyms.find? fun s => decide (mk ((c :: r).take s.length) = s) with
      | none => rw [q] at h; cases h
      | some s =>
        rw [q] at h
        obtain ⟨rfl, rfl⟩ := Prod.mk.inj (Option.some.inj h)
        exact .inr (.inr (.inr ⟨rfl, List.mem_of_find?_eq_some q⟩))
/-- a token of a line -/
structure TkOf (z : List Nat) (t : Tk) : Prop where
  lo : 0 < t.col
  hi : t.col ≤ z.length
  at_ : tok1 (z.drop (t.col - 1)) = some (t.kind, t.text)
theorem lexGo_of {z : List Nat} : ∀ (n i : Nat) (ts out : List Tk), (∀ t ∈ ts, TkOf z t) → ts.length ≤ 150 → lexGo z n i ts = .ok out → (∀ t ∈ out, TkOf z t) ∧ out.length ≤ 150
  | 0, _, ts, out, h, l, e => by cases e; exact ⟨h, l⟩
  | n + 1, i, ts, out, h, l, e => by
    unfold lexGo at e
    cases q : z.drop i with
    | nil => rw [q] at e; cases e; exact ⟨h, l⟩
    | cons c r =>
      rw [q] at e
      simp only at e
      by_cases c32 : c = 32
      · rw [if_pos c32] at e
        exact lexGo_of n _ ts out h l e
      · rw [if_neg c32] at e
        cases q2 : tok1 (c :: r) with
        | none => rw [q2] at e; cases e
        | some kt =>
          obtain ⟨k, t⟩ := kt
          rw [q2] at e
          simp only at e
          by_cases f : ts.length = 150
          · rw [if_pos f] at e; cases e
          · rw [if_neg f] at e
            have hi : i < z.length := by
              have : (z.drop i).length = (c :: r).length := by rw [q]
              rw [List.length_drop, List.length_cons] at this
              omega
            refine lexGo_of n _ _ out (fun x hx => ?_) (by rw [List.length_append, List.length_singleton]; omega) e
            rcases List.mem_append.mp hx with hx | hx
            · exact h x hx
            · rw [List.mem_singleton.mp hx]
              exact ⟨Nat.succ_pos _, hi, by show tok1 (z.drop (i + 1 - 1)) = _; rw [Nat.add_sub_cancel, q]; exact q2⟩
theorem lexM_of {z : Str} {ts : List Tk} (e : lexM z = .ok ts) : (∀ t ∈ ts, TkOf (tl z) t) ∧ ts.length ≤ 150 := lexGo_of _ _ _ _ (fun t h => by cases h) (Nat.zero_le _) e
theorem lexM_ok {z : Str} {ts : List Tk} (hz : (tl z).length ≤ 100000) (e : lexM z = .ok ts) : TsOk (ts ++ [endTk z]) := by
  obtain ⟨h, l⟩ := lexM_of e
  refine ⟨by simp, fun t m => ?_, fun t m k => ?_, fun i t q k => ?_, by simp; omega⟩
  · rcases List.mem_append.mp m with m | m
    · have := (h t m).hi
      omega
    · rw [List.mem_singleton.mp m]
      show (tl z).length + 1 < 1000000
      omega
  · rcases List.mem_append.mp m with m | m
    · rcases tok1_kind (h t m).at_ with ⟨e, _⟩ | ⟨e, _⟩ | ⟨e, h1, h2, h3⟩ | ⟨e, _⟩
      · rw [k] at e; exact absurd e (by decide +kernel)
      · rw [k] at e; exact absurd e (by decide +kernel)
      · have g := intText_digits (x := t.text) h1 h2 (by omega)
        refine ⟨_, g, ?_, by omega⟩
        have b := digitsVal_lt _ 0 h1
        have l6 : (tl t.text).length ≤ 6 := h3
        refine Nat.lt_of_lt_of_le b ?_
        rw [Nat.zero_add, Nat.one_mul]
        exact Nat.pow_le_pow_right (n := 10) (by decide) l6
      · rw [k] at e; exact absurd e (by decide +kernel)
    · rw [List.mem_singleton.mp m] at k
      exact absurd k (by show ¬ (("end of line" : Str) = "number"); decide +kernel)
  · have hl := (List.getElem?_eq_some_iff.mp q).1
    by_cases c : i < ts.length
    · rw [List.length_append, List.length_singleton]
      omega
    · rw [List.length_append, List.length_singleton] at hl
      have ei : i = ts.length := by omega
      subst ei
      rw [List.getElem?_append_right (Nat.le_refl _), Nat.sub_self] at q
      rw [← Option.some.inj q] at k
      exact absurd rfl k
/-! ### the line's parser, made -/
theorem Bad.kp {K : PySem.W.Frag} {p : Addr} {H H1 : Hp} {E : XK} {l c : Nat} (b : BadP K p H E l c) (k : Kp p H H1) : Bad K H1 E l c := fun d H' s _ e => b d H' (k.trans (Kf.of s)) e
def spLPInit (K : PySem.W.Frag) : Sp := fun vs H Q E => ∃ (p dx nm : Addr) (z : Str) (num : Nat) (names : List Str), vs = [.ref p, .str z, .int num, .ref nm] ∧ H p = some (.ins (He.ga K "LineParser") dx []) ∧ NmAt K H nm names ∧ num < 1000000 ∧ (tl z).length ≤ 100000 ∧
  (match lexM z with
    | .error c => BadP K p H E num c
    | .ok ts => ∀ tla H', H tla = none → Kp p H H' → LPAt K H' p ⟨num, nm, names, ts ++ [endTk z], 0, 0, tla⟩ → Q .non H')
section
variable {P : Program} {w : World} {K : PySem.W.Frag} {mg : Str → Option Value} {base : Heap}
abbrev N_LineParser_init : List Str := ["self", "line", "number", "names"]
theorem sc_LineParser_init : FnScope N_LineParser_init ["self", "line", "number", "names"] (defScope s_LineParser_init) := ⟨rfl, rfl, rfl, by decide +kernel, rfl, by decide +kernel, by decide +kernel⟩
theorem b_LineParser_init (T : Tx K mg) : Binds K T.fd_LineParser_init ["self", "line", "number", "names"] [] := T.F_LineParser_init.bindsN fun _ _ _ _ _ _ us hl => match us, hl with | [_, _, _, _], _ => rfl
theorem ok_LineParser_init (T : Tx K mg) : FnOk P w K mg base (L2.CX P w) 6 (He.ma K (He.ga K "LineParser") "__init__") T.fd_LineParser_init ["self", "line", "number", "names"] (spLPInit K) := by
  refine T.F_LineParser_init.ok sc_LineParser_init (fun vs H Q E h => ?_) (fun cdv A outer s H vs Q E hr h => ?_)
  · obtain ⟨p, dx, nm, z, num, names, rfl, _⟩ := h
    rfl
  obtain ⟨p, dx, nm, z, num, names, rfl, hp, hn, hnum, hz, q⟩ := h
  have tk0 : Takes (cxOf (L2.CX P w) P w K mg base N_LineParser_init "LineParser.__init__" (defScope s_LineParser_init) (He.ma K (He.ga K "LineParser") "__init__") cdv A outer s H E) (fun cls d _ H => E cls d H) := takes_of rfl rfl rfl rfl
  refine ⟨_, (pss_cons (ps_fld (pv 0) (pv 2) rfl)
      (pss_cons (ps_fld (pv 0) (pv 3) rfl)
      (pss_cons (ps_fld (pv 0) (pe_call (ok_tokens_of T) (hr.mono (by decide)) rfl T.g_tokens_of T.F_tokens_of.kp (b_tokens_of T) .nil (passes_call tk0 fun _ _ _ _ h => h) (pa_cons (pv 1) (pa_cons (pv 2) pa_nil))) rfl)
      (pss_cons (ps_fld (pv 0) pe_int rfl)
      (pss_one (ps_fld (pv 0) pe_int rfl)))))), ?_⟩
  refine ⟨_, rfl, _, rfl, p, _, dx, _, rfl, hp, T.cl_LineParser, T.na_LineParser_number, (by decide), ?_⟩
  refine ⟨_, rfl, _, rfl, p, _, dx, _, rfl, upd_same, T.cl_LineParser, T.na_LineParser_names, (by show 1 < 1000; decide), ?_⟩
  rw [upd_upd]
  have k0 : Kp p H (upd H p (.ins (He.ga K "LineParser") dx (putF "names" (.ref nm) (putF "number" (.int num) [])))) := Kf.upd rfl
  have i0 : Ins H p := ⟨_, dx, _, hp⟩
  have h0 : upd H p (.ins (He.ga K "LineParser") dx (putF "names" (.ref nm) (putF "number" (.int num) []))) p = some (.ins (He.ga K "LineParser") dx [("number", .int num), ("names", .ref nm)]) := upd_same
  generalize upd H p (.ins (He.ga K "LineParser") dx (putF "names" (.ref nm) (putF "number" (.int num) []))) = H0 at k0 h0
  refine ⟨_, rfl, _, rfl, z, num, rfl, hz, hnum, ?_⟩
  rcases e : lexM z with c | ts
  · rw [e] at q
    exact Bad.kp q k0
  rw [e] at q
  intro tla H1 s1 nt ht
  have ntH : H tla = none := by
    cases e9 : H tla with
    | none => rfl
    | some o =>
      by_cases c : tla = p
      · rw [c, h0] at nt; cases nt
      · have := k0 _ _ c e9
        rw [nt] at this; cases this
  have h1 := s1 _ _ h0
  have n1 : NmAt K H1 nm names := (hn.kp i0 k0).imp s1.seq (sameT s1)
  refine ⟨_, rfl, p, _, dx, _, rfl, h1, T.cl_LineParser, T.na_LineParser_tokens, (by show 2 < 1000; decide), ?_⟩
  refine ⟨_, rfl, p, _, dx, _, rfl, upd_same, T.cl_LineParser, T.na_LineParser_index, (by show 3 < 1000; decide), ?_⟩
  refine ⟨_, rfl, p, _, dx, _, rfl, upd_same, T.cl_LineParser, T.na_LineParser_nesting, (by show 4 < 1000; decide), ?_⟩
  rw [upd_upd, upd_upd]
  have k1 : Kp p H1 (upd H1 p (.ins (He.ga K "LineParser") dx (lpF num nm tla 0 0))) := Kf.upd rfl
  have i1 : Ins H1 p := ⟨_, dx, _, h1⟩
  refine q tla _ ntH ((Kp.same k0 s1).trans k1) ⟨dx, tla, upd_same, ?_, n1.kp i1 k1, rfl⟩
  obtain ⟨as, e1, el, f⟩ := ht
  refine ⟨as, kp_lst k1 i1 e1, el, fun i b t q1 q2 => ?_⟩
  obtain ⟨dy, e2⟩ := f i b t q1 q2
  refine ⟨dy, k1 _ _ ?_ e2⟩
  rintro rfl
  rw [h1] at e2
  have z1 := (HO.ins.inj (Option.some.inj e2)).2.2
  exact kind_num (Prod.mk.inj (List.cons.inj z1).1).1.symm
/-- a new parser of a line -/
theorem make_lp {H : Hp} {E : XK} {nm : Addr} {z : Str} {num : Nat} {names : List Str} {G : Addr → Hp → Prop} (hn : NmAt K H nm names) (hnum : num < 1000000) (hz : (tl z).length ≤ 100000)
    (q : match lexM z with
      | .error c => ∀ d H', Same H H' → H' d = some (.xd (synF num c)) → E (.ref (cSyn K)) (some d) H'
      | .ok ts => ∀ a tla H', Same H H' → H a = none → H tla = none → LPAt K H' a ⟨num, nm, names, ts ++ [endTk z], 0, 0, tla⟩ → G a H') :
    ∀ x dx, H x = none → H dx = none → dx ≠ x → spLPInit K (.ref x :: ([.str z, .int num, .ref nm] ++ [])) (upd (upd H dx (.own x)) x (.ins (He.ga K "LineParser") dx [])) (fun v H2 => v = .non ∧ G x H2) E := by
  intro x dx nx ndx ne
  have sm : ∀ H', Kp x (upd (upd H dx (.own x)) x (.ins (He.ga K "LineParser") dx [])) H' → Same H H' := fun H' k b o z => by
    have h1 : b ≠ x := ne_of_none z nx
    exact k b o h1 (by rw [upd_ne h1, upd_ne (ne_of_none z ndx)]; exact z)
  refine ⟨x, dx, nm, z, num, names, rfl, upd_same, ?_, hnum, hz, ?_⟩
  · have s0 : Same H (upd (upd H dx (.own x)) x (.ins (He.ga K "LineParser") dx [])) := fun b o z => by
      rw [upd_ne (ne_of_none z nx), upd_ne (ne_of_none z ndx)]
      exact z
    exact hn.imp s0.seq (sameT s0)
  · rcases e : lexM z with c | ts
    · rw [e] at q
      exact fun d H' k f => q d H' (sm H' k) f
    · rw [e] at q
      refine fun tla H' nt k l => ⟨rfl, q x tla H' (sm H' k) nx ?_ l⟩
      cases e9 : H tla with
      | none => rfl
      | some o =>
        rw [upd_ne (ne_of_none e9 nx), upd_ne (ne_of_none e9 ndx), e9] at nt
        cases nt
end
end Kw

set_option Elab.async false
set_option linter.all false
set_option maxRecDepth 100000
set_option maxHeartbeats 4000000
namespace Kw
open PySem PySem.Spec PyProof.Rows L2
local macro_rules | `(tactic| walk_at $s:str) => do
  match s.getString.splitOn " " with
  | ["new", a] =>
    let p := Lean.mkIdent (Lean.Name.mkSimple ("p" ++ a))
    let n := Lean.mkIdent (Lean.Name.mkSimple ("n" ++ a))
    let H := Lean.mkIdent (Lean.Name.mkSimple ("H" ++ a))
    let s := Lean.mkIdent (Lean.Name.mkSimple ("s" ++ a))
    let h := Lean.mkIdent (Lean.Name.mkSimple ("h" ++ a))
    `(tactic| (intro $p $n; generalize e : upd _ $p _ = $H; have $s : Same _ $H := e ▸ same_new $n; have $h : $H $p = some _ := e ▸ upd_same; clear e))
  | _ => Lean.Macro.throwUnsupported
/-! ### assignments: the mirror -/
def takeM (ts : List Tk) (k : Str) (tx : Option Str) (i : Nat) : Except Nat Nat := match ts[i]? with
  | none => .error 0
  | some t => if tkOk k tx t = true then .ok (i + 1) else .error t.col
def placesM (names : List Str) (ts : List Tk) : Nat → List Nat → Nat → Except Nat (List Nat × Nat)
  | 0, _, _ => .error 0
  | f + 1, acc, i => match ts[i]? with
    | none => .error 0
    | some t => match declM names t with
      | none => .error t.col
      | some pl => if pl ∈ acc then .error t.col else match symAt ts (i + 1) [","] with
        | none => .ok (acc ++ [pl], i + 1)
        | some _ => placesM names ts f (acc ++ [pl]) (i + 2)
def rowsM (names : List Str) (ts : List Tk) : List Nat → Nat → List Row → Nat → Except Nat (List Row × Nat)
  | [], _, rows, i => .ok (rows, i)
  | pl :: ps, c, rows, i => match (if c = 0 then .ok i else takeM ts "symbol" (some ",") i : Except Nat Nat) with
    | .error e => .error e
    | .ok j => match exprM names ts 20 j with
      | .error e => .error e
      | .ok (r, k) => if isShortM r = true then rowsM names ts ps (c + 1) (rows.set pl r) k else .error (colAt ts j)
def unitsM (n : Nat) : List Row := (List.range n).map fun p => unitM p n
def assignM (names : List Str) (ts : List Tk) : Except Nat (List Row) := match placesM names ts (ts.length + 1) [] 0 with
  | .error c => .error c
  | .ok (pls, i) => match takeM ts "symbol" (some ":=") i with
    | .error c => .error c
    | .ok j => match rowsM names ts pls 0 (unitsM names.length) j with
      | .error c => .error c
      | .ok (rows, k) => match takeM ts "end of line" none k with
        | .error c => .error c
        | .ok _ => .ok rows
/-- the statement of an assignment -/
def asgD (rows : List Row) : PyData := .tuple [.str "assign", .tuple (rows.map rowD)]
def spAssign (K : PySem.W.Frag) : Sp := fun vs H Q E => ∃ (p : Addr) (S : LS), vs = [.ref p] ∧ LPAt K H p S ∧ LsOk S ∧ S.nest = 0 ∧ S.idx = 0 ∧ NmT H S.nm (S.names.map V.str) ∧
  (match assignM S.names S.ts with
    | .ok rows => ∀ v H', Kp p H H' → Dp K H' v (asgD rows) → Q v H'
    | .error c => BadP K p H E S.num c)
def natL (l : List Nat) : List V := l.map (fun (n : Nat) => V.int (n : Int))
theorem inV_natL (x : Nat) : ∀ l : List Nat, inV (.int x) (natL l) = decide (x ∈ l)
  | [] => rfl
  | a :: l => by
    have ih : (natL l).any (fun y => eqV y (.int x)) = decide (x ∈ l) := inV_natL x l
    show (eqV (.int (a : Int)) (.int x) || (natL l).any fun y => eqV y (.int x)) = _
    rw [ih]
    have e : eqV (.int (a : Int)) (.int x) = decide (x = a) := by
      show decide _ = _ <;> (rw [Bool.eq_iff_iff]; simp; omega)
    rw [e, Bool.eq_iff_iff]
    simp
theorem flat_natL : ∀ l : List Nat, (natL l).all flatV = true
  | [] => rfl
  | _ :: l => flat_natL l
/-- another list is stored anew -/
theorem LPAt.lst {K : PySem.W.Frag} {H : Hp} {p a : Addr} {S : LS} {xs ys : List V} (l : LPAt K H p S) (hN : NmT H S.nm (S.names.map V.str)) (h : H a = some (.lst xs)) (ne : a ≠ S.tla) : LPAt K (upd H a (.lst ys)) p S ∧ NmT (upd H a (.lst ys)) S.nm (S.names.map V.str) := by
  obtain ⟨dx, tla, e, ⟨as, e1, e2, e3⟩, _, et⟩ := l
  have hN' : NmT (upd H a (.lst ys)) S.nm (S.names.map V.str) := by
    obtain ⟨o, q, r⟩ := hN
    exact ⟨o, by rw [upd_ne (ne_of q h (by intro z; cases z))]; exact q, r⟩
  refine ⟨⟨dx, tla, by rw [upd_ne (ne_of e h (by intro z; cases z))]; exact e, ⟨as, ?_, e2, fun i b t q1 q2 => ?_⟩, .inr hN'.rd, et⟩, hN'⟩
  · rw [upd_ne (by rw [et]; exact fun z => ne z.symm)]
    exact e1
  · obtain ⟨dy, q⟩ := e3 i b t q1 q2
    exact ⟨dy, by rw [upd_ne (ne_of q h (by intro z; cases z))]; exact q⟩
theorem TkAt.lst {K : PySem.W.Frag} {H : Hp} {b a : Addr} {t : Tk} {xs ys : List V} (k : TkAt K H b t) (h : H a = some (.lst xs)) : TkAt K (upd H a (.lst ys)) b t := by
  obtain ⟨dy, q⟩ := k
  exact ⟨dy, by rw [upd_ne (ne_of q h (by intro z; cases z))]; exact q⟩
theorem kp_new {p a : Addr} {H H' : Hp} {o : HO} (k : Kp p H H') (n : H a = none) : Kp p H (upd H' a o) := fun b u h e => by
  rw [upd_ne (ne_of_none e n)]
  exact k b u h e
theorem placesM_lt {names : List Str} {ts : List Tk} : ∀ (f : Nat) (acc : List Nat) (i : Nat) (pls : List Nat) (j : Nat), (∀ x ∈ acc, x < names.length) → acc.length ≤ i → placesM names ts f acc i = .ok (pls, j) → (∀ x ∈ pls, x < names.length) ∧ pls.length ≤ j
  | 0, _, _, _, _, _, _, e => by cases e
  | f + 1, acc, i, pls, j, h, l, e => by
    unfold placesM at e
    cases q1 : ts[i]? with
    | none => rw [q1] at e; cases e
    | some t =>
      rw [q1] at e
      simp only at e
      cases q2 : declM names t with
      | none => rw [q2] at e; cases e
      | some pl =>
        rw [q2] at e
        simp only at e
        have h' : ∀ x ∈ acc ++ [pl], x < names.length := fun x hx => by
          rcases List.mem_append.mp hx with hx | hx
          · exact h x hx
          · rw [List.mem_singleton.mp hx]; exact declM_lt q2
        by_cases c : pl ∈ acc
        · rw [if_pos c] at e; cases e
        · rw [if_neg c] at e
          cases q3 : symAt ts (i + 1) [","] with
          | none =>
            rw [q3] at e
            cases e
            exact ⟨h', by rw [List.length_append, List.length_singleton]; omega⟩
          | some u =>
            rw [q3] at e
            exact placesM_lt f _ _ _ _ h' (by rw [List.length_append, List.length_singleton]; omega) e
theorem takeM_eq {ts : List Tk} {k : Str} {tx : Option Str} {i : Nat} {t : Tk} (h : ts[i]? = some t) : takeM ts k tx i = if tkOk k tx t = true then .ok (i + 1) else .error t.col := by
  unfold takeM
  rw [h]
theorem none_back {p D : Addr} {H H' : Hp} (k : Kp p H H') (i : Ins H' p) (n : H' D = none) : H D = none := by
  cases e : H D with
  | none => rfl
  | some o =>
    by_cases c : D = p
    · obtain ⟨C, dx, fs, e2⟩ := i
      rw [c, e2] at n; cases n
    · have := k _ _ c e
      rw [n] at this; cases this
theorem dpRows {K : PySem.W.Frag} {H H' : Hp} {vs : List V} {rows : List Row} (s : SameT H H') (h : DpAll K H vs (rows.map rowD)) : DpAll K H' vs (rows.map rowD) := dp_monoAll s _ _ (by
  induction rows generalizing vs with
  | nil => rfl
  | cons r rows ih =>
    cases h with
    | cons h1 h2 =>
      show (tupled (rowD r) && tupled.go (rows.map rowD)) = true
      rw [rowD_tup, ih h2] <;> rfl) h
theorem dpRows_set {K : PySem.W.Frag} {H : Hp} {v : V} {r : Row} (h1 : Dp K H v (rowD r)) : ∀ {vs : List V} {rows : List Row} (i : Nat), DpAll K H vs (rows.map rowD) → DpAll K H (vs.set i v) ((rows.set i r).map rowD)
  | [], [], _, h => h
  | x :: vs, [], _, h => by cases h
  | [], q :: rows, _, h => by cases h
  | x :: vs, q :: rows, 0, .cons _ h => .cons h1 h
  | x :: vs, q :: rows, i + 1, .cons a h => .cons a (dpRows_set h1 i h)
theorem natL_get {l : List Nat} {c : Nat} {y : V} (h : (natL l)[c]? = some y) : ∃ n, l[c]? = some n ∧ y = .int (n : Int) := map_get h
section
variable {P : Program} {w : World} {K : PySem.W.Frag} {mg : Str → Option Value} {base : Heap}
abbrev N_LineParser_assignment : List Str := ["self", "places", "more", "place", "token", "rows", "count"]
theorem sc_LineParser_assignment : FnScope N_LineParser_assignment ["self"] (defScope s_LineParser_assignment) := ⟨rfl, rfl, rfl, by decide +kernel, rfl, by decide +kernel, by decide +kernel⟩
theorem b_LineParser_assignment (T : Tx K mg) : Binds K T.fd_LineParser_assignment ["self"] [] := T.F_LineParser_assignment.bindsN fun _ _ _ _ _ _ us hl => match us, hl with | [_], _ => rfl
theorem ok_LineParser_assignment (T : Tx K mg) : FnOk P w K mg base (L2.CX P w) 74 (He.ma K (He.ga K "LineParser") "assignment") T.fd_LineParser_assignment ["self"] (spAssign K) := by
  refine T.F_LineParser_assignment.ok sc_LineParser_assignment (fun vs H Q E h => ?_) (fun cdv A outer s H vs Q E hr h => ?_)
  · obtain ⟨p, S, rfl, _⟩ := h
    rfl
  obtain ⟨p, S, rfl, hS, ok, hd, hi0, hN, q⟩ := h
  have tk0 : Takes (cxOf (L2.CX P w) P w K mg base N_LineParser_assignment "LineParser.assignment" (defScope s_LineParser_assignment) (He.ma K (He.ga K "LineParser") "assignment") cdv A outer s H E) (fun cls d _ H => E cls d H) := takes_of rfl rfl rfl rfl
  refine ⟨_, (pss_cons (ps_set (i := 1) sc_LineParser_assignment.nd rfl (Or.inl rfl) (pe_lst pa_nil))
      (pss_cons (ps_set (i := 2) sc_LineParser_assignment.nd rfl (Or.inl rfl) pe_bl)
      (pss_cons (ps_while (passes_of rfl) (pt_val (pv 2)) (pss_cons (ps_asg (pe_meth0 (pv 0) T.cl_LineParser T.me_LineParser_declared (ok_LineParser_declared T) (hr.mono (by decide)) (b_LineParser_declared T) .nil (passes_call tk0 fun _ _ _ _ h => h)) (pg_tup rfl (pgs_cons (pg_name (i := 3) sc_LineParser_assignment.nd rfl (Or.inl rfl)) (pgs_cons (pg_name (i := 4) sc_LineParser_assignment.nd rfl (Or.inl rfl)) pgs_nil))))
      (pss_cons (ps_if (pt_cmpR (r := rIn K false) (op_in_seq) (pv 3) (pv 1) (by rfl)) (pss_one (ps_expr (pe_meth (pv 0) T.cl_LineParser T.me_LineParser_fail (ok_LineParser_fail T) (hr.mono (by decide)) (b_LineParser_fail T) .nil (passes_call tk0 fun _ _ _ _ h => h) (pa_cons (pv 4) pa_nil)))) pss_nil)
      (pss_cons (ps_expr (pe_bm PySem.F.plainAttrs_list PySem.F.slot_list_append PySem.F.type_list_append mt_append (pv 1) (pa_cons (pv 3) pa_nil)))
      (pss_one (ps_set (i := 2) sc_LineParser_assignment.nd rfl (Or.inl rfl) (pe_cmpR (op_notN) (pe_meth (pv 0) T.cl_LineParser T.me_LineParser_accept (ok_LineParser_accept T) (hr.mono (by decide)) (b_LineParser_accept T) .nil pass0 (pa_cons pe_str (pa_cons (pe_tup (pa_cons pe_str pa_nil)) pa_nil))) pe_non (nomark _))))))))
      (pss_cons (ps_expr (pe_meth (pv 0) T.cl_LineParser T.me_LineParser_take (ok_LineParser_take T) (hr.mono (by decide)) (b_take2 T) .nil (passes_call tk0 fun _ _ _ _ h => h) (pa_cons pe_str (pa_cons pe_str pa_nil))))
      (pss_cons (ps_setLc (i := 5) (own := [("place", 3)]) (g := (gName 3)) (tt := tYes) (by rfl) sc_LineParser_assignment.nd rfl rfl (sw_true rfl rfl rfl (by decide +kernel)) (pi_range1 rfl T.z_range (pa_cons (pe_callB (call_lenQ (K := K) rfl) rfl T.z_len PySem.boot_len (pa_cons (pe_fldK (K := K) (pv 0) rfl rfl) pa_nil)) pa_nil)) (blkOk_by (own := [("place", 3)]) (N := N_LineParser_assignment) (sc := (defScope s_LineParser_assignment)) (by decide +kernel)) (fun _ _ _ _ _ => (pg_name (i := 3) sc_LineParser_assignment.nd rfl (Or.inl rfl))) (fun _ _ _ _ _ => pts_nil) (fun _ _ _ _ _ => (pe_call (ok_identity_row T) (hr.mono (by decide)) rfl T.g_identity_row T.F_identity_row.kp (b_identity_row T) .nil pass0 (pa_cons (pv 3) (pa_cons (pe_callB (call_lenQ (K := K) rfl) rfl T.z_len PySem.boot_len (pa_cons (pe_fldK (K := K) (pv 0) rfl rfl) pa_nil)) pa_nil)))))
      (pss_cons (ps_for (passes_of rfl) rfl (pi_enum (by rfl) T.z_enumerate (pa_cons (pv 1) pa_nil)) (pg_tup rfl (pgs_cons (pg_name (i := 6) sc_LineParser_assignment.nd rfl (Or.inl rfl)) (pgs_cons (pg_name (i := 3) sc_LineParser_assignment.nd rfl (Or.inl rfl)) pgs_nil))) (pss_cons (ps_if (pt_cmpR (op_gt) (pv 6) pe_int (nomark _)) (pss_one (ps_expr (pe_meth (pv 0) T.cl_LineParser T.me_LineParser_take (ok_LineParser_take T) (hr.mono (by decide)) (b_take2 T) .nil (passes_call tk0 fun _ _ _ _ h => h) (pa_cons pe_str (pa_cons pe_str pa_nil))))) pss_nil)
      (pss_cons (ps_set (i := 4) sc_LineParser_assignment.nd rfl (Or.inl rfl) (pe_meth0 (pv 0) T.cl_LineParser T.me_LineParser_peek (ok_LineParser_peek T) (hr.mono (by decide)) (b_LineParser_peek T) .nil pass0))
      (pss_cons (ps_asg (pe_meth0 (pv 0) T.cl_LineParser T.me_LineParser_expression (ok_LineParser_expression T) (hr.mono (by decide)) (b_LineParser_expression T) .nil (passes_call tk0 fun _ _ _ _ h => h)) (pg_sub (pv 5) (pv 3) set_list))
      (pss_one (ps_if (pt_not (pt_val (pe_call (ok_is_short T) (hr.mono (by decide)) rfl T.g_is_short T.F_is_short.kp (b_is_short T) .nil pass0 (pa_cons (pe_ix (r := rIxL K) ix_list (pv 5) (pv 3) (fun _ _ => rfl)) pa_nil)))) (pss_one (ps_expr (pe_meth (pv 0) T.cl_LineParser T.me_LineParser_fail (ok_LineParser_fail T) (hr.mono (by decide)) (b_LineParser_fail T) .nil (passes_call tk0 fun _ _ _ _ h => h) (pa_cons (pv 4) pa_nil)))) pss_nil))))))
      (pss_cons (ps_expr (pe_meth (pv 0) T.cl_LineParser T.me_LineParser_take (ok_LineParser_take T) (hr.mono (by decide)) (b_take1 T) (v_take1 T) (passes_call tk0 fun _ _ _ _ h => h) (pa_cons (pe_gv rfl T.c_END) pa_nil)))
      (pss_one (ps_ret (pe_tup (pa_cons pe_str (pa_cons (pe_callTy call_tuple_of rfl T.z_tuple (by decide +kernel) (pa_cons (pv 5) pa_nil)) pa_nil)))))))))))), ?_⟩
  have nl : S.names.length ≤ 4 := ok.names
  have l151 := ok.ts.len
  have lpos := ok.ts.pos
  unfold assignM at q
  refine ⟨sz 0, ?_⟩
  walk_at "new 0"
  have pn : p0 ≠ S.tla := hS.tla_ne n0
  generalize eR : placesM S.names S.ts (S.ts.length + 1) [] 0 = R at q
  refine ⟨fun m σ H' => ∃ (i : Nat) (acc : List Nat) (b : Bool) (v1 v2 : Option V), σ = [some (.ref p), some (.ref p0), some (.bl b), v1, v2, none, none] ∧ i < S.ts.length ∧ S.ts.length < m + i ∧ Kp p H H' ∧ LPAt K H' p { S with idx := i } ∧ H' p0 = some (.lst (natL acc)) ∧ acc.length ≤ i ∧
      (if b = true then placesM S.names S.ts m acc i = R else R = .ok (acc, i)),
    ⟨S.ts.length + 1, 0, [], true, none, none, rfl, lpos, by omega, Kf.of s0, by have := hS.same s0; rw [← hi0]; exact this, h0, Nat.le_refl _, eR⟩, ?_⟩
  rintro m σ H1 ⟨i, acc, b, v1, v2, rfl, i1, i2, k1, l1, h1, al, e1⟩
  have hN1 := hN.kp k1 hS.ins
  refine ⟨_, rfl, _, rfl, ?_⟩
  cases b with
  | true =>
    refine ifT rfl ⟨_, fun _ _ h => h, ?_⟩
    cases m with
    | zero => omega
    | succ m =>
    rw [if_pos rfl] at e1
    unfold placesM at e1
    obtain ⟨t, ht⟩ : ∃ t, S.ts[i]? = some t := ⟨_, List.getElem?_eq_getElem i1⟩
    rw [ht] at e1
    simp only at e1
    obtain ⟨dx1, tla1, hp1, _⟩ := id l1
    have tc := ok.ts.col t (List.mem_of_getElem? ht)
    refine ⟨_, rfl, p, dx1, _, rfl, hp1, rfl, p, _, t, rfl, l1, ok.eq rfl rfl rfl, ht, hN1, ?_⟩
    rcases q2 : declM S.names t with _ | pl
    · rw [show declM S.names t = none from q2] at e1
      rw [← e1] at q
      exact BadP.kp q k1
    rw [show declM S.names t = some pl from q2] at e1
    simp only at e1
    have hi1 : i + 1 < S.ts.length := ok.ts.fin i t ht (by rw [(declM_some q2).1]; decide +kernel)
    intro b1 a1 H2 k2 l2 tk2 hb
    obtain ⟨dy, hk2⟩ := id tk2
    have h2 : H2 p0 = some (.lst (natL acc)) := kp_lst k2 l1.ins h1
    refine ⟨b1, _, rfl, hb, rfl, _, _, rfl, _, _, rfl, rfl, ?_⟩
    refine ⟨_, rfl, _, rfl, p0, _, rfl, .inl (.of h2), rfl, flat_natL _, _, rfl, ?_⟩
    rw [inV_natL]
    obtain ⟨dx2, tla2, hp2, _⟩ := id l2
    have k12 : Kp p H H2 := k1.trans k2
    by_cases c : pl ∈ acc
    · rw [if_pos c] at e1
      rw [← e1] at q
      refine ifT (decide_eq_true c) ?_
      exact ⟨_, rfl, p, dx2, _, rfl, hp2, rfl, _, rfl, p, a1, _, t, rfl, l2, ok.eq rfl rfl rfl, tk2, tc, BadP.kp q k12⟩
    · rw [if_neg c] at e1
      refine ifF (decide_eq_false c) ?_
      have iel : natL acc ++ [V.int (pl : Int)] = natL (acc ++ [pl]) := by unfold natL; rw [List.map_append] <;> rfl
      refine ⟨_, rfl, .inl ⟨rfl, _, .inl (.inl h2)⟩, _, rfl, p0, _, _, rfl, rfl, h2, szl _ (by unfold natL; rw [List.length_map]; omega), ?_⟩
      rw [iel]
      obtain ⟨l3, hN3⟩ := l2.lst (ys := natL (acc ++ [pl])) (hN.kp k12 hS.ins) h2 pn
      have k13 : Kp p H (upd H2 p0 (.lst (natL (acc ++ [pl])))) := kp_new k12 n0
      have h3 : upd H2 p0 (.lst (natL (acc ++ [pl]))) p0 = some (.lst (natL (acc ++ [pl]))) := upd_same
      generalize upd H2 p0 (.lst (natL (acc ++ [pl]))) = H3 at l3 hN3 k13 h3
      obtain ⟨dx3, tla3, hp3, _⟩ := id l3
      refine ⟨_, rfl, p, dx3, _, rfl, hp3, rfl, sz 1, ?_⟩
      walk_at "new 4"
      dsimp only [tNil]
      refine accept_at (S := S) (texts := [","]) (i := i + 1) (l3.same s4) hi1 (.of h4) fun o H5 k5 o5 => ?_
      have k15 : Kp p H H5 := (Kp.same k13 s4).trans k5
      have h5 : H5 p0 = some (.lst (natL (acc ++ [pl]))) := kp_lst k5 (ins_same l3.ins s4) (s4 _ _ h3)
      rcases o5 with ⟨rfl, n5, l5⟩ | ⟨a5, t5, rfl, n5, tk5, l5⟩
      · rw [n5] at e1
        exact ⟨rfl, m, by omega, i + 1, acc ++ [pl], false, _, _, rfl, hi1, by omega, k15, l5, h5, by rw [List.length_append, List.length_singleton]; omega, e1.symm⟩
      · rw [n5] at e1
        simp only at e1
        obtain ⟨_, _, hi2⟩ := sym_in ok.ts n5
        exact ⟨rfl, m, by omega, i + 2, acc ++ [pl], true, _, _, rfl, hi2, by omega, k15, l5, h5, by rw [List.length_append, List.length_singleton]; omega, e1⟩
  | false =>
    refine ifF rfl ?_
    have e1 : R = .ok (acc, i) := e1
    obtain ⟨acclt, accl⟩ := placesM_lt _ [] 0 acc i (fun x h => by cases h) (Nat.le_refl _) (eR.trans e1)
    rw [e1] at q
    simp only at q
    obtain ⟨t, ht⟩ : ∃ t, S.ts[i]? = some t := ⟨_, List.getElem?_eq_getElem i1⟩
    obtain ⟨dx1, tla1, hp1, _⟩ := id l1
    rw [takeM_eq ht] at q
    refine ⟨_, rfl, p, dx1, _, rfl, hp1, rfl, p, _, t, "symbol", some ":=", rfl, l1, ok.eq rfl rfl rfl, ht, ?_⟩
    by_cases e2 : tkOk "symbol" (some ":=") t = true
    case neg =>
      rw [if_neg e2] at q
      rw [if_neg e2]
      exact BadP.kp q k1
    rw [if_pos e2] at q
    rw [if_pos e2]
    simp only at q
    have hi1 := tk_in ok.ts ht e2 (by decide +kernel)
    intro b2 H2 k2 l2 _
    have k12 : Kp p H H2 := k1.trans k2
    have hN2 := hN.kp k12 hS.ins
    have h2 : H2 p0 = some (.lst (natL acc)) := kp_lst k2 l1.ins h1
    obtain ⟨dx2, tla2, hp2, _⟩ := id l2
    generalize eR2 : rowsM S.names S.ts acc 0 (unitsM S.names.length) (i + 1) = R2 at q
    refine ⟨_, rfl, p, _, dx2, _, _, rfl, hp2, T.cl_LineParser, T.na_LineParser_names, rfl, S.nm, _, rfl, .inr hN2.rd, ?_⟩
    rw [List.length_map]
    refine ⟨(S.names.length : Int), rfl, by omega, by omega, fun D hD => ?_⟩
    rw [Int.toNat_natCast]
    have nD := none_back k12 l2.ins hD
    have Dt : D ≠ S.tla := l2.tla_ne hD
    have Dp0 : D ≠ p0 := fun z => by rw [z, h2] at hD; cases hD
    refine lc_pure (walk_range (lo := 0) (n := S.names.length)) hD (fun c y H => Dp K H y (rowD (unitM c S.names.length))) (fun c v H H' s h => dp_mono s _ _ (rowD_tup _) h) (by omega) (fun _ _ => trivial) (fun c x Ha Hb _ ⟨e, _⟩ => by rw [e]; exact Same.refl _) ?_ (fun x H A B m h => m _ _ h) ?_
    · rintro c x Ha _ hc sa ⟨rfl, rfl⟩
      refine ⟨rfl, Same.refl _, fun Q' h => ⟨_, rfl, _, rfl, p, _, dx2, _, _, rfl, sa _ _ hp2, T.cl_LineParser, T.na_LineParser_names, rfl, S.nm, _, rfl, .inr (hN2.same sa).rd, c, S.names.length, ?_, Nat.le_of_lt hc, by omega, fun v H' s' d' => h v H' s' d'⟩⟩
      rw [List.length_map]
      show [V.int (0 + (c : Int)), V.int (S.names.length : Int)] = _
      rw [Int.zero_add]
    intro ys H3 s3 h3 hn hy
    have dp3 : DpAll K H3 ys ((unitsM S.names.length).map rowD) := by
      refine dpAll_mk (by unfold unitsM; rw [List.length_map, List.length_map, List.length_range]; exact hn) fun c y dd f1 f2 => ?_
      obtain ⟨r, f3, rfl⟩ := map_get f2
      obtain ⟨n, f4, rfl⟩ := map_get (l := List.range S.names.length) (f := fun n => unitM n S.names.length) f3
      have f5 := (List.getElem?_eq_some_iff.mp f4)
      obtain ⟨_, f6⟩ := f5
      rw [List.getElem_range] at f6
      subst f6
      exact hy c y f1
    refine ⟨_, rfl, p0, natL acc, rfl, .of (s3 _ _ h2), ?_⟩
    refine for_it (walk_enum (K := K) (a := p0) (xs := natL acc)) (fun c σ H' => ∃ (i : Nat) (rows : List Row) (vs : List V) (v3 v4 v6 : Option V), σ = [some (.ref p), some (.ref p0), some (.bl false), v3, v4, some (.ref D), v6] ∧ Kp p H H' ∧ LPAt K H' p { S with idx := i } ∧ H' p0 = some (.lst (natL acc)) ∧ H' D = some (.lst vs) ∧
        DpAll K H' vs (rows.map rowD) ∧ rows.length = S.names.length ∧ i < S.ts.length ∧ rowsM S.names S.ts (acc.drop c) c rows i = R2)
      ⟨i + 1, unitsM S.names.length, ys, _, _, _, rfl, Kp.same k12 s3, l2.same s3, s3 _ _ h2, h3, dp3, by unfold unitsM; rw [List.length_map, List.length_range], hi1, eR2⟩ ?_ ?_ ?_
    · rintro c σ H' _ ⟨_, _, _, _, _, _, _, _, _, h, _⟩
      exact .of h
    · rintro c x σ H4 _ hc ⟨i4, rows, vs, v3, v4, v6, rfl, k4, l4, h4, hD4, dp4, rl, hi4, e4⟩ ⟨tt, x1, y1, rfl, nt, rfl, f1, f2⟩
      have f1 := Option.some.inj f1
      subst f1
      obtain ⟨pl, f3, rfl⟩ := natL_get f2
      have plt : pl < S.names.length := acclt pl (List.mem_of_getElem? f3)
      have ed : acc.drop c = pl :: acc.drop (c + 1) := by
        obtain ⟨g1, g2⟩ := List.getElem?_eq_some_iff.mp f3
        rw [List.drop_eq_getElem_cons g1, g2]
      rw [ed] at e4
      unfold rowsM at e4
      have s5 := same_new (o := .tup [.int (c : Int), .int (pl : Int)]) nt
      refine ⟨tt, _, rfl, .of upd_same, rfl, _, _, rfl, _, _, rfl, rfl, ?_⟩
      have k5 : Kp p H (upd H4 tt (.tup [.int (c : Int), .int (pl : Int)])) := Kp.same k4 s5
      have l5 := l4.same s5
      have h5 := s5 _ _ h4
      have hD5 := s5 _ _ hD4
      have dp5 := dpRows (Same.tups s5) dp4
      generalize upd H4 tt (.tup [.int (c : Int), .int (pl : Int)]) = H5 at *
      refine ⟨_, rfl, _, _, rfl, rfl, _, rfl, ?_⟩
      have nested : S.nest = 20 - 20 := by omega
      by_cases c0 : c = 0
      case' pos =>
        rw [if_pos c0] at e4
        simp only at e4
        refine ifF (by simp; omega) ?_
        have hj := hi4
        have k6 := k5
        have l6 := l5
        have h6 := h5
        have hD6 := hD5
        have dp6 := dp5
        obtain ⟨j, ej⟩ : ∃ j, j = i4 := ⟨_, rfl⟩
        rw [← ej] at e4 hj l6
      case' neg =>
        rw [if_neg c0] at e4
        refine ifT (by simp; omega) ?_
        obtain ⟨t5, ht5⟩ : ∃ t, S.ts[i4]? = some t := ⟨_, List.getElem?_eq_getElem hi4⟩
        rw [takeM_eq ht5] at e4
        obtain ⟨dx5, tla5, hp5, _⟩ := id l5
        refine ⟨_, rfl, p, dx5, _, rfl, hp5, rfl, p, _, t5, "symbol", some ",", rfl, l5, ok.eq rfl rfl rfl, ht5, ?_⟩
        by_cases e5 : ¬ (tkOk "symbol" (some ",") t5 = true)
        · rw [if_neg e5] at e4
          rw [if_neg e5]
          rw [← e4] at q
          exact BadP.kp q k5
        have e5 := Classical.not_not.mp e5
        rw [if_pos e5] at e4
        rw [if_pos e5]
        simp only at e4
        have hj := tk_in ok.ts ht5 e5 (by decide +kernel)
        intro b6 H6 kk6 l6 _
        have k6 : Kp p H H6 := k5.trans kk6
        have h6 := kp_lst kk6 l5.ins h5
        have hD6 := kp_lst kk6 l5.ins hD5
        have dp6 := dpRows (kp_tups kk6 l5.ins) dp5
        obtain ⟨j, ej⟩ : ∃ j, j = i4 + 1 := ⟨_, rfl⟩
        rw [← ej] at e4 hj
        have l6 := ej ▸ l6
      all_goals
        obtain ⟨t6, ht6⟩ : ∃ t, S.ts[j]? = some t := ⟨_, List.getElem?_eq_getElem hj⟩
        obtain ⟨dx6, tla6, hp6, _⟩ := id l6
        have tc6 := ok.ts.col t6 (List.mem_of_getElem? ht6)
        have ec : colAt S.ts j = t6.col := by unfold colAt; rw [ht6]
        refine ⟨_, rfl, p, dx6, _, rfl, hp6, rfl, p, _, t6, rfl, l6, ht6, fun a6 tk6 => ?_⟩
        refine ⟨_, rfl, p, dx6, _, rfl, hp6, rfl, p, _, rfl, l6, ok.eq rfl rfl rfl, nested, hj, hN.kp k6 hS.ins, ?_⟩
        simp only
        rcases q7 : exprM S.names S.ts 20 j with cc | rk
        · rw [q7] at e4
          rw [← e4] at q
          exact BadP.kp q k6
        obtain ⟨r, k⟩ := rk
        rw [q7] at e4
        simp only at e4
        obtain ⟨g1, g2, g3⟩ := exprM_g ok.ts S.names 20 _ _ _ q7
        intro v H7 k7 l7 d7
        have k17 : Kp p H H7 := k6.trans k7
        have h7 := kp_lst k7 l6.ins h6
        have hD7 := kp_lst k7 l6.ins hD6
        have dp7 := dpRows (kp_tups k7 l6.ins) dp6
        have tk7 := tk6.kp l6 k7
        have vl : vs.length = S.names.length := by rw [dpAll_len dp7, List.length_map, rl]
        refine ⟨_, rfl, _, rfl, D, vs, _, pl, rfl, rfl, hD7, by unfold ixN; rw [if_pos (by omega), if_pos (by omega), Int.toNat_natCast], ?_⟩
        obtain ⟨l8, hN8⟩ := l7.lst (ys := vs.set pl v) (hN.kp k17 hS.ins) hD7 Dt
        have k8 : Kp p H (upd H7 D (.lst (vs.set pl v))) := kp_new k17 nD
        have st8 : SameT H7 (upd H7 D (.lst (vs.set pl v))) := sameT_lst hD7
        have dp8 := dpRows_set (dp_mono st8 _ _ (rowD_tup _) d7) pl (dpRows st8 dp7)
        have d8 := dp_mono st8 _ _ (rowD_tup _) d7
        have hD8 : upd H7 D (.lst (vs.set pl v)) D = some (.lst (vs.set pl v)) := upd_same
        have h8 : upd H7 D (.lst (vs.set pl v)) p0 = some (.lst (natL acc)) := by rw [upd_ne Dp0.symm]; exact h7
        have tk8 := tk7.lst (ys := vs.set pl v) hD7
        generalize upd H7 D (.lst (vs.set pl v)) = H8 at l8 hN8 k8 dp8 d8 hD8 h8 tk8
        clear st8
        refine ⟨_, rfl, _, rfl, D, _, _, v, rfl, rfl, .of hD8, atI_nat (by rw [List.getElem?_set_self (by omega)]), v, r, rfl, d8, g3.ne, by rw [g3.len]; omega, fun H9 s9 => ⟨_, rfl, ?_⟩⟩
        have ls : (rows.set pl r).length = S.names.length := by rw [List.length_set]; exact rl
        by_cases e9 : isShortM r = true
        · rw [if_pos e9] at e4
          refine ifF (by rw [e9]; rfl) ?_
          exact ⟨k, rows.set pl r, _, _, _, _, rfl, Kp.same k8 s9, l8.same s9, s9 _ _ h8, s9 _ _ hD8, dpRows (Same.tups s9) dp8, ls, g2, e4⟩
        · rw [if_neg e9, ec] at e4
          rw [← e4] at q
          refine ifT (by simpa using e9) ?_
          have l9 := l8.same s9
          obtain ⟨dx9, tla9, hp9, _⟩ := id l9
          exact ⟨_, rfl, p, dx9, _, rfl, hp9, rfl, _, rfl, p, a6, _, t6, rfl, l9, ok.eq rfl rfl rfl, tk8.same s9, tc6, BadP.kp q (Kp.same k8 s9)⟩
    · rintro σ H4 ⟨i4, rows, vs, v3, v4, v6, rfl, k4, l4, h4, hD4, dp4, rl, hi4, e4⟩
      have nlen : (natL acc).length = acc.length := by unfold natL; rw [List.length_map]
      rw [nlen, List.drop_eq_nil_of_le (Nat.le_refl _)] at e4
      have e4 : (.ok (rows, i4) : Except Nat (List Row × Nat)) = R2 := e4
      rw [← e4] at q
      simp only at q
      obtain ⟨t4, ht4⟩ : ∃ t, S.ts[i4]? = some t := ⟨_, List.getElem?_eq_getElem hi4⟩
      rw [takeM_eq ht4] at q
      obtain ⟨dx4, tla4, hp4, _⟩ := id l4
      refine ⟨_, rfl, p, dx4, _, rfl, hp4, rfl, p, _, t4, "end of line", none, rfl, l4, ok.eq rfl rfl rfl, ht4, ?_⟩
      by_cases e5 : tkOk "end of line" none t4 = true
      · rw [if_pos e5] at q
        rw [if_pos e5]
        simp only at q
        intro b5 H5 k5 l5 _
        have hD5 := kp_lst k5 l4.ins hD4
        have dp5 := dpRows (kp_tups k5 l4.ins) dp4
        refine ⟨_, rfl, D, vs, rfl, .inl ⟨.of hD5, ?_⟩⟩
        walk_at "new 6"
        refine ⟨sz 2, ?_⟩
        walk_at "new 7"
        refine q _ H7 (Kp.same (k4.trans k5) (s6.trans s7)) (.tup (.of h7) (.cons (.str _) (.cons (.tup (sameT s7 (.of h6)) (dpRows (Same.tups (s6.trans s7)) dp5)) .nil)))
      · rw [if_neg e5] at q
        rw [if_neg e5]
        exact BadP.kp q k4
end
end Kw

set_option Elab.async false
set_option linter.all false
set_option maxRecDepth 100000
set_option maxHeartbeats 4000000
namespace Kw
open PySem PySem.Spec PyProof.Rows L2
local macro_rules | `(tactic| walk_at $s:str) => do
  match s.getString.splitOn " " with
  | ["new", a] =>
    let p := Lean.mkIdent (Lean.Name.mkSimple ("p" ++ a))
    let n := Lean.mkIdent (Lean.Name.mkSimple ("n" ++ a))
    let H := Lean.mkIdent (Lean.Name.mkSimple ("H" ++ a))
    let s := Lean.mkIdent (Lean.Name.mkSimple ("s" ++ a))
    let h := Lean.mkIdent (Lean.Name.mkSimple ("h" ++ a))
    `(tactic| (intro $p $n; generalize e : upd _ $p _ = $H; have $s : Same _ $H := e ▸ same_new $n; have $h : $H $p = some _ := e ▸ upd_same; clear e))
  | _ => Lean.Macro.throwUnsupported
/-! ### programs, line by line: the mirror -/
structure Blk where
  head : List PyData
  rounds : Nat
  inner : List PyData
/-- the innermost block first -/
structure PS where
  blks : List Blk
  count : Nat
def putM (x : PyData) : List Blk → List Blk
  | [] => []
  | B :: Bs => { B with inner := B.inner ++ [x] } :: Bs
def closeM : List Blk → List Blk
  | B :: C :: Bs => { C with inner := C.inner ++ [.tuple (B.head ++ [.tuple B.inner])] } :: Bs
  | bs => bs
def topR : List Blk → Nat
  | [] => 1
  | B :: _ => B.rounds
def openM (ts : List Tk) (bs : List Blk) : Except Nat (List PyData × Nat) := match ts[0]? with
  | none => .error 0
  | some (t : Tk) => if acOk "word" ["repeat", "forever", "mean"] t = true ∧ bs.length ≤ 4 then
      if t.text = ("repeat" : Str) then (match ts[1]? with
        | none => .error 0
        | some (u : Tk) => if u.kind = ("number" : Str) ∧ numV u * topR bs ≤ 50 then (match takeM ts "end of line" none 2 with
            | .error c => .error c
            | .ok _ => .ok ([.str "repeat", .int (numV u)], topR bs * max 1 (numV u)))
          else .error u.col)
      else (match takeM ts "end of line" none 1 with
        | .error c => .error c
        | .ok _ => .ok ([.str t.text], topR bs))
    else .error t.col
def lineM (names : List Str) (S : PS) (ts : List Tk) : Except Nat PS := match ts[0]? with
  | none => .error 0
  | some (t : Tk) => if t.kind = ("end of line" : Str) then .ok S
    else if acOk "word" ["end"] t = true then
      if S.blks.length = 1 then .error t.col else (match takeM ts "end of line" none 1 with
        | .error c => .error c
        | .ok _ => .ok { S with blks := closeM S.blks })
    else if 30 < S.count + 1 then .error t.col
    else if t.kind = ("name" : Str) then (match assignM names ts with
      | .error c => .error c
      | .ok rows => .ok ⟨putM (asgD rows) S.blks, S.count + 1⟩)
    else match openM ts S.blks with
      | .error c => .error c
      | .ok (h, r) => .ok ⟨⟨h, r, []⟩ :: S.blks, S.count + 1⟩
def readM (names : List Str) (S : PS) (z : Str) : Except Nat PS := match lexM z with
  | .error c => .error c
  | .ok t0 => lineM names S (t0 ++ [endTk z])
def tot : List Blk → Nat
  | [] => 0
  | B :: Bs => B.inner.length + 1 + tot Bs
structure PSok (S : PS) : Prop where
  ne : S.blks ≠ []
  count : S.count ≤ 30
  deep : S.blks.length ≤ 5
  rounds : ∀ B ∈ S.blks, B.rounds ≤ 50
  tot : tot S.blks ≤ S.count + 1
  tupd : ∀ B ∈ S.blks, tupled.go B.head = true ∧ tupled.go B.inner = true
  hd2 : ∀ B ∈ S.blks, B.head.length ≤ 2
theorem tot_put (x : PyData) {bs : List Blk} (h : bs ≠ []) : tot (putM x bs) = tot bs + 1 := by
  cases bs with
  | nil => exact absurd rfl h
  | cons B Bs =>
    show (B.inner ++ [x]).length + 1 + tot Bs = B.inner.length + 1 + tot Bs + 1
    rw [List.length_append, List.length_singleton]
    omega
theorem asgD_tup (rows : List Row) : tupled (asgD rows) = true := by
  show (true && (tupled.go (rows.map rowD) && true)) = true
  have : tupled.go (rows.map rowD) = true := by
    induction rows with
    | nil => rfl
    | cons r rows ih =>
      show (tupled (rowD r) && tupled.go (rows.map rowD)) = true
      rw [rowD_tup, ih] <;> rfl
  rw [this] <;> rfl
theorem openM_ok {ts : List Tk} {bs : List Blk} {h : List PyData} {r : Nat} (hb : ∀ B ∈ bs, B.rounds ≤ 50) (e : openM ts bs = .ok (h, r)) : r ≤ 50 ∧ tupled.go h = true ∧ bs.length ≤ 4 ∧ h.length ≤ 2 := by
  have ht : topR bs ≤ 50 := by
    cases bs with
    | nil => decide
    | cons B Bs => exact hb B (List.mem_cons_self ..)
  unfold openM at e
  cases q : ts[0]? with
  | none => rw [q] at e; cases e
  | some t =>
    rw [q] at e
    simp only at e
    by_cases c1 : acOk "word" ["repeat", "forever", "mean"] t = true ∧ bs.length ≤ 4
    · rw [if_pos c1] at e
      by_cases c2 : t.text = "repeat"
      · rw [if_pos c2] at e
        cases q1 : ts[1]? with
        | none => rw [q1] at e; cases e
        | some u =>
          rw [q1] at e
          simp only at e
          by_cases c3 : u.kind = "number" ∧ numV u * topR bs ≤ 50
          · rw [if_pos c3] at e
            cases q2 : takeM ts "end of line" none 2 with
            | error c => rw [q2] at e; cases e
            | ok j =>
              rw [q2] at e
              cases e
              refine ⟨?_, rfl, c1.2, by show 2 ≤ 2; decide⟩
              by_cases z : numV u ≤ 1
              · rw [Nat.max_eq_left z]; omega
              · rw [Nat.max_eq_right (by omega), Nat.mul_comm]; exact c3.2
          · rw [if_neg c3] at e; cases e
      · rw [if_neg c2] at e
        cases q2 : takeM ts "end of line" none 1 with
        | error c => rw [q2] at e; cases e
        | ok j =>
          rw [q2] at e
          cases e
          exact ⟨ht, rfl, c1.2, by show 1 ≤ 2; decide⟩
    · rw [if_neg c1] at e; cases e
theorem closeM_ok {bs : List Blk} (h1 : bs.length ≠ 1) (h0 : bs ≠ []) : ∃ B C Bs, bs = B :: C :: Bs := match bs, h1, h0 with
  | [], _, h => absurd rfl h
  | [_], h, _ => absurd rfl h
  | B :: C :: Bs, _, _ => ⟨B, C, Bs, rfl⟩
theorem lineM_ok {names : List Str} {S S' : PS} {ts : List Tk} (h : PSok S) (e : lineM names S ts = .ok S') : PSok S' := by
  unfold lineM at e
  cases q : ts[0]? with
  | none => rw [q] at e; cases e
  | some t =>
    rw [q] at e
    simp only at e
    by_cases c1 : t.kind = "end of line"
    · rw [if_pos c1] at e; cases e; exact h
    rw [if_neg c1] at e
    by_cases c2 : acOk "word" ["end"] t = true
    · rw [if_pos c2] at e
      by_cases c3 : S.blks.length = 1
      · rw [if_pos c3] at e; cases e
      rw [if_neg c3] at e
      cases q2 : takeM ts "end of line" none 1 with
      | error c => rw [q2] at e; cases e
      | ok j =>
        rw [q2] at e
        cases e
        obtain ⟨B, C, Bs, eb⟩ := closeM_ok c3 h.ne
        have h2 := h.deep
        have h3 := h.rounds
        have h4 := h.tot
        have h5 := h.tupd
        have h6 := h.hd2
        rw [eb] at h2 h3 h4 h5 h6
        refine ⟨?_, h.count, ?_, ?_, ?_, ?_, ?_⟩
        · show closeM S.blks ≠ []
          rw [eb]
          exact List.cons_ne_nil _ _
        · show (closeM S.blks).length ≤ 5
          rw [eb]
          simp only [closeM, List.length_cons] at h2 ⊢
          omega
        · show ∀ D ∈ closeM S.blks, _
          rw [eb]
          intro D hD
          rcases List.mem_cons.mp hD with rfl | hD
          · exact h3 C (List.mem_cons_of_mem _ (List.mem_cons_self ..))
          · exact h3 D (List.mem_cons_of_mem _ (List.mem_cons_of_mem _ hD))
        · show tot (closeM S.blks) ≤ S.count + 1
          rw [eb]
          have e1 : tot (closeM (B :: C :: Bs)) = C.inner.length + 1 + 1 + tot Bs := by
            show (C.inner ++ [_]).length + 1 + tot Bs = _
            rw [List.length_append, List.length_singleton]
          have e2 : tot (B :: C :: Bs) = B.inner.length + 1 + (C.inner.length + 1 + tot Bs) := rfl
          omega
        · show ∀ D ∈ closeM S.blks, _
          rw [eb]
          intro D hD
          rcases List.mem_cons.mp hD with rfl | hD
          · have hB := h5 B (List.mem_cons_self ..)
            have hC := h5 C (List.mem_cons_of_mem _ (List.mem_cons_self ..))
            refine ⟨hC.1, tupled_app hC.2 ?_⟩
            show (tupled.go (B.head ++ [.tuple B.inner]) && true) = true
            rw [tupled_app (es := [.tuple B.inner]) hB.1 (show (tupled.go B.inner && true) = true by rw [hB.2] <;> rfl)] <;> rfl
          · exact h5 D (List.mem_cons_of_mem _ (List.mem_cons_of_mem _ hD))
        · show ∀ D ∈ closeM S.blks, _
          rw [eb]
          intro D hD
          rcases List.mem_cons.mp hD with rfl | hD
          · exact h6 C (List.mem_cons_of_mem _ (List.mem_cons_self ..))
          · exact h6 D (List.mem_cons_of_mem _ (List.mem_cons_of_mem _ hD))
    rw [if_neg c2] at e
    by_cases c3 : 30 < S.count + 1
    · rw [if_pos c3] at e; cases e
    rw [if_neg c3] at e
    by_cases c4 : t.kind = "name"
    · rw [if_pos c4] at e
      cases q2 : assignM names ts with
      | error c => rw [q2] at e; cases e
      | ok rows =>
        rw [q2] at e
        cases e
        have h2 := h.deep
        have h3 := h.rounds
        have h4 := h.tot
        have h5 := h.tupd
        have h6 := h.hd2
        have tp := tot_put (asgD rows) h.ne
        cases eb : S.blks with
        | nil => exact absurd eb h.ne
        | cons B Bs =>
        rw [eb] at h2 h3 h4 h5 h6 tp
        refine ⟨List.cons_ne_nil _ _, by show S.count + 1 ≤ 30; omega, h2, ?_, ?_, ?_, ?_⟩
        · intro D hD
          rcases List.mem_cons.mp hD with rfl | hD
          · exact h3 B (List.mem_cons_self ..)
          · exact h3 D (List.mem_cons_of_mem _ hD)
        · show tot (putM (asgD rows) (B :: Bs)) ≤ S.count + 1 + 1
          omega
        · intro D hD
          rcases List.mem_cons.mp hD with rfl | hD
          · have hB := h5 B (List.mem_cons_self ..)
            exact ⟨hB.1, tupled_app hB.2 (show (tupled (asgD rows) && true) = true by rw [asgD_tup] <;> rfl)⟩
          · exact h5 D (List.mem_cons_of_mem _ hD)
        · intro D hD
          rcases List.mem_cons.mp hD with rfl | hD
          · exact h6 B (List.mem_cons_self ..)
          · exact h6 D (List.mem_cons_of_mem _ hD)
    rw [if_neg c4] at e
    cases q2 : openM ts S.blks with
    | error c => rw [q2] at e; cases e
    | ok hr =>
      obtain ⟨hd, r⟩ := hr
      rw [q2] at e
      cases e
      obtain ⟨o1, o2, o3, o4⟩ := openM_ok h.rounds q2
      have h4 := h.tot
      refine ⟨List.cons_ne_nil _ _, by show S.count + 1 ≤ 30; omega, by show S.blks.length + 1 ≤ 5; omega, ?_, ?_, ?_, ?_⟩
      · intro D hD
        rcases List.mem_cons.mp hD with rfl | hD
        · exact o1
        · exact h.rounds D hD
      · show 0 + 1 + tot S.blks ≤ S.count + 1 + 1
        omega
      · intro D hD
        rcases List.mem_cons.mp hD with rfl | hD
        · exact ⟨o2, rfl⟩
        · exact h.tupd D hD
      · intro D hD
        rcases List.mem_cons.mp hD with rfl | hD
        · exact o4
        · exact h.hd2 D hD
theorem readM_ok {names : List Str} {S S' : PS} {z : Str} (h : PSok S) (e : readM names S z = .ok S') : PSok S' := by
  unfold readM at e
  cases q : lexM z with
  | error c => rw [q] at e; cases e
  | ok ts => rw [q] at e; exact lineM_ok h e
/-! ### what stands at a program's parser -/
def blkF (hd il : Addr) (r : Nat) : List (Str × V) := [("head", .ref hd), ("rounds", .int r), ("inner", .ref il)]
def ppF (nm bl : Addr) (c : Nat) : List (Str × V) := [("names", .ref nm), ("blocks", .ref bl), ("count", .int c)]
def BlkAt (K : PySem.W.Frag) (H : Hp) (a il : Addr) (B : Blk) : Prop := ∃ (dx hd : Addr) (hs vs : List V), H a = some (.ins (He.ga K "Block") dx (blkF hd il B.rounds)) ∧ SqT K H hd hs ∧ DpAll K H hs B.head ∧ H il = some (.lst vs) ∧ DpAll K H vs B.inner ∧ tupled.go B.head = true ∧ tupled.go B.inner = true
def BlksAt (K : PySem.W.Frag) (H0 H : Hp) : List Addr → List Addr → List Blk → Prop
  | [], [], [] => True
  | a :: as, il :: ils, B :: Bs => BlkAt K H a il B ∧ H0 il = none ∧ BlksAt K H0 H as ils Bs
  | _, _, _ => False
structure PPx (K : PySem.W.Frag) (H0 H : Hp) (p nm : Addr) (names : List Str) (S : PS) (dx bl : Addr) (as ils : List Addr) : Prop where
  hp : H p = some (.ins (He.ga K "ProgramParser") dx (ppF nm bl S.count))
  np : H0 p = none
  hb : H bl = some (.lst (as.map V.ref).reverse)
  nb : H0 bl = none
  bs : BlksAt K H0 H as ils S.blks
  nd : ils.Nodup
  out : bl ∉ ils
  nt : NmT H nm (names.map V.str)
def PPAt (K : PySem.W.Frag) (H0 H : Hp) (p nm : Addr) (names : List Str) (S : PS) : Prop := ∃ dx bl as ils, PPx K H0 H p nm names S dx bl as ils
theorem BlkAt.kp {K : PySem.W.Frag} {H H' : Hp} {q a il : Addr} {B : Blk} (h : BlkAt K H a il B) (k : Kp q H H') (st : SameT H H') (h1 : a ≠ q) (h2 : il ≠ q) : BlkAt K H' a il B := by
  obtain ⟨dx, hd, hs, vs, e1, e2, e3, e4, e5, t1, t2⟩ := h
  exact ⟨dx, hd, hs, vs, k _ _ h1 e1, st.sq e2, dp_monoAll st _ _ t1 e3, k _ _ h2 e4, dp_monoAll st _ _ t2 e5, t1, t2⟩
theorem BlksAt.len {K : PySem.W.Frag} {H0 H : Hp} : ∀ {as ils : List Addr} {Bs : List Blk}, BlksAt K H0 H as ils Bs → as.length = Bs.length ∧ ils.length = Bs.length
  | [], [], [], _ => ⟨rfl, rfl⟩
  | _ :: as, _ :: ils, _ :: Bs, h => ⟨congrArg (· + 1) (BlksAt.len h.2.2).1, congrArg (· + 1) (BlksAt.len h.2.2).2⟩
  | [], [], _ :: _, h => h.elim
  | [], _ :: _, [], h => h.elim
  | [], _ :: _, _ :: _, h => h.elim
  | _ :: _, [], [], h => h.elim
  | _ :: _, [], _ :: _, h => h.elim
  | _ :: _, _ :: _, [], h => h.elim
/-- no block stands at q -/
def NoBlk (K : PySem.W.Frag) (H : Hp) (q : Addr) : Prop := ∀ dx hd il r, H q ≠ some (.ins (He.ga K "Block") dx (blkF hd il r))
theorem BlksAt.kp {K : PySem.W.Frag} {H0 H H' : Hp} {q : Addr} (k : Kp q H H') (st : SameT H H') (n : NoBlk K H q) : ∀ {as ils : List Addr} {Bs : List Blk}, q ∉ ils → BlksAt K H0 H as ils Bs → BlksAt K H0 H' as ils Bs
  | [], [], [], _, _ => trivial
  | a :: as, il :: ils, B :: Bs, hq, h => by
    obtain ⟨h1, h2, h3⟩ := h
    refine ⟨h1.kp k st ?_ (fun e => hq (by rw [e]; exact List.mem_cons_self ..)), h2, BlksAt.kp k st n (fun e => hq (List.mem_cons_of_mem _ e)) h3⟩
    obtain ⟨dx, hd, hs, vs, e1, _⟩ := h1
    exact fun e => n _ _ _ _ (by rw [← e]; exact e1)
  | [], [], _ :: _, _, h => h.elim
  | [], _ :: _, [], _, h => h.elim
  | [], _ :: _, _ :: _, _, h => h.elim
  | _ :: _, [], [], _, h => h.elim
  | _ :: _, [], _ :: _, _, h => h.elim
  | _ :: _, _ :: _, [], _, h => h.elim
theorem BlksAt.same {K : PySem.W.Frag} {H0 H H' : Hp} (s : Same H H') : ∀ {as ils : List Addr} {Bs : List Blk}, BlksAt K H0 H as ils Bs → BlksAt K H0 H' as ils Bs
  | [], [], [], _ => trivial
  | a :: as, il :: ils, B :: Bs, h => by
    obtain ⟨⟨dx, hd, hs, vs, e1, e2, e3, e4, e5, t1, t2⟩, h2, h3⟩ := h
    exact ⟨⟨dx, hd, hs, vs, s _ _ e1, sameT s e2, dp_monoAll (Same.tups s) _ _ t1 e3, s _ _ e4, dp_monoAll (Same.tups s) _ _ t2 e5, t1, t2⟩, h2, BlksAt.same s h3⟩
  | [], [], _ :: _, h => h.elim
  | [], _ :: _, [], h => h.elim
  | [], _ :: _, _ :: _, h => h.elim
  | _ :: _, [], [], h => h.elim
  | _ :: _, [], _ :: _, h => h.elim
  | _ :: _, _ :: _, [], h => h.elim
theorem PPx.same {K : PySem.W.Frag} {H0 H H' : Hp} {p nm dx bl : Addr} {names : List Str} {S : PS} {as ils : List Addr} (h : PPx K H0 H p nm names S dx bl as ils) (s : Same H H') : PPx K H0 H' p nm names S dx bl as ils :=
  ⟨s _ _ h.hp, h.np, s _ _ h.hb, h.nb, BlksAt.same s h.bs, h.nd, h.out, h.nt.same s⟩
theorem BlksAt.lists {K : PySem.W.Frag} {H0 H : Hp} {q : Addr} (n : ∀ vs, H q ≠ some (.lst vs)) : ∀ {as ils : List Addr} {Bs : List Blk}, BlksAt K H0 H as ils Bs → q ∉ ils
  | [], [], [], _ => fun h => by cases h
  | a :: as, il :: ils, B :: Bs, h => by
    obtain ⟨⟨dx, hd, hs, vs, e1, e2, e3, e4, e5, t1, t2⟩, h2, h3⟩ := h
    intro hq
    rcases List.mem_cons.mp hq with rfl | hq
    · exact n _ e4
    · exact BlksAt.lists n h3 hq
  | [], [], _ :: _, h => h.elim
  | [], _ :: _, [], h => h.elim
  | [], _ :: _, _ :: _, h => h.elim
  | _ :: _, [], [], h => h.elim
  | _ :: _, [], _ :: _, h => h.elim
  | _ :: _, _ :: _, [], h => h.elim
theorem BlksAt.new {K : PySem.W.Frag} {H0 H : Hp} {q : Addr} (n : H q = none) {as ils : List Addr} {Bs : List Blk} (h : BlksAt K H0 H as ils Bs) : q ∉ ils := BlksAt.lists (fun vs e => by rw [n] at e; cases e) h
theorem key_hn : ¬ (("head" : Str) = "number") := by decide +kernel
theorem key_nn : ¬ (("names" : Str) = "number") := by decide +kernel
theorem key_hm : ¬ (("head" : Str) = "names") := by decide +kernel
theorem LPAt.noBlk {K : PySem.W.Frag} {H : Hp} {q : Addr} {S : LS} (l : LPAt K H q S) : NoBlk K H q := fun dx hd il r e => by
  obtain ⟨dy, tla, e2, _⟩ := l
  rw [e2] at e
  have e1 := (HO.ins.inj (Option.some.inj e)).2.2
  exact key_hn (Prod.mk.inj (List.cons.inj e1).1).1.symm
theorem lst_noBlk {K : PySem.W.Frag} {H : Hp} {q : Addr} {xs : List V} (l : H q = some (.lst xs)) : NoBlk K H q := fun dx hd il r e => by rw [l] at e; cases e
theorem new_noBlk {K : PySem.W.Frag} {H : Hp} {q : Addr} (l : H q = none) : NoBlk K H q := fun dx hd il r e => by rw [l] at e; cases e
/-- the line's parser q moves -/
theorem PPx.kp {K : PySem.W.Frag} {H0 H H' : Hp} {p nm dx bl q : Addr} {names : List Str} {S : PS} {U : LS} {as ils : List Addr} (h : PPx K H0 H p nm names S dx bl as ils) (l : LPAt K H q U) (k : Kp q H H') : PPx K H0 H' p nm names S dx bl as ils := by
  have i := l.ins
  refine ⟨k _ _ ?_ h.hp, h.np, kp_lst k i h.hb, h.nb, BlksAt.kp k (kp_tups k i) l.noBlk (BlksAt.lists ?_ h.bs) h.bs, h.nd, h.out, h.nt.kp k i⟩
  · rintro rfl
    obtain ⟨dy, tla, e2, _⟩ := l
    have e := h.hp
    rw [e2] at e
    have e1 := (HO.ins.inj (Option.some.inj e)).2.2
    exact key_nn (Prod.mk.inj (List.cons.inj e1).1).1.symm
  · obtain ⟨dy, tla, e2, _⟩ := l
    intro vs e
    rw [e2] at e
    cases e
/-- the count is stored anew -/
theorem PPx.cnt {K : PySem.W.Frag} {H0 H : Hp} {p nm dx bl : Addr} {names : List Str} {S : PS} {as ils : List Addr} (h : PPx K H0 H p nm names S dx bl as ils) (c : Nat) :
    PPx K H0 (upd H p (.ins (He.ga K "ProgramParser") dx (ppF nm bl c))) p nm names ⟨S.blks, c⟩ dx bl as ils := by
  have k : Kp p H (upd H p (.ins (He.ga K "ProgramParser") dx (ppF nm bl c))) := Kf.upd rfl
  have i : Ins H p := ⟨_, dx, _, h.hp⟩
  refine ⟨upd_same, h.np, kp_lst k i h.hb, h.nb, BlksAt.kp k (kp_tups k i) (fun dx hd il r e => ?_) (BlksAt.lists (fun vs e => ?_) h.bs) h.bs, h.nd, h.out, h.nt.kp k i⟩
  · rw [h.hp] at e
    have e1 := (HO.ins.inj (Option.some.inj e)).2.2
    exact key_hm (Prod.mk.inj (List.cons.inj e1).1).1.symm
  · rw [h.hp] at e
    cases e
theorem nmT_lst {H : Hp} {a q : Addr} {xs ys zs : List V} (h : NmT H a xs) (l : H q = some (.lst ys)) : NmT (upd H q (.lst zs)) a xs := by
  obtain ⟨o, e, r⟩ := h
  exact ⟨o, by rw [upd_ne (ne_of e l (by intro z; cases z))]; exact e, r⟩
/-- a statement goes behind the innermost block's ones -/
theorem PPx.put {K : PySem.W.Frag} {H0 H : Hp} {p nm dx bl a il : Addr} {names : List Str} {B : Blk} {Bs : List Blk} {c : Nat} {as ils : List Addr} {vs : List V} {v : V} {x : PyData} (h : PPx K H0 H p nm names ⟨B :: Bs, c⟩ dx bl (a :: as) (il :: ils))
    (hv : H il = some (.lst vs)) (hx : Dp K H v x) (tx : tupled x = true) : PPx K H0 (upd H il (.lst (vs ++ [v]))) p nm names ⟨putM x (B :: Bs), c⟩ dx bl (a :: as) (il :: ils) := by
  have st : SameT H (upd H il (.lst (vs ++ [v]))) := sameT_lst hv
  have k : Kp il H (upd H il (.lst (vs ++ [v]))) := Kf.upd rfl
  obtain ⟨⟨dxb, hd, hs, vs', e1, e2, e3, e4, e5, t1, t2⟩, n1, rest⟩ := h.bs
  rw [hv] at e4
  cases e4
  have nm' := List.nodup_cons.mp h.nd
  refine ⟨by rw [upd_ne (ne_of h.hp hv (by intro z; cases z))]; exact h.hp, h.np, by rw [upd_ne (fun z => h.out (by rw [z]; exact List.mem_cons_self ..))]; exact h.hb, h.nb, ⟨⟨dxb, hd, hs, _, by rw [upd_ne (ne_of e1 hv (by intro z; cases z))]; exact e1, st.sq e2, dp_monoAll st _ _ t1 e3, upd_same, dpAll_app (dp_monoAll st _ _ t2 e5) (.cons (dp_mono st _ _ tx hx) .nil), t1, tupled_app t2 (show (tupled x && true) = true by rw [tx] <;> rfl)⟩, n1, BlksAt.kp k st (lst_noBlk hv) nm'.1 rest⟩, h.nd, h.out, nmT_lst h.nt hv⟩
/-- the innermost block is taken off -/
theorem PPx.pop {K : PySem.W.Frag} {H0 H : Hp} {p nm dx bl a il : Addr} {names : List Str} {B : Blk} {Bs : List Blk} {c : Nat} {as ils : List Addr} (h : PPx K H0 H p nm names ⟨B :: Bs, c⟩ dx bl (a :: as) (il :: ils)) :
    PPx K H0 (upd H bl (.lst (as.map V.ref).reverse)) p nm names ⟨Bs, c⟩ dx bl as ils ∧ BlkAt K (upd H bl (.lst (as.map V.ref).reverse)) a il B := by
  have st : SameT H (upd H bl (.lst (as.map V.ref).reverse)) := sameT_lst h.hb
  have k : Kp bl H (upd H bl (.lst (as.map V.ref).reverse)) := Kf.upd rfl
  obtain ⟨h1, n1, rest⟩ := h.bs
  have ho := h.out
  refine ⟨⟨by rw [upd_ne (ne_of h.hp h.hb (by intro z; cases z))]; exact h.hp, h.np, upd_same, h.nb, BlksAt.kp k st (lst_noBlk h.hb) (fun z => ho (List.mem_cons_of_mem _ z)) rest, (List.nodup_cons.mp h.nd).2, fun z => ho (List.mem_cons_of_mem _ z), nmT_lst h.nt h.hb⟩, h1.kp k st ?_ (fun z => ho (by rw [z]; exact List.mem_cons_self ..))⟩
  obtain ⟨dxb, hd, hs, vs', e1, _⟩ := h1
  exact ne_of e1 h.hb (by intro z; cases z)
/-- a new block is put on -/
theorem PPx.push {K : PySem.W.Frag} {H0 H : Hp} {p nm dx bl a il : Addr} {names : List Str} {B : Blk} {Bs : List Blk} {c : Nat} {as ils : List Addr} (h : PPx K H0 H p nm names ⟨Bs, c⟩ dx bl as ils) (hB : BlkAt K H a il B) (n : H0 il = none) (ni : il ∉ ils) (nb : il ≠ bl) :
    PPx K H0 (upd H bl (.lst ((as.map V.ref).reverse ++ [.ref a]))) p nm names ⟨B :: Bs, c⟩ dx bl (a :: as) (il :: ils) := by
  have st : SameT H (upd H bl (.lst ((as.map V.ref).reverse ++ [.ref a]))) := sameT_lst h.hb
  have k : Kp bl H (upd H bl (.lst ((as.map V.ref).reverse ++ [.ref a]))) := Kf.upd rfl
  refine ⟨by rw [upd_ne (ne_of h.hp h.hb (by intro z; cases z))]; exact h.hp, h.np, by rw [upd_same, List.map_cons, List.reverse_cons], h.nb, ⟨hB.kp k st ?_ nb, n, BlksAt.kp k st (lst_noBlk h.hb) h.out h.bs⟩, List.nodup_cons.mpr ⟨ni, h.nd⟩, fun z => ?_, nmT_lst h.nt h.hb⟩
  · obtain ⟨dxb, hd, hs, vs', e1, _⟩ := hB
    exact ne_of e1 h.hb (by intro z; cases z)
  · rcases List.mem_cons.mp z with e | z
    · exact nb e.symm
    · exact h.out z
/-- how a problem leaves when nothing of H0 has been changed -/
def BadS (K : PySem.W.Frag) (H0 : Hp) (E : XK) (l c : Nat) : Prop := ∀ d H', Same H0 H' → H' d = some (.xd (synF l c)) → E (.ref (cSyn K)) (some d) H'
theorem same_kp {H0 H H' : Hp} {q : Addr} (s : Same H0 H) (n : H0 q = none) (k : Kp q H H') : Same H0 H' := fun b o e => k b o (ne_of_none e n) (s b o e)
theorem same_updN {H0 H : Hp} {q : Addr} {u : HO} (s : Same H0 H) (n : H0 q = none) : Same H0 (upd H q u) := fun b o e => by
  rw [upd_ne (ne_of_none e n)]
  exact s b o e
theorem none_same {H0 H : Hp} {a : Addr} (s : Same H0 H) (n : H a = none) : H0 a = none := by
  cases e : H0 a with
  | none => rfl
  | some o =>
    have := s _ _ e
    rw [n] at this; cases this
theorem BadS.kp {K : PySem.W.Frag} {H0 H : Hp} {E : XK} {l c : Nat} {q : Addr} (b : BadS K H0 E l c) (s : Same H0 H) (n : H0 q = none) : BadP K q H E l c := fun d H' k e => b d H' (same_kp s n k) e
theorem BadS.to {K : PySem.W.Frag} {H0 H1 : Hp} {E : XK} {l c : Nat} (b : BadS K H0 E l c) (s : Same H0 H1) : BadS K H1 E l c := fun d H' s' e => b d H' (s.trans s') e
end Kw

set_option Elab.async false
set_option linter.all false
set_option maxRecDepth 100000
set_option maxHeartbeats 4000000
namespace Kw
open PySem PySem.Spec PyProof.Rows L2
local macro_rules | `(tactic| walk_at $s:str) => do
  match s.getString.splitOn " " with
  | ["new", a] =>
    let p := Lean.mkIdent (Lean.Name.mkSimple ("p" ++ a))
    let n := Lean.mkIdent (Lean.Name.mkSimple ("n" ++ a))
    let H := Lean.mkIdent (Lean.Name.mkSimple ("H" ++ a))
    let s := Lean.mkIdent (Lean.Name.mkSimple ("s" ++ a))
    let h := Lean.mkIdent (Lean.Name.mkSimple ("h" ++ a))
    `(tactic| (intro $p $n; generalize e : upd _ $p _ = $H; have $s : Same _ $H := e ▸ same_new $n; have $h : $H $p = some _ := e ▸ upd_same; clear e))
  | _ => Lean.Macro.throwUnsupported
def spBlkInit (K : PySem.W.Frag) : Sp := fun vs H Q _ => ∃ (p dx hd : Addr) (r : Nat), vs = [.ref p, .ref hd, .int r] ∧ H p = some (.ins (He.ga K "Block") dx []) ∧
  ∀ il H', H il = none → H' p = some (.ins (He.ga K "Block") dx (blkF hd il r)) → H' il = some (.lst []) → (∀ b o, b ≠ p → H b = some o → H' b = some o) → Q .non H'
def spPPInit (K : PySem.W.Frag) : Sp := fun vs H Q _ => ∃ (p dx nm : Addr) (names : List Str) (H0 : Hp), vs = [.ref p, .ref nm] ∧ H p = some (.ins (He.ga K "ProgramParser") dx []) ∧ H0 p = none ∧ Same H0 H ∧ NmT H nm (names.map V.str) ∧
  ∀ H', Same H0 H' → PPAt K H0 H' p nm names ⟨[⟨[], 1, []⟩], 0⟩ → Q .non H'
def spOpen (K : PySem.W.Frag) : Sp := fun vs H Q E => ∃ (p lp a nm : Addr) (names : List Str) (S : PS) (U : LS) (t : Tk) (H0 : Hp), vs = [.ref p, .ref lp, .ref a] ∧ Same H0 H ∧ PPAt K H0 H p nm names S ∧ PSok S ∧ LPAt K H lp U ∧ LsOk U ∧ U.idx = 0 ∧ H0 lp = none ∧ TkAt K H a t ∧
  U.ts[0]? = some t ∧ t.kind ≠ "end of line" ∧
  (match openM U.ts S.blks with
    | .error c => BadS K H0 E U.num c
    | .ok (h, r) => ∀ H', Same H0 H' → PPAt K H0 H' p nm names ⟨⟨h, r, []⟩ :: S.blks, S.count⟩ → Q .non H')
def spRead (K : PySem.W.Frag) : Sp := fun vs H Q E => ∃ (p nm : Addr) (z : Str) (num : Nat) (names : List Str) (S : PS) (H0 : Hp), vs = [.ref p, .str z, .int num] ∧ Same H0 H ∧ PPAt K H0 H p nm names S ∧ PSok S ∧ names.length ≤ 4 ∧ num < 1000000 ∧ (tl z).length ≤ 100000 ∧
  (match readM names S z with
    | .error c => BadS K H0 E num c
    | .ok S' => ∀ H', Same H0 H' → PPAt K H0 H' p nm names S' → Q .non H')
def spFin (K : PySem.W.Frag) : Sp := fun vs H Q E => ∃ (p nm : Addr) (n : Nat) (names : List Str) (S : PS) (H0 : Hp), vs = [.ref p, .int n] ∧ Same H0 H ∧ PPAt K H0 H p nm names S ∧ PSok S ∧ n < 900000 ∧
  (if 1 < S.blks.length then BadS K H0 E (n + 1) 1 else ∀ v H', Same H H' → Dp K H' v (.tuple ((S.blks.head?.map (·.inner)).getD [])) → Q v H')
theorem last_at {α : Type} (f : α → V) (a : α) (l : List α) : atI (((a :: l).map f).reverse) (-1) = some (f a) := by
  unfold atI ixN
  rw [if_neg (by omega), if_pos (by rw [List.length_reverse, List.length_map, List.length_cons]; omega)]
  have e : ((-1 : Int) + ((((a :: l).map f).reverse.length : Nat) : Int)).toNat = l.length := by
    rw [List.length_reverse, List.length_map, List.length_cons]
    omega
  rw [e]
  show (((a :: l).map f).reverse)[l.length]? = _
  rw [List.map_cons, List.reverse_cons, List.getElem?_append_right (by rw [List.length_reverse, List.length_map] <;> exact Nat.le_refl _), List.length_reverse, List.length_map, Nat.sub_self] <;> rfl
theorem blks_cons {K : PySem.W.Frag} {H0 H : Hp} {as ils : List Addr} {bs : List Blk} (h : bs ≠ []) (b : BlksAt K H0 H as ils bs) : ∃ B Bs a as' il ils', bs = B :: Bs ∧ as = a :: as' ∧ ils = il :: ils' := by
  match as, ils, bs, h, b with
  | _, _, [], h, _ => exact absurd rfl h
  | a :: as, il :: ils, B :: Bs, _, _ => exact ⟨B, Bs, a, as, il, ils, rfl, rfl, rfl⟩
  | [], [], _ :: _, _, b => exact b.elim
  | [], _ :: _, _ :: _, _, b => exact b.elim
  | _ :: _, [], _ :: _, _, b => exact b.elim
theorem mulmax (r n : Nat) : (r : Int) * (if (n : Int) > 1 then (n : Int) else 1) = ((r * max 1 n : Nat) : Int) := by
  by_cases c : n ≤ 1
  · rw [if_neg (by omega), Nat.max_eq_left c]
    simp
  · rw [if_pos (by omega), Nat.max_eq_right (by omega)]
    simp
section
variable {P : Program} {w : World} {K : PySem.W.Frag} {mg : Str → Option Value} {base : Heap}
abbrev N_Block_init : List Str := ["self", "head", "rounds"]
theorem sc_Block_init : FnScope N_Block_init ["self", "head", "rounds"] (defScope s_Block_init) := ⟨rfl, rfl, rfl, by decide +kernel, rfl, by decide +kernel, by decide +kernel⟩
theorem b_Block_init (T : Tx K mg) : Binds K T.fd_Block_init ["self", "head", "rounds"] [] := T.F_Block_init.bindsN fun _ _ _ _ _ _ us hl => match us, hl with | [_, _, _], _ => rfl
theorem ok_Block_init (T : Tx K mg) : FnOk P w K mg base CX0 1 (He.ma K (He.ga K "Block") "__init__") T.fd_Block_init ["self", "head", "rounds"] (spBlkInit K) := by
  refine T.F_Block_init.ok sc_Block_init (fun vs H Q E h => ?_) (fun cdv A outer s H vs Q E hr h => ?_)
  · obtain ⟨p, dx, hd, r, rfl, _⟩ := h
    rfl
  obtain ⟨p, dx, hd, r, rfl, hp, q⟩ := h
  refine ⟨_, PSs.nox (pss_cons (ps_fld (pv 0) (pv 1) rfl)
      (pss_cons (ps_fld (pv 0) (pv 2) rfl)
      (pss_one (ps_fld (pv 0) (pe_lst pa_nil) rfl)))), ?_⟩
  refine ⟨_, rfl, _, rfl, p, _, dx, _, rfl, hp, T.cl_Block, T.na_Block_head, (by decide), ?_⟩
  refine ⟨_, rfl, _, rfl, p, _, dx, _, rfl, upd_same, T.cl_Block, T.na_Block_rounds, (by show 1 < 1000; decide), ?_⟩
  rw [upd_upd]
  refine ⟨sz 0, ?_⟩
  intro il nil
  have np : il ≠ p := fun e => by rw [e, upd_same] at nil; cases nil
  have nH : H il = none := by rw [upd_ne np] at nil; exact nil
  refine ⟨_, rfl, p, _, dx, _, rfl, by rw [upd_ne np.symm]; exact upd_same, T.cl_Block, T.na_Block_inner, (by show 2 < 1000; decide), ?_⟩
  refine q il _ nH upd_same (by rw [upd_ne np, upd_same]) fun b o hb e => ?_
  rw [upd_ne hb, upd_ne (ne_of_none e nH), upd_ne hb]
  exact e
/-- a new block -/
theorem make_blk {H : Hp} {E : XK} {hd : Addr} {r : Nat} {G : Addr → Hp → Prop} (q : ∀ a dx il H', Same H H' → H a = none → H il = none → H' a = some (.ins (He.ga K "Block") dx (blkF hd il r)) → H' il = some (.lst []) → G a H') :
    ∀ x dx, H x = none → H dx = none → dx ≠ x → spBlkInit K (.ref x :: ([.ref hd, .int r] ++ [])) (upd (upd H dx (.own x)) x (.ins (He.ga K "Block") dx [])) (fun v H2 => v = .non ∧ G x H2) E := by
  intro x dx nx ndx ne
  refine ⟨x, dx, hd, r, rfl, upd_same, fun il H' nil e1 e2 k => ⟨rfl, q x dx il H' (fun b o z => ?_) nx ?_ e1 e2⟩⟩
  · have h1 : b ≠ x := ne_of_none z nx
    exact k b o h1 (by rw [upd_ne h1, upd_ne (ne_of_none z ndx)]; exact z)
  · cases e9 : H il with
    | none => rfl
    | some o =>
      rw [upd_ne (ne_of_none e9 nx), upd_ne (ne_of_none e9 ndx), e9] at nil
      cases nil
abbrev N_ProgramParser_init : List Str := ["self", "names"]
theorem sc_ProgramParser_init : FnScope N_ProgramParser_init ["self", "names"] (defScope s_ProgramParser_init) := ⟨rfl, rfl, rfl, by decide +kernel, rfl, by decide +kernel, by decide +kernel⟩
theorem b_ProgramParser_init (T : Tx K mg) : Binds K T.fd_ProgramParser_init ["self", "names"] [] := T.F_ProgramParser_init.bindsN fun _ _ _ _ _ _ us hl => match us, hl with | [_, _], _ => rfl
theorem ok_ProgramParser_init (T : Tx K mg) : FnOk P w K mg base CX0 3 (He.ma K (He.ga K "ProgramParser") "__init__") T.fd_ProgramParser_init ["self", "names"] (spPPInit K) := by
  refine T.F_ProgramParser_init.ok sc_ProgramParser_init (fun vs H Q E h => ?_) (fun cdv A outer s H vs Q E hr h => ?_)
  · obtain ⟨p, dx, nm, names, H0, rfl, _⟩ := h
    rfl
  obtain ⟨p, dx, nm, names, H0, rfl, hp, np, s0, hN, q⟩ := h
  refine ⟨_, PSs.nox (pss_cons (ps_fld (pv 0) (pv 1) rfl)
      (pss_cons (ps_fld (pv 0) (pe_lst (pa_cons (pe_make T.mk_Block (ok_Block_init T) (hr.mono (by decide)) rfl T.g_Block (b_Block_init T) .nil pass0 (pa_cons (pe_tup pa_nil) (pa_cons pe_int pa_nil))) pa_nil)) rfl)
      (pss_one (ps_fld (pv 0) pe_int rfl)))), ?_⟩
  refine ⟨_, rfl, _, rfl, p, _, dx, _, rfl, hp, T.cl_ProgramParser, T.na_ProgramParser_names, (by decide), ?_⟩
  have k1 : Kp p H (upd H p (.ins (He.ga K "ProgramParser") dx (putF "names" (.ref nm) []))) := Kf.upd rfl
  have hN1 := hN.kp k1 ⟨_, dx, _, hp⟩
  have s1 := same_kp s0 np k1
  have h1 : upd H p (.ins (He.ga K "ProgramParser") dx (putF "names" (.ref nm) [])) p = some (.ins (He.ga K "ProgramParser") dx [("names", .ref nm)]) := upd_same
  generalize upd H p (.ins (He.ga K "ProgramParser") dx (putF "names" (.ref nm) [])) = H1 at k1 hN1 s1 h1
  refine ⟨sz 0, ?_⟩
  walk_at "new 2"
  refine make_blk (r := 1) fun a dxb il H3 s3 na nil e1 e2 => ?_
  refine ⟨sz 1, ?_⟩
  walk_at "new 4"
  have t4 := s4 _ _ (s3 _ _ (s2 _ _ h1))
  refine ⟨_, rfl, p, _, dx, _, rfl, t4, T.cl_ProgramParser, T.na_ProgramParser_blocks, (by show 1 < 1000; decide), ?_⟩
  refine ⟨_, rfl, p, _, dx, _, rfl, upd_same, T.cl_ProgramParser, T.na_ProgramParser_count, (by show 2 < 1000; decide), ?_⟩
  rw [upd_upd]
  have k5 : Kp p H4 (upd H4 p (.ins (He.ga K "ProgramParser") dx (ppF nm p4 0))) := Kf.upd rfl
  have i4 : Ins H4 p := ⟨_, dx, _, t4⟩
  have s04 := ((s1.trans s2).trans s3).trans s4
  have nil0 : H0 il = none := none_same (s1.trans s2) nil
  have n40 : H0 p4 = none := none_same ((s1.trans s2).trans s3) n4
  have ilp : il ≠ p := fun e => by rw [e, s2 _ _ h1] at nil; cases nil
  have ap : a ≠ p := fun e => by rw [e, s2 _ _ h1] at na; cases na
  have il4 : il ≠ p4 := fun e => by rw [← e, e2] at n4; cases n4
  refine q _ (same_kp s04 np k5) ⟨dx, p4, [a], [il], upd_same, np, kp_lst k5 i4 h4, n40, ⟨⟨dxb, p2, [], [], k5 _ _ ap (s4 _ _ e1), kp_T k5 i4 (.of (s4 _ _ (s3 _ _ h2))), .nil, k5 _ _ ilp (s4 _ _ e2), .nil, rfl, rfl⟩, nil0, trivial⟩, List.nodup_cons.mpr ⟨(fun z => by cases z), List.nodup_nil⟩, fun z => il4 (List.mem_singleton.mp z).symm, (((hN1.same s2).same s3).same s4).kp k5 i4⟩
/-- a new program's parser -/
theorem make_pp {H H0 : Hp} {E : XK} {nm : Addr} {names : List Str} {G : Addr → Hp → Prop} (s0 : Same H0 H) (hN : NmT H nm (names.map V.str)) (q : ∀ a H', Same H0 H' → PPAt K H0 H' a nm names ⟨[⟨[], 1, []⟩], 0⟩ → G a H') :
    ∀ x dx, H x = none → H dx = none → dx ≠ x → spPPInit K (.ref x :: ([.ref nm] ++ [])) (upd (upd H dx (.own x)) x (.ins (He.ga K "ProgramParser") dx [])) (fun v H2 => v = .non ∧ G x H2) E := by
  intro x dx nx ndx ne
  have sx : Same H (upd (upd H dx (.own x)) x (.ins (He.ga K "ProgramParser") dx [])) := fun b o z => by
    rw [upd_ne (ne_of_none z nx), upd_ne (ne_of_none z ndx)]
    exact z
  exact ⟨x, dx, nm, names, H0, rfl, upd_same, none_same s0 nx, s0.trans sx, hN.same sx, fun H' s l => ⟨rfl, q x H' s l⟩⟩
abbrev N_ProgramParser_open_block : List Str := ["self", "parser", "first", "word", "head", "rounds", "count"]
theorem sc_ProgramParser_open_block : FnScope N_ProgramParser_open_block ["self", "parser", "first"] (defScope s_ProgramParser_open_block) := ⟨rfl, rfl, rfl, by decide +kernel, rfl, by decide +kernel, by decide +kernel⟩
theorem b_ProgramParser_open_block (T : Tx K mg) : Binds K T.fd_ProgramParser_open_block ["self", "parser", "first"] [] := T.F_ProgramParser_open_block.bindsN fun _ _ _ _ _ _ us hl => match us, hl with | [_, _, _], _ => rfl
theorem ok_ProgramParser_open_block (T : Tx K mg) : FnOk P w K mg base (L2.CX P w) 10 (He.ma K (He.ga K "ProgramParser") "open_block") T.fd_ProgramParser_open_block ["self", "parser", "first"] (spOpen K) := by
  refine T.F_ProgramParser_open_block.ok sc_ProgramParser_open_block (fun vs H Q E h => ?_) (fun cdv A outer s H vs Q E hr h => ?_)
  · obtain ⟨p, lp, a, nm, names, S, U, t, H0, rfl, _⟩ := h
    rfl
  obtain ⟨p, lp, a, nm, names, ⟨blks, cnt⟩, U, t, H0, rfl, s0, ⟨dx, bl, as, ils, X⟩, pok, hU, ok, u0, nlp, hk, ht, tend, q⟩ := h
  obtain ⟨B, Bs, a0, as, il0, ils, rfl, rfl, rfl⟩ := blks_cons pok.ne X.bs
  have tk0 : Takes (cxOf (L2.CX P w) P w K mg base N_ProgramParser_open_block "ProgramParser.open_block" (defScope s_ProgramParser_open_block) (He.ma K (He.ga K "ProgramParser") "open_block") cdv A outer s H E) (fun cls d _ H => E cls d H) := takes_of rfl rfl rfl rfl
  refine ⟨_, (pss_cons (ps_set (i := 3) sc_ProgramParser_open_block.nd rfl (Or.inl rfl) (pe_meth (pv 1) T.cl_LineParser T.me_LineParser_accept (ok_LineParser_accept T) (hr.mono (by decide)) (b_LineParser_accept T) .nil pass0 (pa_cons pe_str (pa_cons (pe_tup (pa_cons pe_str (pa_cons pe_str (pa_cons pe_str pa_nil)))) pa_nil))))
      (pss_cons (ps_if (PW.pt (pw_or (pt_cmpR (op_isN) (pv 3) pe_non (nomark _)) (pw_or1 (pt_cmpR (op_gt) (pe_callB (call_lenQ (K := K) rfl) rfl T.z_len PySem.boot_len (pa_cons (pe_fldK (K := K) (pv 0) rfl rfl) pa_nil)) (pe_gv rfl T.c_MAX_DEPTH) (nomark _))))) (pss_one (ps_expr (pe_meth (pv 1) T.cl_LineParser T.me_LineParser_fail (ok_LineParser_fail T) (hr.mono (by decide)) (b_LineParser_fail T) .nil (passes_call tk0 fun _ _ _ _ h => h) (pa_cons (pv 2) pa_nil)))) pss_nil)
      (pss_cons (ps_set (i := 4) sc_ProgramParser_open_block.nd rfl (Or.inl rfl) (pe_tup (pa_cons (pe_fldK (K := K) (pv 3) rfl rfl) pa_nil)))
      (pss_cons (ps_set (i := 5) sc_ProgramParser_open_block.nd rfl (Or.inl rfl) (pe_fldK (K := K) (pe_ix (r := rIxL K) ix_list (pe_fldK (K := K) (pv 0) rfl rfl) (pe_un un_neg pe_int) (fun _ _ => rfl)) rfl rfl))
      (pss_cons (ps_if (pt_cmpR (op_eq) (pe_fldK (K := K) (pv 3) rfl rfl) pe_str (nomark _)) (pss_cons (ps_set (i := 6) sc_ProgramParser_open_block.nd rfl (Or.inl rfl) (pe_meth (pv 1) T.cl_LineParser T.me_LineParser_count_of_rounds (ok_LineParser_count_of_rounds T) (hr.mono (by decide)) (b_LineParser_count_of_rounds T) .nil (passes_call tk0 fun _ _ _ _ h => h) (pa_cons (pv 5) pa_nil)))
      (pss_cons (ps_set (i := 4) sc_ProgramParser_open_block.nd rfl (Or.inl rfl) (pe_tup (pa_cons pe_str (pa_cons (pv 6) pa_nil))))
      (pss_one (ps_aug (i := 5) sc_ProgramParser_open_block.nd rfl (Or.inl rfl) (pe_callB (call_max2 rfl) rfl T.z_max (by decide +kernel) (pa_cons pe_int (pa_cons (pv 6) pa_nil))) iop_mul)))) (pss_one (ps_expr (pe_meth (pv 1) T.cl_LineParser T.me_LineParser_take (ok_LineParser_take T) (hr.mono (by decide)) (b_take1 T) (v_take1 T) (passes_call tk0 fun _ _ _ _ h => h) (pa_cons (pe_gv rfl T.c_END) pa_nil)))))
      (pss_one (ps_expr (pe_bm PySem.F.plainAttrs_list PySem.F.slot_list_append PySem.F.type_list_append mt_append (pe_fldK (K := K) (pv 0) rfl rfl) (pa_cons (pe_make T.mk_Block (ok_Block_init T) (hr.mono (by decide)) rfl T.g_Block (b_Block_init T) .nil pass0 (pa_cons (pv 4) (pa_cons (pv 5) pa_nil))) pa_nil))))))))), ?_⟩
  have tc : t.col < 1000000 := ok.ts.col t (List.mem_of_getElem? ht)
  have hi1 : 0 + 1 < U.ts.length := ok.ts.fin 0 t ht tend
  unfold openM at q
  rw [ht] at q
  simp only at q
  obtain ⟨dy, tla, hp, hts, hn⟩ := id hU
  refine ⟨_, rfl, lp, dy, _, rfl, hp, rfl, sz 3, ?_⟩
  walk_at "new 1"
  dsimp only [tNil]
  refine ⟨lp, p1, U, t, "word", ["repeat", "forever", "mean"], rfl, hU.same s1, by rw [u0]; exact ht, .of h1, ?_⟩
  have s01 := s0.trans s1
  have X1 := X.same s1
  by_cases e1 : acOk "word" ["repeat", "forever", "mean"] t = true
  case neg =>
    rw [if_neg e1]
    rw [if_neg (fun z => e1 z.1)] at q
    refine ⟨_, rfl, rfl, _, rfl, ifT rfl (ifT rfl ?_)⟩
    exact ⟨_, rfl, lp, dy, _, rfl, s1 _ _ hp, rfl, _, rfl, lp, a, U, t, rfl, hU.same s1, ok, hk.same s1, tc, BadS.kp q s01 nlp⟩
  rw [if_pos e1]
  intro wa H2 k2 l2 wk
  have X2 := X1.kp (hU.same s1) k2
  have s2 := same_kp s01 nlp k2
  have hk2 := (hk.same s1).kp (hU.same s1) k2
  obtain ⟨dx2, tla2, hp2, _⟩ := id l2
  obtain ⟨dw, hw⟩ := id wk
  refine ⟨_, rfl, rfl, _, rfl, ifF rfl ?_⟩
  have bl5 : ((a0 :: as).map V.ref).reverse.length = (B :: Bs).length := by rw [List.length_reverse, List.length_map, X.bs.len.1]
  refine ⟨_, rfl, p, _, dx, _, _, rfl, X2.hp, T.cl_ProgramParser, T.na_ProgramParser_blocks, rfl, bl, _, rfl, .inl (.of X2.hb), ?_⟩
  rw [bl5]
  refine ⟨_, _, rfl, rfl, _, rfl, ?_⟩
  by_cases e2 : (B :: Bs).length ≤ 4
  case neg =>
    rw [if_neg (fun z => e2 z.2)] at q
    refine ifT (decide_eq_true (show (4 : Int) < (((B :: Bs).length : Nat) : Int) by omega)) ?_
    exact ⟨_, rfl, lp, dx2, _, rfl, hp2, rfl, _, rfl, lp, a, _, t, rfl, l2, ok.eq rfl rfl rfl, hk2, tc, BadS.kp q s2 nlp⟩
  rw [if_pos ⟨e1, e2⟩] at q
  refine ifF (decide_eq_false (show ¬ (4 : Int) < (((B :: Bs).length : Nat) : Int) by omega)) ?_
  refine ⟨_, rfl, wa, _, dw, _, _, rfl, hw, T.cl_Token, T.na_Token_spelling, rfl, sz 1, ?_⟩
  walk_at "new 3"
  have X3 := X2.same s3
  have s03 := s2.trans s3
  obtain ⟨⟨dxb, hdb, hsb, vsb, b1, _⟩, _⟩ := X3.bs
  refine ⟨_, rfl, p, _, dx, _, _, rfl, X3.hp, T.cl_ProgramParser, T.na_ProgramParser_blocks, rfl, _, rfl, bl, _, _, _, rfl, rfl, .of X3.hb, last_at V.ref a0 as, a0, _, dxb, _, _, rfl, b1, T.cl_Block, T.na_Block_rounds, rfl, ?_⟩
  refine ⟨_, rfl, wa, _, dw, _, _, rfl, s3 _ _ hw, T.cl_Token, T.na_Token_spelling, rfl, rfl, _, rfl, ?_⟩
  have l3 := l2.same s3
  obtain ⟨dx3, tla3, hp3, _⟩ := id l3
  obtain ⟨u, hu⟩ : ∃ u, U.ts[1]? = some u := ⟨_, List.getElem?_eq_getElem hi1⟩
  have hu' : U.ts[U.idx + 1]? = some u := by rw [u0]; exact hu
  have rb : B.rounds ≤ 50 := pok.rounds B (List.mem_cons_self ..)
  by_cases e3 : t.text = "repeat"
  case' pos =>
    rw [if_pos e3, hu] at q
    simp only at q
    refine ifT (by simp [e3]) ?_
    refine ⟨_, rfl, lp, dx3, _, rfl, hp3, rfl, _, rfl, lp, _, u, B.rounds, rfl, l3, ok.eq rfl rfl rfl, hu', by omega, ?_⟩
    by_cases e4 : ¬ (u.kind = "number" ∧ numV u * B.rounds ≤ 50)
    · rw [if_neg (show ¬ (u.kind = "number" ∧ numV u * topR (B :: Bs) ≤ 50) from e4)] at q
      rw [if_neg e4]
      exact BadS.kp q s03 nlp
    have e4 := Classical.not_not.mp e4
    rw [if_pos (show u.kind = "number" ∧ numV u * topR (B :: Bs) ≤ 50 from e4)] at q
    rw [show topR (B :: Bs) = B.rounds from rfl] at q
    rw [if_pos e4]
    obtain ⟨u2, hu2⟩ : ∃ u2, U.ts[2]? = some u2 := ⟨_, List.getElem?_eq_getElem (ok.ts.fin 1 u hu (by rw [e4.1]; decide +kernel))⟩
    refine ⟨u2, by show U.ts[U.idx + 1 + 1]? = _; rw [u0]; exact hu2, ?_⟩
    rw [takeM_eq hu2] at q
    by_cases e5 : ¬ (u2.kind = "end of line")
    · rw [if_neg (by simp [tkOk, e5])] at q
      rw [if_neg e5]
      exact BadS.kp q s03 nlp
    have e5 := Classical.not_not.mp e5
    rw [if_pos (by simp [tkOk, e5])] at q
    rw [if_pos e5]
    simp only at q
    intro H4 k4 l4
    have X4 := X3.kp l3 k4
    have s04 := same_kp s03 nlp k4
    refine ⟨_, rfl, sz 2, ?_⟩
    walk_at "new 5"
    have dph : DpAll K H5 [V.str "repeat", .int (numV u)] [.str "repeat", .int (numV u)] := .cons (.str _) (.cons (.int _) .nil)
    have n0 : numV u ≤ 1000000 := by
      have := (numV_ok ok.ts (List.mem_of_getElem? hu) e4.1).2.1
      omega
    refine ⟨_, rfl, _, rfl, _, _, rfl, (B.rounds : Int), (if ((numV u : Nat) : Int) > 1 then ((numV u : Nat) : Int) else 1), rfl, rfl, .inl ⟨by omega, by omega⟩, ?_⟩
    simp only [mulmax]
    have hdt : tupled.go [PyData.str "repeat", .int (numV u)] = true := rfl
    have X5 := X4.same s5
    have s05 := s04.trans s5
    have sq5 : SqT K H5 p5 _ := .of h5
    generalize B.rounds * max 1 (numV u) = rr at *
  case' neg =>
    rw [if_neg e3] at q
    refine ifF (by simp [e3]) ?_
    rw [takeM_eq hu] at q
    refine ⟨_, rfl, lp, dx3, _, rfl, hp3, rfl, lp, _, u, "end of line", none, rfl, l3, ok.eq rfl rfl rfl, hu', ?_⟩
    by_cases e5 : ¬ (tkOk "end of line" none u = true)
    · rw [if_neg e5] at q
      rw [if_neg e5]
      exact BadS.kp q s03 nlp
    have e5 := Classical.not_not.mp e5
    rw [if_pos e5] at q
    rw [if_pos e5]
    simp only at q
    intro b4 H4 k4 l4 _
    have X4 := X3.kp l3 k4
    have s04 := same_kp s03 nlp k4
    have sq5 := kp_T (K := K) k4 l3.ins (.of h3)
    have X5 := X4
    have s05 := s04
    have dph : DpAll K H4 [V.str t.text] [.str t.text] := .cons (.str _) .nil
    have hdt : tupled.go [PyData.str t.text] = true := rfl
  all_goals
    have bl5 : ((a0 :: as).map V.ref).reverse.length = (B :: Bs).length := by rw [List.length_reverse, List.length_map, X.bs.len.1]
    refine ⟨_, rfl, p, _, dx, _, _, rfl, X5.hp, T.cl_ProgramParser, T.na_ProgramParser_blocks, rfl, .inl ⟨rfl, _, .inl (.inl X5.hb)⟩, _, rfl, _, rfl, ?_⟩
    refine make_blk fun a6 dx6 il6 H6 s6 na6 nil6 e6 e7 => ?_
    have X6 := X5.same s6
    refine ⟨bl, _, _, rfl, rfl, X6.hb, szl _ (by rw [bl5]; omega), ?_⟩
    have nbl : il6 ≠ bl := fun z => by rw [z, X5.hb] at nil6; cases nil6
    exact q _ (same_updN (s05.trans s6) X.nb) ⟨dx, bl, _, _, X6.push ⟨dx6, _, _, [], e6, sameT s6 sq5, dp_monoAll (Same.tups s6) _ _ hdt dph, e7, .nil, hdt, rfl⟩ (none_same s05 nil6) (BlksAt.new nil6 X5.bs) nbl⟩
theorem key_kn : ¬ (("kind" : Str) = "names") := by decide +kernel
/-- the program's parser q is stored anew -/
theorem LPAt.pp {H H' : Hp} {q lp C dx nm bl : Addr} {c : Nat} {U : LS} (l : LPAt K H lp U) (h : H q = some (.ins C dx (ppF nm bl c))) (k : Kp q H H') : LPAt K H' lp U ∧ ∀ a t, TkAt K H a t → TkAt K H' a t := by
  have i : Ins H q := ⟨_, _, _, h⟩
  have ht : ∀ a t, TkAt K H a t → TkAt K H' a t := fun a t ⟨dy, e⟩ => ⟨dy, k _ _ (by
    rintro rfl
    rw [h] at e
    have e1 := (HO.ins.inj (Option.some.inj e)).2.2
    exact key_kn (Prod.mk.inj (List.cons.inj e1).1).1.symm) e⟩
  obtain ⟨dy, tla, e, ⟨as, e1, e2, e3⟩, hn, et⟩ := l
  refine ⟨⟨dy, tla, k _ _ ?_ e, ⟨as, kp_lst k i e1, e2, fun i b t q1 q2 => ht b t (e3 i b t q1 q2)⟩, hn.kp i k, et⟩, ht⟩
  rintro rfl
  rw [h] at e
  have e1 := (HO.ins.inj (Option.some.inj e)).2.2
  exact key_nn (Prod.mk.inj (List.cons.inj e1).1).1
theorem get_last {α : Type} (f : α → V) (a : α) (l : List α) : (((a :: l).map f).reverse)[(((a :: l).map f).reverse).length - 1]? = some (f a) := by
  rw [List.map_cons, List.reverse_cons, List.length_append, List.length_singleton, Nat.add_sub_cancel, List.getElem?_append_right (Nat.le_refl _), Nat.sub_self] <;> rfl
theorem drop_last {α : Type} (f : α → V) (a : α) (l : List α) : (((a :: l).map f).reverse).dropLast = (l.map f).reverse := by
  rw [List.map_cons, List.reverse_cons, List.dropLast_concat]
theorem inner_le {B : Blk} {Bs : List Blk} {c : Nat} (h : PSok ⟨B :: Bs, c⟩) : B.inner.length ≤ 31 := by
  have h1 := h.tot
  have h2 := h.count
  have h1 : B.inner.length + 1 + tot Bs ≤ c + 1 := h1
  have h2 : c ≤ 30 := h2
  omega
theorem dpAll_sz {H : Hp} {vs : List V} {ds : List PyData} (h : DpAll K H vs ds) (l : ds.length ≤ 31) : vs.length < sizeLine := szl _ (by rw [dpAll_len h]; omega)
abbrev N_ProgramParser_read_line : List Str := ["self", "line", "number", "parser", "first", "block"]
theorem sc_ProgramParser_read_line : FnScope N_ProgramParser_read_line ["self", "line", "number"] (defScope s_ProgramParser_read_line) := ⟨rfl, rfl, rfl, by decide +kernel, rfl, by decide +kernel, by decide +kernel⟩
theorem b_ProgramParser_read_line (T : Tx K mg) : Binds K T.fd_ProgramParser_read_line ["self", "line", "number"] [] := T.F_ProgramParser_read_line.bindsN fun _ _ _ _ _ _ us hl => match us, hl with | [_, _, _], _ => rfl
theorem ok_ProgramParser_read_line (T : Tx K mg) : FnOk P w K mg base (L2.CX P w) 76 (He.ma K (He.ga K "ProgramParser") "read_line") T.fd_ProgramParser_read_line ["self", "line", "number"] (spRead K) := by
  refine T.F_ProgramParser_read_line.ok sc_ProgramParser_read_line (fun vs H Q E h => ?_) (fun cdv A outer s H vs Q E hr h => ?_)
  · obtain ⟨p, nm, z, num, names, S, H0, rfl, _⟩ := h
    rfl
  obtain ⟨p, nm, z, num, names, ⟨blks, cnt⟩, H0, rfl, s0, ⟨dx, bl, as, ils, X⟩, pok, nl, hnum, hz, q⟩ := h
  obtain ⟨B, Bs, a0, as, il0, ils, rfl, rfl, rfl⟩ := blks_cons pok.ne X.bs
  have tk0 : Takes (cxOf (L2.CX P w) P w K mg base N_ProgramParser_read_line "ProgramParser.read_line" (defScope s_ProgramParser_read_line) (He.ma K (He.ga K "ProgramParser") "read_line") cdv A outer s H E) (fun cls d _ H => E cls d H) := takes_of rfl rfl rfl rfl
  refine ⟨_, (pss_cons (ps_set (i := 3) sc_ProgramParser_read_line.nd rfl (Or.inl rfl) (pe_make T.mk_LineParser (ok_LineParser_init T) (hr.mono (by decide)) rfl T.g_LineParser (b_LineParser_init T) .nil (passes_call tk0 fun _ _ _ _ h => h) (pa_cons (pv 1) (pa_cons (pv 2) (pa_cons (pe_fldK (K := K) (pv 0) rfl rfl) pa_nil)))))
      (pss_cons (ps_set (i := 4) sc_ProgramParser_read_line.nd rfl (Or.inl rfl) (pe_meth0 (pv 3) T.cl_LineParser T.me_LineParser_peek (ok_LineParser_peek T) (hr.mono (by decide)) (b_LineParser_peek T) .nil pass0))
      (pss_cons (ps_if (pt_cmpR (op_eq) (pe_fldK (K := K) (pv 4) rfl rfl) (pe_gv rfl T.c_END) (nomark _)) (pss_one ps_retN) pss_nil)
      (pss_cons (ps_if (pt_cmpR (op_notN) (pe_meth (pv 3) T.cl_LineParser T.me_LineParser_accept (ok_LineParser_accept T) (hr.mono (by decide)) (b_LineParser_accept T) .nil pass0 (pa_cons pe_str (pa_cons (pe_tup (pa_cons pe_str pa_nil)) pa_nil))) pe_non (nomark _)) (pss_cons (ps_if (pt_cmpR (op_eq) (pe_callB (call_lenQ (K := K) rfl) rfl T.z_len PySem.boot_len (pa_cons (pe_fldK (K := K) (pv 0) rfl rfl) pa_nil)) pe_int (nomark _)) (pss_one (ps_expr (pe_meth (pv 3) T.cl_LineParser T.me_LineParser_fail (ok_LineParser_fail T) (hr.mono (by decide)) (b_LineParser_fail T) .nil (passes_call tk0 fun _ _ _ _ h => h) (pa_cons (pv 4) pa_nil)))) pss_nil)
      (pss_cons (ps_expr (pe_meth (pv 3) T.cl_LineParser T.me_LineParser_take (ok_LineParser_take T) (hr.mono (by decide)) (b_take1 T) (v_take1 T) (passes_call tk0 fun _ _ _ _ h => h) (pa_cons (pe_gv rfl T.c_END) pa_nil)))
      (pss_cons (ps_set (i := 5) sc_ProgramParser_read_line.nd rfl (Or.inl rfl) (pe_bm0 PySem.F.plainAttrs_list PySem.F.slot_list_pop PySem.F.type_list_pop mt_pop (pe_fldK (K := K) (pv 0) rfl rfl)))
      (pss_cons (ps_expr (pe_bm PySem.F.plainAttrs_list PySem.F.slot_list_append PySem.F.type_list_append mt_append (pe_fldK (K := K) (pe_ix (r := rIxL K) ix_list (pe_fldK (K := K) (pv 0) rfl rfl) (pe_un un_neg pe_int) (fun _ _ => rfl)) rfl rfl) (pa_cons (pe_op (r := rCatS K) op_catS (pe_fldK (K := K) (pv 5) rfl rfl) (pe_tup (pa_cons (pe_callTy call_tuple_of rfl T.z_tuple (by decide +kernel) (pa_cons (pe_fldK (K := K) (pv 5) rfl rfl) pa_nil)) pa_nil))) pa_nil)))
      (pss_one ps_retN))))) pss_nil)
      (pss_cons (ps_fldaug (pv 0) pe_int in_add)
      (pss_cons (ps_if (pt_cmpR (op_gt) (pe_fldK (K := K) (pv 0) rfl rfl) (pe_gv rfl T.c_MAX_STATEMENTS) (nomark _)) (pss_one (ps_expr (pe_meth (pv 3) T.cl_LineParser T.me_LineParser_fail (ok_LineParser_fail T) (hr.mono (by decide)) (b_LineParser_fail T) .nil (passes_call tk0 fun _ _ _ _ h => h) (pa_cons (pv 4) pa_nil)))) pss_nil)
      (pss_one (ps_if (pt_cmpR (op_eq) (pe_fldK (K := K) (pv 4) rfl rfl) pe_str (nomark _)) (pss_one (ps_expr (pe_bm PySem.F.plainAttrs_list PySem.F.slot_list_append PySem.F.type_list_append mt_append (pe_fldK (K := K) (pe_ix (r := rIxL K) ix_list (pe_fldK (K := K) (pv 0) rfl rfl) (pe_un un_neg pe_int) (fun _ _ => rfl)) rfl rfl) (pa_cons (pe_meth0 (pv 3) T.cl_LineParser T.me_LineParser_assignment (ok_LineParser_assignment T) (hr.mono (by decide)) (b_LineParser_assignment T) .nil (passes_call tk0 fun _ _ _ _ h => h)) pa_nil)))) (pss_one (ps_expr (pe_meth (pv 0) T.cl_ProgramParser T.me_ProgramParser_open_block (ok_ProgramParser_open_block T) (hr.mono (by decide)) (b_ProgramParser_open_block T) .nil (passes_call tk0 fun _ _ _ _ h => h) (pa_cons (pv 3) (pa_cons (pv 4) pa_nil))))))))))))), ?_⟩
  refine ⟨_, rfl, _, rfl, _, rfl, p, _, dx, _, _, rfl, X.hp, T.cl_ProgramParser, T.na_ProgramParser_names, rfl, ?_⟩
  refine make_lp (.inr X.nt.rd) hnum hz ?_
  unfold readM at q
  rcases el : lexM z with c | t0
  · rw [el] at q
    exact fun d H' s e' => q d H' (s0.trans s) e'
  rw [el] at q
  simp only at q ⊢
  have tok := lexM_ok hz el
  generalize t0 ++ [endTk z] = ts at q tok
  intro lp tla H1 s1 nlp ntla l1
  have ok1 : LsOk ⟨num, nm, names, ts, 0, 0, tla⟩ := ⟨hnum, tok, nl⟩
  have X1 := X.same s1
  have s01 := s0.trans s1
  have nlp0 := none_same s0 nlp
  obtain ⟨t, ht⟩ : ∃ t, ts[0]? = some t := ⟨_, List.getElem?_eq_getElem tok.pos⟩
  have tc : t.col < 1000000 := tok.col t (List.mem_of_getElem? ht)
  unfold lineM at q
  rw [ht] at q
  simp only at q
  obtain ⟨dy, tla', hp1, _⟩ := id l1
  refine ⟨_, rfl, lp, dy, _, rfl, hp1, rfl, lp, _, t, rfl, l1, ht, fun a hk => ?_⟩
  obtain ⟨dk, hk'⟩ := id hk
  refine ⟨_, rfl, a, _, dk, _, _, rfl, hk', T.cl_Token, T.na_Token_kind, rfl, rfl, _, rfl, ?_⟩
  by_cases e1 : t.kind = "end of line"
  · rw [if_pos e1] at q
    refine ifT (by simp [e1]) ?_
    exact q _ s01 ⟨dx, bl, _, _, X1⟩
  rw [if_neg e1] at q
  refine ifF (by simp [e1]) ?_
  refine ⟨_, rfl, lp, dy, _, rfl, hp1, rfl, sz 1, ?_⟩
  walk_at "new 2"
  dsimp only [tNil]
  refine ⟨lp, p2, _, t, "word", ["end"], rfl, l1.same s2, ht, .of h2, ?_⟩
  have X2 := X1.same s2
  have s02 := s01.trans s2
  have hk2 := hk.same s2
  have l2 := l1.same s2
  by_cases e2 : acOk "word" ["end"] t = true
  · rw [if_pos e2] at q
    rw [if_pos e2]
    have hi1 : 0 + 1 < ts.length := tok.fin 0 t ht e1
    obtain ⟨u, hu⟩ : ∃ u, ts[1]? = some u := ⟨_, List.getElem?_eq_getElem hi1⟩
    intro wa H3 k3 l3 wk
    have X3 := X2.kp l2 k3
    have s03 := same_kp s02 nlp0 k3
    have hk3 := hk2.kp l2 k3
    obtain ⟨dx3, tla3, hp3, _⟩ := id l3
    refine ⟨rfl, _, rfl, ifT rfl ?_⟩
    refine ⟨_, rfl, p, _, dx, _, _, rfl, X3.hp, T.cl_ProgramParser, T.na_ProgramParser_blocks, rfl, bl, _, rfl, .inl (.of X3.hb), ?_⟩
    have bl5 : ((a0 :: as).map V.ref).reverse.length = (B :: Bs).length := by rw [List.length_reverse, List.length_map, X.bs.len.1]
    rw [bl5]
    refine ⟨rfl, _, rfl, ?_⟩
    by_cases e3 : (B :: Bs).length = 1
    · rw [if_pos e3] at q
      refine ifT (decide_eq_true (by rw [e3] <;> rfl)) ?_
      exact ⟨_, rfl, lp, dx3, _, rfl, hp3, rfl, _, rfl, lp, a, _, t, rfl, l3, ok1.eq rfl rfl rfl, hk3, tc, BadS.kp q s03 nlp0⟩
    rw [if_neg e3] at q
    refine ifF (decide_eq_false (fun y => e3 (by have := V.int.inj y; omega))) ?_
    rw [takeM_eq hu] at q
    refine ⟨_, rfl, lp, dx3, _, rfl, hp3, rfl, lp, _, u, "end of line", none, rfl, l3, ok1.eq rfl rfl rfl, hu, ?_⟩
    by_cases e4 : ¬ (tkOk "end of line" none u = true)
    · rw [if_neg e4] at q
      rw [if_neg e4]
      exact BadS.kp q s03 nlp0
    have e4 := Classical.not_not.mp e4
    rw [if_pos e4] at q
    rw [if_pos e4]
    simp only at q
    intro b4 H4 k4 l4 _
    have X4 := X3.kp l3 k4
    have s04 := same_kp s03 nlp0 k4
    obtain ⟨_, C, Bs', eb⟩ := closeM_ok e3 (List.cons_ne_nil _ _)
    obtain ⟨rfl, rfl⟩ := List.cons.inj eb
    obtain ⟨_, _, a1, as', il1, ils', eb2, rfl, rfl⟩ := blks_cons (List.cons_ne_nil C Bs') X4.bs.2.2
    obtain ⟨rfl, rfl⟩ := List.cons.inj eb2
    refine ⟨_, rfl, p, _, dx, _, _, rfl, X4.hp, T.cl_ProgramParser, T.na_ProgramParser_blocks, rfl, .inl ⟨rfl, _, .inl (.inl X4.hb)⟩, bl, _, _, rfl, rfl, X4.hb, get_last V.ref a0 (a1 :: as'), ?_⟩
    rw [drop_last]
    obtain ⟨X5, hB⟩ := X4.pop
    have s05 := same_updN (u := .lst ((a1 :: as').map V.ref).reverse) s04 X4.nb
    generalize upd H4 bl (.lst ((a1 :: as').map V.ref).reverse) = H5 at X5 hB s05
    obtain ⟨dxb, hdb, hsb, vsb, b1, b2, b3, b4, b5, b6, b7⟩ := hB
    obtain ⟨⟨dxc, hdc, hsc, vsc, c1, c2, c3, c4, c5, c6, c7⟩, _⟩ := X5.bs
    refine ⟨_, rfl, p, _, dx, _, _, rfl, X5.hp, T.cl_ProgramParser, T.na_ProgramParser_blocks, rfl, _, rfl, bl, _, _, _, rfl, rfl, .of X5.hb, last_at V.ref a1 as', a1, _, dxc, _, _, rfl, c1, T.cl_Block, T.na_Block_inner, rfl, .inl ⟨rfl, _, .inl (.inl c4)⟩, ?_⟩
    refine ⟨_, rfl, a0, _, dxb, _, _, rfl, b1, T.cl_Block, T.na_Block_head, rfl, _, rfl, a0, _, dxb, _, _, rfl, b1, T.cl_Block, T.na_Block_inner, rfl, il0, vsb, rfl, .inl ⟨.of b4, ?_⟩⟩
    walk_at "new 6"
    refine ⟨sz 1, ?_⟩
    walk_at "new 7"
    have hl : B.inner.length ≤ 31 := inner_le pok
    have hdl : hsb.length ≤ 99999 := by
      have h1 := dpAll_len b3
      have h2 := pok.hd2 B (List.mem_cons_self ..)
      omega
    refine ⟨hdb, p7, hsb, [.ref p6], rfl, rfl, sameT (s6.trans s7) b2, .of h7, (by rw [List.length_singleton]; omega), fun a8 H8 s8 h8 => ?_⟩
    have ss := (s6.trans s7).trans s8
    have X8 := X5.same ss
    have c48 := ss _ _ c4
    have t8 : tupled (.tuple (B.head ++ [.tuple B.inner])) = true := tupled_app (es := [.tuple B.inner]) b6 (show (tupled.go B.inner && true) = true by rw [b7] <;> rfl)
    have d8 : Dp K H8 (.ref a8) (.tuple (B.head ++ [.tuple B.inner])) := .tup h8 (dpAll_app (dp_monoAll (Same.tups ss) _ _ b6 b3) (.cons (.tup (sameT (s7.trans s8) (.of h6)) (dp_monoAll (Same.tups ss) _ _ b7 b5)) .nil))
    have hc : C.inner.length ≤ 31 := by
      have h1 := pok.tot
      have h2 := pok.count
      have h1 : B.inner.length + 1 + (C.inner.length + 1 + tot Bs') ≤ cnt + 1 := h1
      have h2 : cnt ≤ 30 := h2
      omega
    refine ⟨il1, vsc, _, rfl, rfl, c48, dpAll_sz c5 hc, ?_⟩
    exact q _ (same_updN (s05.trans ss) X8.bs.2.1) ⟨dx, bl, _, _, X8.put c48 d8 t8⟩
  · rw [if_neg e2] at q
    rw [if_neg e2]
    refine ⟨rfl, _, rfl, ifF rfl ?_⟩
    have X3 := X2.cnt (cnt + 1)
    have k3 : Kp p H2 (upd H2 p (.ins (He.ga K "ProgramParser") dx (ppF nm bl (cnt + 1)))) := Kf.upd rfl
    obtain ⟨l3, tk3⟩ := l2.pp X2.hp k3
    have hk3 := tk3 _ _ hk2
    have s03 := same_kp s02 X.np k3
    obtain ⟨dx3, tla3, hp3, _⟩ := id l3
    obtain ⟨dk3, hk3'⟩ := id hk3
    refine ⟨_, rfl, p, _, dx, _, _, rfl, X2.hp, T.cl_ProgramParser, T.na_ProgramParser_count, rfl, _, _, rfl, rfl, _, _, X2.hp, (by show 3 < 1000; decide), ?_⟩
    refine ⟨_, rfl, p, _, dx, _, _, rfl, X3.hp, T.cl_ProgramParser, T.na_ProgramParser_count, rfl, _, _, rfl, rfl, _, rfl, ?_⟩
    by_cases e3 : 30 < cnt + 1
    · rw [if_pos e3] at q
      refine ifT (decide_eq_true (show (30 : Int) < ((cnt + 1 : Nat) : Int) by omega)) ?_
      exact ⟨_, rfl, lp, dx3, _, rfl, hp3, rfl, _, rfl, lp, a, _, t, rfl, l3, ok1, hk3, tc, BadS.kp q s03 nlp0⟩
    rw [if_neg e3] at q
    refine ifF (decide_eq_false (show ¬ (30 : Int) < ((cnt + 1 : Nat) : Int) by omega)) ?_
    refine ⟨_, rfl, a, _, dk3, _, _, rfl, hk3', T.cl_Token, T.na_Token_kind, rfl, rfl, _, rfl, ?_⟩
    by_cases e4 : t.kind = "name"
    · rw [if_pos e4] at q
      refine ifT (by simp [e4]) ?_
      obtain ⟨⟨dxb, hdb, hsb, vsb, b1, b2, b3, b4, b5, b6, b7⟩, nil0, _⟩ := X3.bs
      refine ⟨_, rfl, p, _, dx, _, _, rfl, X3.hp, T.cl_ProgramParser, T.na_ProgramParser_blocks, rfl, _, rfl, bl, _, _, _, rfl, rfl, .of X3.hb, last_at V.ref a0 as, a0, _, dxb, _, _, rfl, b1, T.cl_Block, T.na_Block_inner, rfl, .inl ⟨rfl, _, .inl (.inl b4)⟩, ?_⟩
      refine ⟨_, rfl, lp, dx3, _, rfl, hp3, rfl, lp, _, rfl, l3, ok1, rfl, rfl, X3.nt, ?_⟩
      simp only
      rcases e5 : assignM names ts with c | rows
      · rw [e5] at q
        exact BadS.kp q s03 nlp0
      rw [e5] at q
      simp only at q
      intro v H4 k4 d4
      have X4 := X3.kp l3 k4
      have s04 := same_kp s03 nlp0 k4
      have b44 : H4 il0 = some (.lst vsb) := kp_lst k4 l3.ins b4
      refine ⟨il0, vsb, v, rfl, rfl, b44, dpAll_sz b5 (inner_le pok), ?_⟩
      exact q _ (same_updN s04 nil0) ⟨dx, bl, _, _, X4.put b44 d4 (asgD_tup rows)⟩
    · rw [if_neg e4] at q
      refine ifF (by simp [e4]) ?_
      refine ⟨_, rfl, p, dx, _, rfl, X3.hp, rfl, _, rfl, _, rfl, p, lp, a, nm, names, _, _, t, H0, rfl, s03, ⟨dx, bl, _, _, X3⟩, ⟨pok.ne, by show cnt + 1 ≤ 30; omega, pok.deep, pok.rounds, Nat.le_succ_of_le pok.tot, pok.tupd, pok.hd2⟩, l3, ok1, rfl, nlp0, hk3, ht, e1, ?_⟩
      simp only
      rcases e5 : openM ts (B :: Bs) with c | hr'
      · rw [e5] at q
        exact q
      obtain ⟨h', r'⟩ := hr'
      rw [e5] at q
      exact q
abbrev N_ProgramParser_finished : List Str := ["self", "count"]
theorem sc_ProgramParser_finished : FnScope N_ProgramParser_finished ["self", "count"] (defScope s_ProgramParser_finished) := ⟨rfl, rfl, rfl, by decide +kernel, rfl, by decide +kernel, by decide +kernel⟩
theorem b_ProgramParser_finished (T : Tx K mg) : Binds K T.fd_ProgramParser_finished ["self", "count"] [] := T.F_ProgramParser_finished.bindsN fun _ _ _ _ _ _ us hl => match us, hl with | [_, _], _ => rfl
theorem ok_ProgramParser_finished (T : Tx K mg) : FnOk P w K mg base (L2.CX P w) 4 (He.ma K (He.ga K "ProgramParser") "finished") T.fd_ProgramParser_finished ["self", "count"] (spFin K) := by
  refine T.F_ProgramParser_finished.ok sc_ProgramParser_finished (fun vs H Q E h => ?_) (fun cdv A outer s H vs Q E hr h => ?_)
  · obtain ⟨p, nm, n, names, S, H0, rfl, _⟩ := h
    rfl
  obtain ⟨p, nm, n, names, ⟨blks, cnt⟩, H0, rfl, s0, ⟨dx, bl, as, ils, X⟩, pok, hn, q⟩ := h
  obtain ⟨B, Bs, a0, as, il0, ils, rfl, rfl, rfl⟩ := blks_cons pok.ne X.bs
  have tk0 : Takes (cxOf (L2.CX P w) P w K mg base N_ProgramParser_finished "ProgramParser.finished" (defScope s_ProgramParser_finished) (He.ma K (He.ga K "ProgramParser") "finished") cdv A outer s H E) (fun cls d _ H => E cls d H) := takes_of rfl rfl rfl rfl
  refine ⟨_, (pss_cons (ps_if (pt_cmpR (op_gt) (pe_callB (call_lenQ (K := K) rfl) rfl T.z_len PySem.boot_len (pa_cons (pe_fldK (K := K) (pv 0) rfl rfl) pa_nil)) pe_int (nomark _)) (pss_one (ps_raiseSyn T hr rfl tk0 (pa_cons (pe_op op_add (pv 1) pe_int) (pa_cons pe_int pa_nil)))) pss_nil)
      (pss_one (ps_ret (pe_callTy call_tuple_of rfl T.z_tuple (by decide +kernel) (pa_cons (pe_fldK (K := K) (pe_ix (r := rIxL K) ix_list (pe_fldK (K := K) (pv 0) rfl rfl) pe_int (fun _ _ => rfl)) rfl rfl) pa_nil))))), ?_⟩
  have bl5 : ((a0 :: as).map V.ref).reverse.length = (B :: Bs).length := by rw [List.length_reverse, List.length_map, X.bs.len.1]
  refine ⟨_, rfl, p, _, dx, _, _, rfl, X.hp, T.cl_ProgramParser, T.na_ProgramParser_blocks, rfl, bl, _, rfl, .inl (.of X.hb), ?_⟩
  rw [bl5]
  refine ⟨_, _, rfl, rfl, _, rfl, ?_⟩
  by_cases e1 : 1 < (B :: Bs).length
  · rw [if_pos e1] at q
    refine ifT (decide_eq_true (show (1 : Int) < (((B :: Bs).length : Nat) : Int) by omega)) ?_
    exact ⟨_, rfl, _, _, rfl, rfl, n + 1, 1, rfl, by omega, by omega, fun d H2 s _ e => q d H2 (s0.trans s) e⟩
  rw [if_neg e1] at q
  refine ifF (decide_eq_false (show ¬ (1 : Int) < (((B :: Bs).length : Nat) : Int) by omega)) ?_
  have eB : Bs = [] := by
    cases Bs with
    | nil => rfl
    | cons C Bs => exact absurd (by show 1 < Bs.length + 1 + 1; omega) e1
  subst eB
  have eA : as = [] := by
    have := X.bs.len.1
    cases as with
    | nil => rfl
    | cons a as => simp at this
  subst eA
  obtain ⟨⟨dxb, hdb, hsb, vsb, b1, b2, b3, b4, b5, b6, b7⟩, nil0, _⟩ := X.bs
  refine ⟨_, rfl, p, _, dx, _, _, rfl, X.hp, T.cl_ProgramParser, T.na_ProgramParser_blocks, rfl, bl, _, _, .ref a0, rfl, rfl, .of X.hb, rfl, a0, _, dxb, _, _, rfl, b1, T.cl_Block, T.na_Block_inner, rfl, il0, vsb, rfl, .inl ⟨.of b4, ?_⟩⟩
  walk_at "new 1"
  exact q _ H1 s1 (.tup (.of h1) (dp_monoAll (Same.tups s1) _ _ b7 b5))
end
end Kw

set_option Elab.async false
set_option linter.all false
set_option maxRecDepth 100000
set_option maxHeartbeats 4000000
namespace Kw
open PySem PySem.Spec PyProof.Rows L2
local macro_rules | `(tactic| walk_at $s:str) => do
  match s.getString.splitOn " " with
  | ["new", a] =>
    let p := Lean.mkIdent (Lean.Name.mkSimple ("p" ++ a))
    let n := Lean.mkIdent (Lean.Name.mkSimple ("n" ++ a))
    let H := Lean.mkIdent (Lean.Name.mkSimple ("H" ++ a))
    let s := Lean.mkIdent (Lean.Name.mkSimple ("s" ++ a))
    let h := Lean.mkIdent (Lean.Name.mkSimple ("h" ++ a))
    `(tactic| (intro $p $n; generalize e : upd _ $p _ = $H; have $s : Same _ $H := e ▸ same_new $n; have $h : $H $p = some _ := e ▸ upd_same; clear e))
  | _ => Lean.Macro.throwUnsupported
/-! ### the declaration: the mirror -/
def namesGo (ts : List Tk) : Nat → List Str → Nat → Except Nat (List Str × Nat)
  | 0, _, _ => .error 0
  | f + 1, ns, i => match ts[i]? with
    | none => .error 0
    | some (t : Tk) => if tkOk "name" none t = true then
        if t.text ∈ ns ∨ ns.length = 4 then .error t.col else (match symAt ts (i + 1) [","] with
          | none => .ok (ns ++ [t.text], i + 1)
          | some _ => namesGo ts f (ns ++ [t.text]) (i + 2))
      else .error t.col
def namesT (ts : List Tk) : Except Nat (List Str) := match takeM ts "word" (some "vars") 0 with
  | .error c => .error c
  | .ok i => match namesGo ts (ts.length + 1) [] i with
    | .error c => .error c
    | .ok (ns, j) => match takeM ts "end of line" none j with
      | .error c => .error c
      | .ok _ => .ok ns
def namesM (z : Str) : Except Nat (List Str) := match lexM z with
  | .error c => .error c
  | .ok t0 => namesT (t0 ++ [endTk z])
theorem namesGo_ok {ts : List Tk} {ns out : List Str} {j : Nat} : ∀ (f i : Nat) (ns : List Str), ns.length ≤ 4 → namesGo ts f ns i = .ok (out, j) → out.length ≤ 4
  | 0, _, _, _, e => by cases e
  | f + 1, i, ns, h, e => by
    unfold namesGo at e
    cases q : ts[i]? with
    | none => rw [q] at e; cases e
    | some t =>
      rw [q] at e
      simp only at e
      by_cases c1 : tkOk "name" none t = true
      · rw [if_pos c1] at e
        by_cases c2 : t.text ∈ ns ∨ ns.length = 4
        · rw [if_pos c2] at e; cases e
        · rw [if_neg c2] at e
          have l : (ns ++ [t.text]).length ≤ 4 := by rw [List.length_append, List.length_singleton]; omega
          cases q2 : symAt ts (i + 1) [","] with
          | none => rw [q2] at e; cases e; exact l
          | some u => rw [q2] at e; exact namesGo_ok (ns := ns) f _ _ l e
      · rw [if_neg c1] at e; cases e
theorem namesM_ok {z : Str} {ns : List Str} (e : namesM z = .ok ns) : ns.length ≤ 4 := by
  unfold namesM at e
  cases q : lexM z with
  | error c => rw [q] at e; cases e
  | ok t0 =>
    rw [q] at e
    simp only at e
    unfold namesT at e
    cases q1 : takeM (t0 ++ [endTk z]) "word" (some "vars") 0 with
    | error c => rw [q1] at e; cases e
    | ok i =>
      rw [q1] at e
      simp only at e
      cases q2 : namesGo (t0 ++ [endTk z]) ((t0 ++ [endTk z]).length + 1) [] i with
      | error c => rw [q2] at e; cases e
      | ok nj =>
        obtain ⟨n, j⟩ := nj
        rw [q2] at e
        simp only at e
        cases q3 : takeM (t0 ++ [endTk z]) "end of line" none j with
        | error c => rw [q3] at e; cases e
        | ok k =>
          rw [q3] at e
          cases e
          exact namesGo_ok (ns := []) _ _ [] (Nat.zero_le _) q2
/-! ### whole texts: the mirror -/
def cutM (z : Str) : Str := (Txt.split z "#").headD ""
def linesM (text : Str) : List Str := (Txt.split text "\n").map cutM
def PS0 : PS := ⟨[⟨[], 1, []⟩], 0⟩
def progGo : Option (List Str × PS) → Nat → List Str → Except (Nat × Nat) (Option (List Str × PS))
  | st, _, [] => .ok st
  | st, i, z :: zs => if i = 80 then .error (i + 1, 1) else match st with
    | some (names, S) => (match readM names S z with
      | .error c => .error (i + 1, c)
      | .ok S' => progGo (some (names, S')) (i + 1) zs)
    | none => match lexM z with
      | .error c => .error (i + 1, c)
      | .ok t0 => if t0 = [] then progGo none (i + 1) zs else match namesM z with
        | .error c => .error (i + 1, c)
        | .ok ns => progGo (some (ns, PS0)) (i + 1) zs
/-- the statements of the outermost block, or the problem at the end -/
def finM (n : Nat) (S : PS) : Except (Nat × Nat) (List PyData) := if 1 < S.blks.length then .error (n + 1, 1) else .ok ((S.blks.head?.map (·.inner)).getD [])
def progM (ls : List Str) : Except (Nat × Nat) (List Str × List PyData) := match progGo none 0 ls with
  | .error e => .error e
  | .ok none => .error (ls.length + 1, 1)
  | .ok (some (names, S)) => match finM ls.length S with
    | .error e => .error e
    | .ok ds => .ok (names, ds)
def stmtsM (names : List Str) (ls : List Str) : Except (Nat × Nat) (List PyData) := match progGo (some (names, PS0)) 0 ls with
  | .error e => .error e
  | .ok none => .error (0, 0)
  | .ok (some (_, S)) => finM ls.length S
theorem PS0_ok : PSok PS0 := ⟨List.cons_ne_nil _ _, by decide, by decide, fun B h => by rw [List.mem_singleton.mp h]; decide, by decide, fun B h => by rw [List.mem_singleton.mp h]; exact ⟨rfl, rfl⟩, fun B h => by rw [List.mem_singleton.mp h]; decide⟩
def upTo (l : List Nat) : List Nat := l.takeWhile fun c => !decide (c = 35)
theorem upTo_dec : ∀ l : List Nat, (35 ∉ l ∧ upTo l = l) ∨ ∃ p r, 35 ∉ p ∧ l = p ++ 35 :: r ∧ upTo l = p
  | [] => .inl ⟨(fun h => by cases h), rfl⟩
  | c :: l => by
    by_cases d : c = 35
    · subst d
      exact .inr ⟨[], l, (fun h => by cases h), rfl, rfl⟩
    · have e : upTo (c :: l) = c :: upTo l := by
        unfold upTo
        rw [List.takeWhile_cons, if_pos (by simp [d])]
      have nc : ∀ {p : List Nat}, 35 ∉ p → 35 ∉ c :: p := fun h z => by
        rcases List.mem_cons.mp z with z | z
        · exact d z.symm
        · exact h z
      rcases upTo_dec l with ⟨h1, h2⟩ | ⟨p, r, h1, h2, h3⟩
      · exact .inl ⟨nc h1, by rw [e, h2]⟩
      · exact .inr ⟨c :: p, r, nc h1, by rw [h2] <;> rfl, by rw [e, h3]⟩
theorem tl_cut (z : Str) : (Txt.split z "#")[0]? = some (cutM z) ∧ tl (cutM z) = upTo (tl z) := by
  have e : (Txt.split z "#").map tl = TL.spl (tl "#") 0 [] (tl z) := TL.split_spl z "#" (by decide +kernel) (TL.kind_ok (by decide +kernel))
  rw [show tl ("#" : Str) = [35] by decide +kernel] at e
  have key : ∃ rest, TL.spl [35] 0 [] (tl z) = upTo (tl z) :: rest := by
    rcases upTo_dec (tl z) with ⟨h1, h2⟩ | ⟨p, r, h1, h2, h3⟩
    · exact ⟨[], by rw [TL.spl_last1 h1, h2] <;> rfl⟩
    · refine ⟨TL.spl [35] 0 [] r, ?_⟩
      rw [h3]
      have := TL.spl_part1 (s := 35) (S := []) (acc := []) (rest := r) h1
      rw [h2]
      exact this
  obtain ⟨rest, k⟩ := key
  rw [k] at e
  unfold cutM
  cases q : Txt.split z "#" with
  | nil => rw [q] at e; cases e
  | cons a l =>
    rw [q] at e
    exact ⟨rfl, (List.cons.inj e).1⟩
theorem cut_len (z : Str) : (tl (cutM z)).length ≤ (tl z).length := by
  rw [(tl_cut z).2]
  unfold upTo
  exact List.takeWhile_sublist _ |>.length_le
theorem tl_inj {a b : Str} (h : tl a = tl b) : a = b := by
  cases a with
  | mk x => cases b with
    | mk y =>
      have : x.toList = y.toList := h
      rw [Array.ext' this]
theorem cut_cut (z : Str) : cutM (cutM z) = cutM z := by
  refine tl_inj ?_
  rw [(tl_cut (cutM z)).2, (tl_cut z).2]
  rcases upTo_dec (tl z) with ⟨h1, h2⟩ | ⟨p, r, h1, h2, h3⟩
  · rw [h2, h2]
  · rw [h3]
    rcases upTo_dec p with ⟨_, h⟩ | ⟨p', r', h4, h5, _⟩
    · exact h
    · exact absurd (by rw [h5]; simp) h1
theorem cut_mem {z : Str} {c : Nat} (h : c ∈ tl (cutM z)) : c ∈ tl z := by
  rw [(tl_cut z).2] at h
  exact (List.takeWhile_sublist _).subset h
/-- a joined text, split into its lines -/
theorem lines_join {ls : List Str} (ne : ls ≠ []) (h : ∀ z ∈ ls, 10 ∉ tl z) : linesM (Txt.join "\n" ls) = ls.map cutM := by
  unfold linesM
  rw [TL.split_join (s := 10) (S := []) (by decide +kernel) (by decide +kernel) ne h]
theorem lines_one {z : Str} (h : 10 ∉ tl z) : linesM z = [cutM z] := by
  have := lines_join (ls := [z]) (List.cons_ne_nil _ _) (fun x m => by rw [List.mem_singleton.mp m]; exact h)
  rwa [show Txt.join "\n" [z] = z from by rw [TL.join_eq] <;> rfl] at this
end Kw

set_option Elab.async false
set_option linter.all false
set_option maxRecDepth 100000
set_option maxHeartbeats 4000000
namespace Kw
open PySem PySem.Spec PyProof.Rows L2
local macro_rules | `(tactic| walk_at $s:str) => do
  match s.getString.splitOn " " with
  | ["new", a] =>
    let p := Lean.mkIdent (Lean.Name.mkSimple ("p" ++ a))
    let n := Lean.mkIdent (Lean.Name.mkSimple ("n" ++ a))
    let H := Lean.mkIdent (Lean.Name.mkSimple ("H" ++ a))
    let s := Lean.mkIdent (Lean.Name.mkSimple ("s" ++ a))
    let h := Lean.mkIdent (Lean.Name.mkSimple ("h" ++ a))
    `(tactic| (intro $p $n; generalize e : upd _ $p _ = $H; have $s : Same _ $H := e ▸ same_new $n; have $h : $H $p = some _ := e ▸ upd_same; clear e))
  | _ => Lean.Macro.throwUnsupported
def spNames (K : PySem.W.Frag) : Sp := fun vs H Q E => ∃ (z : Str) (num : Nat), vs = [.str z, .int num] ∧ (tl z).length ≤ 100000 ∧ num < 1000000 ∧
  (match namesM z with
    | .error c => BadS K H E num c
    | .ok ns => ∀ a H', Same H H' → NmT H' a (ns.map V.str) → Q (.ref a) H')
/-- a text that is split into such lines -/
structure TxOk (text : Str) (raw : List Str) : Prop where
  eq : Txt.split text "\n" = raw
  len : raw.length ≤ 1000
  short : ∀ z ∈ raw, z.length ≤ 100000
  size : text.length + 2 ≤ sizeLine
def namesD (ns : List Str) : PyData := .tuple (ns.map PyData.str)
def spStmts (K : PySem.W.Frag) : Sp := fun vs H Q E => ∃ (text : Str) (raw ns : List Str) (a : Addr), vs = [.str text, .ref a] ∧ TxOk text raw ∧ SqL K H a (ns.map V.str) ∧ ns.length ≤ 4 ∧
  (match stmtsM ns (raw.map cutM) with
    | .error (l, c) => BadS K H E l c
    | .ok ds => ∀ v H', Same H H' → Dp K H' v (.tuple ds) → Q v H')
def spProg (K : PySem.W.Frag) : Sp := fun vs H Q E => ∃ (text : Str) (raw : List Str), vs = [.str text] ∧ TxOk text raw ∧
  (match progM (raw.map cutM) with
    | .error (l, c) => BadS K H E l c
    | .ok (ns, ds) => ∀ v H', Same H H' → Dp K H' v (.tuple [namesD ns, .tuple ds]) → Q v H')
/-- a name goes behind the names -/
theorem LPAt.addName {K : PySem.W.Frag} {H : Hp} {p : Addr} {S : LS} (x : Str) (l : LPAt K H p S) (h : H S.nm = some (.lst (S.names.map V.str))) (ne : S.nm ≠ S.tla) :
    LPAt K (upd H S.nm (.lst (S.names.map V.str ++ [V.str x]))) p { S with names := S.names ++ [x] } := by
  obtain ⟨dx, tla, e, ⟨as, e1, e2, e3⟩, _, et⟩ := l
  refine ⟨dx, tla, by rw [upd_ne (ne_of e h (by intro z; cases z))]; exact e, ⟨as, ?_, e2, fun i b t q1 q2 => ?_⟩, .inl (.of ?_), et⟩
  · rw [upd_ne (by rw [et]; exact fun z => ne z.symm)]
    exact e1
  · obtain ⟨dy, q⟩ := e3 i b t q1 q2
    exact ⟨dy, by rw [upd_ne (ne_of q h (by intro z; cases z))]; exact q⟩
  · show upd H S.nm _ S.nm = some (.lst ((S.names ++ [x]).map V.str))
    rw [upd_same, List.map_append] <;> rfl
section
variable {P : Program} {w : World} {K : PySem.W.Frag} {mg : Str → Option Value} {base : Heap}
abbrev N_parse_names : List Str := ["line", "number", "parser", "more", "token"]
theorem sc_parse_names : FnScope N_parse_names ["line", "number"] (defScope s_parse_names) := ⟨rfl, rfl, rfl, by decide +kernel, rfl, by decide +kernel, by decide +kernel⟩
theorem b_parse_names (T : Tx K mg) : Binds K T.fd_parse_names ["line", "number"] [] := T.F_parse_names.bindsN fun _ _ _ _ _ _ us hl => match us, hl with | [_, _], _ => rfl
theorem ok_parse_names (T : Tx K mg) : FnOk P w K mg base (L2.CX P w) 10 (He.ga K "parse_names") T.fd_parse_names ["line", "number"] (spNames K) := by
  refine T.F_parse_names.ok sc_parse_names (fun vs H Q E h => ?_) (fun cdv A outer s H vs Q E hr h => ?_)
  · obtain ⟨z, num, rfl, _⟩ := h
    rfl
  obtain ⟨z, num, rfl, hz, hnum, q⟩ := h
  have tk0 : Takes (cxOf (L2.CX P w) P w K mg base N_parse_names "parse_names" (defScope s_parse_names) (He.ga K "parse_names") cdv A outer s H E) (fun cls d _ H => E cls d H) := takes_of rfl rfl rfl rfl
  refine ⟨_, (pss_cons (ps_set (i := 2) sc_parse_names.nd rfl (Or.inl rfl) (pe_make T.mk_LineParser (ok_LineParser_init T) (hr.mono (by decide)) rfl T.g_LineParser (b_LineParser_init T) .nil (passes_call tk0 fun _ _ _ _ h => h) (pa_cons (pv 0) (pa_cons (pv 1) (pa_cons (pe_lst pa_nil) pa_nil)))))
      (pss_cons (ps_expr (pe_meth (pv 2) T.cl_LineParser T.me_LineParser_take (ok_LineParser_take T) (hr.mono (by decide)) (b_take2 T) .nil (passes_call tk0 fun _ _ _ _ h => h) (pa_cons pe_str (pa_cons pe_str pa_nil))))
      (pss_cons (ps_set (i := 3) sc_parse_names.nd rfl (Or.inl rfl) pe_bl)
      (pss_cons (ps_while (passes_of rfl) (pt_val (pv 3)) (pss_cons (ps_set (i := 4) sc_parse_names.nd rfl (Or.inl rfl) (pe_meth (pv 2) T.cl_LineParser T.me_LineParser_take (ok_LineParser_take T) (hr.mono (by decide)) (b_take1 T) (v_take1 T) (passes_call tk0 fun _ _ _ _ h => h) (pa_cons pe_str pa_nil)))
      (pss_cons (ps_if (PW.pt (pw_or (pt_cmpR (r := rIn K false) (op_in_seq) (pe_fldK (K := K) (pv 4) rfl rfl) (pe_fldK (K := K) (pv 2) rfl rfl) (by rfl)) (pw_or1 (pt_cmpR (op_eq) (pe_callB (call_lenQ (K := K) rfl) rfl T.z_len PySem.boot_len (pa_cons (pe_fldK (K := K) (pv 2) rfl rfl) pa_nil)) (pe_gv rfl T.c_MAX_VARIABLES) (nomark _))))) (pss_one (ps_expr (pe_meth (pv 2) T.cl_LineParser T.me_LineParser_fail (ok_LineParser_fail T) (hr.mono (by decide)) (b_LineParser_fail T) .nil (passes_call tk0 fun _ _ _ _ h => h) (pa_cons (pv 4) pa_nil)))) pss_nil)
      (pss_cons (ps_expr (pe_bm PySem.F.plainAttrs_list PySem.F.slot_list_append PySem.F.type_list_append mt_append (pe_fldK (K := K) (pv 2) rfl rfl) (pa_cons (pe_fldK (K := K) (pv 4) rfl rfl) pa_nil)))
      (pss_one (ps_set (i := 3) sc_parse_names.nd rfl (Or.inl rfl) (pe_cmpR (op_notN) (pe_meth (pv 2) T.cl_LineParser T.me_LineParser_accept (ok_LineParser_accept T) (hr.mono (by decide)) (b_LineParser_accept T) .nil pass0 (pa_cons pe_str (pa_cons (pe_tup (pa_cons pe_str pa_nil)) pa_nil))) pe_non (nomark _))))))))
      (pss_cons (ps_expr (pe_meth (pv 2) T.cl_LineParser T.me_LineParser_take (ok_LineParser_take T) (hr.mono (by decide)) (b_take1 T) (v_take1 T) (passes_call tk0 fun _ _ _ _ h => h) (pa_cons (pe_gv rfl T.c_END) pa_nil)))
      (pss_one (ps_ret (pe_callTy call_tupleF rfl T.z_tuple (by decide +kernel) (pa_cons (pe_fldK (K := K) (pv 2) rfl rfl) pa_nil))))))))), ?_⟩
  refine ⟨_, rfl, _, rfl, sz 0, ?_⟩
  walk_at "new 0"
  refine make_lp (names := []) (.inl (.of h0)) hnum hz ?_
  unfold namesM at q
  rcases el : lexM z with c | t0
  · rw [el] at q
    exact fun d H' s e' => q d H' (s0.trans s) e'
  rw [el] at q
  simp only at q ⊢
  have tok := lexM_ok hz el
  generalize t0 ++ [endTk z] = ts at q tok
  intro lp tla H1 s1 nlp ntla l1
  have s01 : Same H H1 := s0.trans s1
  have nlp0 : H lp = none := none_same s0 nlp
  have ptl : p0 ≠ tla := fun e => by rw [← e, h0] at ntla; cases ntla
  have lpp : lp ≠ p0 := fun e => by rw [e, h0] at nlp; cases nlp
  obtain ⟨t, ht⟩ : ∃ t, ts[0]? = some t := ⟨_, List.getElem?_eq_getElem tok.pos⟩
  unfold namesT at q
  rw [takeM_eq ht] at q
  have ok1 : LsOk ⟨num, p0, [], ts, 0, 0, tla⟩ := ⟨hnum, tok, Nat.zero_le _⟩
  obtain ⟨dy, tla', hp1, _⟩ := id l1
  refine ⟨_, rfl, lp, dy, _, rfl, hp1, rfl, lp, _, t, "word", some "vars", rfl, l1, ok1, ht, ?_⟩
  by_cases e1 : ¬ (tkOk "word" (some "vars") t = true)
  · rw [if_neg e1] at q
    rw [if_neg e1]
    exact BadS.kp q s01 nlp0
  have e1 := Classical.not_not.mp e1
  rw [if_pos e1] at q
  rw [if_pos e1]
  simp only at q
  have hi1 := tk_in tok ht e1 (by decide +kernel)
  intro b2 H2 k2 l2 _
  have s02 : Same H H2 := same_kp s01 nlp0 k2
  have h2 : H2 p0 = some (.lst []) := kp_lst k2 l1.ins (s1 _ _ h0)
  have l151 := tok.len
  generalize eR : namesGo ts (ts.length + 1) [] (0 + 1) = R at q
  refine ⟨fun m σ H' => ∃ (i : Nat) (ns : List Str) (b : Bool) (v : Option V), σ = [some (.str z), some (.int num), some (.ref lp), some (.bl b), v] ∧ i < ts.length ∧ ts.length < m + i ∧ ns.length ≤ 4 ∧ Same H H' ∧ LPAt K H' lp ⟨num, p0, ns, ts, i, 0, tla⟩ ∧ H' p0 = some (.lst (ns.map V.str)) ∧
      (if b = true then namesGo ts m ns i = R else R = .ok (ns, i)),
    ⟨ts.length + 1, 1, [], true, none, rfl, hi1, by omega, Nat.zero_le _, s02, l2, h2, eR⟩, ?_⟩
  rintro m σ H3 ⟨i, ns, b, v, rfl, i1, i2, n4, s3, l3, h3, e3⟩
  refine ⟨_, rfl, _, rfl, ?_⟩
  have ok3 : LsOk ⟨num, p0, ns, ts, i, 0, tla⟩ := ⟨hnum, tok, n4⟩
  obtain ⟨t3, ht3⟩ : ∃ t, ts[i]? = some t := ⟨_, List.getElem?_eq_getElem i1⟩
  have tc := tok.col t3 (List.mem_of_getElem? ht3)
  obtain ⟨dx3, tla3, hp3, _⟩ := id l3
  cases b with
  | true =>
    refine ifT rfl ⟨_, fun _ _ h => h, ?_⟩
    cases m with
    | zero => omega
    | succ m =>
    rw [if_pos rfl] at e3
    unfold namesGo at e3
    rw [ht3] at e3
    simp only at e3
    refine ⟨_, rfl, lp, dx3, _, rfl, hp3, rfl, lp, _, t3, "name", none, rfl, l3, ok3, ht3, ?_⟩
    by_cases c1 : ¬ (tkOk "name" none t3 = true)
    · rw [if_neg c1] at e3
      rw [if_neg c1]
      rw [← e3] at q
      exact BadS.kp q s3 nlp0
    have c1 := Classical.not_not.mp c1
    rw [if_pos c1] at e3
    rw [if_pos c1]
    have hi3 := tk_in tok ht3 c1 (by decide +kernel)
    intro a4 H4 k4 l4 tk4
    have s4 : Same H H4 := same_kp s3 nlp0 k4
    have h4 : H4 p0 = some (.lst (ns.map V.str)) := kp_lst k4 l3.ins h3
    obtain ⟨dx4, tla4, hp4, _⟩ := id l4
    obtain ⟨dk, hk4⟩ := id tk4
    refine ⟨_, rfl, a4, _, dk, _, _, rfl, hk4, T.cl_Token, T.na_Token_spelling, rfl, _, rfl, lp, _, dx4, _, _, rfl, hp4, T.cl_LineParser, T.na_LineParser_names, rfl, p0, _, rfl, .inl (.of h4), rfl, flat_strs _, _, rfl, ?_⟩
    rw [inV_strs]
    have bad : (t3.text ∈ ns ∨ ns.length = 4) → BadP K lp H4 E num t3.col := fun c => by
      rw [if_pos c] at e3
      rw [← e3] at q
      exact BadS.kp q s4 nlp0
    by_cases c2 : t3.text ∈ ns
    · refine ifT (decide_eq_true c2) (ifT rfl ?_)
      exact ⟨_, rfl, lp, dx4, _, rfl, hp4, rfl, _, rfl, lp, a4, _, t3, rfl, l4, ok3.eq rfl rfl rfl, tk4, tc, bad (.inl c2)⟩
    refine ifF (decide_eq_false c2) ?_
    refine ⟨_, rfl, lp, _, dx4, _, _, rfl, hp4, T.cl_LineParser, T.na_LineParser_names, rfl, p0, _, rfl, .inl (.of h4), ?_⟩
    rw [List.length_map]
    refine ⟨rfl, _, rfl, ?_⟩
    by_cases c3 : ns.length = 4
    · refine ifT (decide_eq_true (by rw [c3] <;> rfl)) ?_
      exact ⟨_, rfl, lp, dx4, _, rfl, hp4, rfl, _, rfl, lp, a4, _, t3, rfl, l4, ok3.eq rfl rfl rfl, tk4, tc, bad (.inr c3)⟩
    refine ifF (decide_eq_false (fun y => c3 (by have := V.int.inj y; omega))) ?_
    rw [if_neg (fun z => z.elim c2 c3)] at e3
    refine ⟨_, rfl, lp, _, dx4, _, _, rfl, hp4, T.cl_LineParser, T.na_LineParser_names, rfl, .inl ⟨rfl, _, .inl (.inl h4)⟩, _, rfl, a4, _, dk, _, _, rfl, hk4, T.cl_Token, T.na_Token_spelling, rfl, p0, _, _, rfl, rfl, h4, szl _ (by rw [List.length_map]; omega), ?_⟩
    have l5 := l4.addName t3.text h4 ptl
    have np0 : H p0 = none := n0
    have s5 : Same H (upd H4 p0 (.lst (ns.map V.str ++ [V.str t3.text]))) := same_updN s4 np0
    have h5 : upd H4 p0 (.lst (ns.map V.str ++ [V.str t3.text])) p0 = some (.lst ((ns ++ [t3.text]).map V.str)) := by rw [upd_same, List.map_append] <;> rfl
    have l5 : LPAt K (upd H4 p0 (.lst (ns.map V.str ++ [V.str t3.text]))) lp ⟨num, p0, ns ++ [t3.text], ts, i + 1, 0, tla⟩ := l5
    generalize upd H4 p0 (.lst (ns.map V.str ++ [V.str t3.text])) = H5 at l5 s5 h5
    obtain ⟨dx5, tla5, hp5, _⟩ := id l5
    refine ⟨_, rfl, lp, dx5, _, rfl, hp5, rfl, sz 1, ?_⟩
    walk_at "new 6"
    dsimp only [tNil]
    refine accept_at (S := ⟨num, p0, ns ++ [t3.text], ts, i + 1, 0, tla⟩) (texts := [","]) (i := i + 1) (l5.same s6) hi3 (.of h6) fun o H7 k7 o7 => ?_
    have s7 : Same H H7 := same_kp (s5.trans s6) nlp0 k7
    have h7 : H7 p0 = some (.lst ((ns ++ [t3.text]).map V.str)) := kp_lst k7 (ins_same l5.ins s6) (s6 _ _ h5)
    have nl5 : (ns ++ [t3.text]).length ≤ 4 := by rw [List.length_append, List.length_singleton]; omega
    rcases o7 with ⟨rfl, n7, l7⟩ | ⟨a7, t7, rfl, n7, tk7, l7⟩
    · rw [n7] at e3
      exact ⟨rfl, m, by omega, i + 1, ns ++ [t3.text], false, _, rfl, hi3, by omega, nl5, s7, l7, h7, e3.symm⟩
    · rw [n7] at e3
      obtain ⟨_, _, hi7⟩ := sym_in tok n7
      exact ⟨rfl, m, by omega, i + 2, ns ++ [t3.text], true, _, rfl, hi7, by omega, nl5, s7, l7, h7, e3⟩
  | false =>
    refine ifF rfl ?_
    have e3 : R = .ok (ns, i) := e3
    rw [e3] at q
    simp only at q
    rw [takeM_eq ht3] at q
    refine ⟨_, rfl, lp, dx3, _, rfl, hp3, rfl, lp, _, t3, "end of line", none, rfl, l3, ok3, ht3, ?_⟩
    by_cases c1 : ¬ (tkOk "end of line" none t3 = true)
    · rw [if_neg c1] at q
      rw [if_neg c1]
      exact BadS.kp q s3 nlp0
    have c1 := Classical.not_not.mp c1
    rw [if_pos c1] at q
    rw [if_pos c1]
    simp only at q
    intro a4 H4 k4 l4 _
    have s4 : Same H H4 := same_kp s3 nlp0 k4
    have h4 : H4 p0 = some (.lst (ns.map V.str)) := kp_lst k4 l3.ins h3
    obtain ⟨dx4, tla4, hp4, _⟩ := id l4
    refine ⟨_, rfl, lp, _, dx4, _, _, rfl, hp4, T.cl_LineParser, T.na_LineParser_names, rfl, p0, _, rfl, .of h4, fun l o oc od nl => ?_⟩
    exact q l _ (s4.trans (same_new nl)) ⟨o, upd_same, oc, od⟩
end
end Kw

set_option Elab.async false
set_option linter.all false
set_option maxRecDepth 100000
set_option maxHeartbeats 4000000
namespace Kw
open PySem PySem.Spec PyProof.Rows L2
local macro_rules | `(tactic| walk_at $s:str) => do
  match s.getString.splitOn " " with
  | ["new", a] =>
    let p := Lean.mkIdent (Lean.Name.mkSimple ("p" ++ a))
    let n := Lean.mkIdent (Lean.Name.mkSimple ("n" ++ a))
    let H := Lean.mkIdent (Lean.Name.mkSimple ("H" ++ a))
    let s := Lean.mkIdent (Lean.Name.mkSimple ("s" ++ a))
    let h := Lean.mkIdent (Lean.Name.mkSimple ("h" ++ a))
    `(tactic| (intro $p $n; generalize e : upd _ $p _ = $H; have $s : Same _ $H := e ▸ same_new $n; have $h : $H $p = some _ := e ▸ upd_same; clear e))
  | _ => Lean.Macro.throwUnsupported
/-- the program's parser, or none yet -/
def StAt (K : PySem.W.Frag) (H0 H : Hp) (v : V) : Option (List Str × PS) → Prop
  | none => v = .non
  | some (ns, S) => ∃ pp nm, v = .ref pp ∧ PPAt K H0 H pp nm ns S ∧ PSok S ∧ ns.length ≤ 4
theorem PPAt.same {K : PySem.W.Frag} {H0 H H' : Hp} {p nm : Addr} {names : List Str} {S : PS} (h : PPAt K H0 H p nm names S) (s : Same H H') : PPAt K H0 H' p nm names S := let ⟨dx, bl, as, ils, X⟩ := h; ⟨dx, bl, as, ils, X.same s⟩
theorem StAt.same {K : PySem.W.Frag} {H0 H H' : Hp} {v : V} : ∀ {st : Option (List Str × PS)}, StAt K H0 H v st → Same H H' → StAt K H0 H' v st
  | none, h, _ => h
  | some (ns, S), ⟨pp, nm, e, h, r⟩, s => ⟨pp, nm, e, h.same s, r⟩
theorem fin_tup {S : PS} (h : PSok S) : tupled (.tuple ((S.blks.head?.map (·.inner)).getD [])) = true := by
  cases e : S.blks with
  | nil => rfl
  | cons B Bs => exact (h.tupd B (by rw [e]; exact List.mem_cons_self ..)).2
theorem strs_dp {K : PySem.W.Frag} {H : Hp} : ∀ ns : List Str, DpAll K H (ns.map V.str) (ns.map PyData.str)
  | [] => .nil
  | _ :: ns => .cons (.str _) (strs_dp ns)
theorem strs_tup : ∀ ns : List Str, tupled.go (ns.map PyData.str) = true
  | [] => rfl
  | _ :: ns => by
    show (true && tupled.go (ns.map PyData.str)) = true
    rw [strs_tup ns] <;> rfl
theorem get_strs {l : List Str} {c : Nat} {y : V} (h : (l.map V.str)[c]? = some y) : ∃ n, l[c]? = some n ∧ y = .str n := map_get h
theorem list_fnS {ys : List V} {l : List Str} (h : ys.length = l.length) (e : ∀ (i : Nat) y, ys[i]? = some y → y = .str (cutM (l.getD i ""))) : ys = (l.map cutM).map V.str := by
  apply List.ext_getElem?
  intro i
  cases q : ys[i]? with
  | none =>
    have : l.length ≤ i := by
      have := List.getElem?_eq_none_iff.mp q
      omega
    rw [List.getElem?_map, List.getElem?_map, List.getElem?_eq_none this] <;> rfl
  | some y =>
    have hi : i < l.length := by
      have := (List.getElem?_eq_some_iff.mp q).1
      omega
    rw [e i y q, List.getElem?_map, List.getElem?_map, List.getElem?_eq_getElem hi, List.getD_eq_getElem?_getD, List.getElem?_eq_getElem hi] <;> rfl
theorem getDS {l : List Str} {i : Nat} {f : Str} (h : l[i]? = some f) : l.getD i "" = f := by
  rw [List.getD_eq_getElem?_getD, h] <;> rfl
theorem kind_ne {z : Str} {t0 : List Tk} {t : Tk} (e : lexM z = .ok t0) (m : t ∈ t0) : t.kind ≠ "end of line" := by
  rcases tok1_kind ((lexM_of e).1 t m).at_ with ⟨k, _⟩ | ⟨k, _⟩ | ⟨k, _⟩ | ⟨k, _⟩ <;> (rw [k]; decide +kernel)
theorem BlksAt.rebase {K : PySem.W.Frag} {H0 H : Hp} {D : Addr} {o : HO} (n : H D = none) : ∀ {as ils : List Addr} {Bs : List Blk}, BlksAt K H0 H as ils Bs → BlksAt K (upd H0 D o) H as ils Bs
  | [], [], [], _ => trivial
  | a :: as, il :: ils, B :: Bs, h => by
    obtain ⟨h1, h2, h3⟩ := h
    refine ⟨h1, ?_, BlksAt.rebase n h3⟩
    obtain ⟨dx, hd, hs, vs, e1, e2, e3, e4, _⟩ := h1
    rw [upd_ne (ne_of_none e4 n)]
    exact h2
  | [], [], _ :: _, h => h.elim
  | [], _ :: _, [], h => h.elim
  | [], _ :: _, _ :: _, h => h.elim
  | _ :: _, [], [], h => h.elim
  | _ :: _, [], _ :: _, h => h.elim
  | _ :: _, _ :: _, [], h => h.elim
theorem PPAt.rebase {K : PySem.W.Frag} {H0 H : Hp} {p nm D : Addr} {names : List Str} {S : PS} {o : HO} (h : PPAt K H0 H p nm names S) (n : H D = none) : PPAt K (upd H0 D o) H p nm names S := by
  obtain ⟨dx, bl, as, ils, X⟩ := h
  exact ⟨dx, bl, as, ils, X.hp, by rw [upd_ne (ne_of_none X.hp n)]; exact X.np, X.hb, by rw [upd_ne (ne_of_none X.hb n)]; exact X.nb, BlksAt.rebase n X.bs, X.nd, X.out, X.nt⟩
section
variable {P : Program} {w : World} {K : PySem.W.Frag} {mg : Str → Option Value} {base : Heap}
abbrev N_parse_program : List Str := ["text", "lines", "parser", "index", "line"]
theorem sc_parse_program : FnScope N_parse_program ["text"] (defScope s_parse_program) := ⟨rfl, rfl, rfl, by decide +kernel, rfl, by decide +kernel, by decide +kernel⟩
theorem b_parse_program (T : Tx K mg) : Binds K T.fd_parse_program ["text"] [] := T.F_parse_program.bindsN fun _ _ _ _ _ _ us hl => match us, hl with | [_], _ => rfl
theorem ok_parse_program (T : Tx K mg) : FnOk P w K mg base (L2.CX P w) 80 (He.ga K "parse_program") T.fd_parse_program ["text"] (spProg K) := by
  refine T.F_parse_program.ok sc_parse_program (fun vs H Q E h => ?_) (fun cdv A outer s H vs Q E hr h => ?_)
  · obtain ⟨text, raw, rfl, _⟩ := h
    rfl
  obtain ⟨text, raw, rfl, tx, q⟩ := h
  have tk0 : Takes (cxOf (L2.CX P w) P w K mg base N_parse_program "parse_program" (defScope s_parse_program) (He.ga K "parse_program") cdv A outer s H E) (fun cls d _ H => E cls d H) := takes_of rfl rfl rfl rfl
  refine ⟨_, (pss_cons (ps_setLc (i := 1) (own := [("line", 4)]) (g := (gName 4)) (tt := tYes) (by rfl) sc_parse_program.nd rfl rfl (sw_true rfl rfl rfl (by decide +kernel)) (pi_list (pe_split (pv 0) pe_str)) (blkOk_by (own := [("line", 4)]) (N := N_parse_program) (sc := (defScope s_parse_program)) (by decide +kernel)) (fun _ _ _ _ _ => (pg_name (i := 4) sc_parse_program.nd rfl (Or.inl rfl))) (fun _ _ _ _ _ => pts_nil) (fun _ _ _ _ _ => (pe_ix (r := rIxL K) ix_list (pe_split (pv 4) pe_str) pe_int (fun _ _ => rfl))))
      (pss_cons (ps_set (i := 2) sc_parse_program.nd rfl (Or.inl rfl) pe_non)
      (pss_cons (ps_for (passes_of rfl) rfl (pi_enum (by rfl) T.z_enumerate (pa_cons (pv 1) pa_nil)) (pg_tup rfl (pgs_cons (pg_name (i := 3) sc_parse_program.nd rfl (Or.inl rfl)) (pgs_cons (pg_name (i := 4) sc_parse_program.nd rfl (Or.inl rfl)) pgs_nil))) (pss_cons (ps_if (pt_cmpR (op_eq) (pv 3) (pe_gv rfl T.c_MAX_LINES) (nomark _)) (pss_one (ps_raiseSyn T hr rfl tk0 (pa_cons (pe_op op_add (pv 3) pe_int) (pa_cons pe_int pa_nil)))) pss_nil)
      (pss_one (ps_if (pt_cmpR (op_notN) (pv 2) pe_non (nomark _)) (pss_one (ps_expr (pe_meth (pv 2) T.cl_ProgramParser T.me_ProgramParser_read_line (ok_ProgramParser_read_line T) (hr.mono (by decide)) (b_ProgramParser_read_line T) .nil (passes_call tk0 fun _ _ _ _ h => h) (pa_cons (pv 4) (pa_cons (pe_op op_add (pv 3) pe_int) pa_nil))))) (pss_one (ps_if (pt_cmpR (op_ne) (pe_fldK (K := K) (pe_ix (r := rIxL K) ix_list (pe_call (ok_tokens_of T) (hr.mono (by decide)) rfl T.g_tokens_of T.F_tokens_of.kp (b_tokens_of T) .nil (passes_call tk0 fun _ _ _ _ h => h) (pa_cons (pv 4) (pa_cons (pe_op op_add (pv 3) pe_int) pa_nil))) pe_int (fun _ _ => rfl)) rfl rfl) (pe_gv rfl T.c_END) (nomark _)) (pss_one (ps_set (i := 2) sc_parse_program.nd rfl (Or.inl rfl) (pe_make T.mk_ProgramParser (ok_ProgramParser_init T) (hr.mono (by decide)) rfl T.g_ProgramParser (b_ProgramParser_init T) .nil pass0 (pa_cons (pe_call (ok_parse_names T) (hr.mono (by decide)) rfl T.g_parse_names T.F_parse_names.kp (b_parse_names T) .nil (passes_call tk0 fun _ _ _ _ h => h) (pa_cons (pv 4) (pa_cons (pe_op op_add (pv 3) pe_int) pa_nil))) pa_nil)))) pss_nil))))))
      (pss_cons (ps_if (pt_cmpR (op_isN) (pv 2) pe_non (nomark _)) (pss_one (ps_raiseSyn T hr rfl tk0 (pa_cons (pe_op op_add (pe_callB (call_lenQ (K := K) rfl) rfl T.z_len PySem.boot_len (pa_cons (pv 1) pa_nil)) pe_int) (pa_cons pe_int pa_nil)))) pss_nil)
      (pss_one (ps_ret (pe_tup (pa_cons (pe_fldK (K := K) (pv 2) rfl rfl) (pa_cons (pe_meth (pv 2) T.cl_ProgramParser T.me_ProgramParser_finished (ok_ProgramParser_finished T) (hr.mono (by decide)) (b_ProgramParser_finished T) .nil (passes_call tk0 fun _ _ _ _ h => h) (pa_cons (pe_callB (call_lenQ (K := K) rfl) rfl T.z_len PySem.boot_len (pa_cons (pv 1) pa_nil)) pa_nil)) pa_nil))))))))), ?_⟩
  refine ⟨_, rfl, ⟨_, rfl⟩, text, _, rfl, rfl, by decide +kernel, tx.size, ?_⟩
  walk_at "new 0"
  rw [tx.eq] at h0
  have rl := tx.len
  refine ⟨p0, rfl, ⟨_, .of h0⟩, fun D hD => ?_⟩
  refine lc_pure (walk_list (K := K) (a := p0) (xs := raw.map V.str)) hD (fun i y _ => y = .str (cutM (raw.getD i ""))) (fun _ _ _ _ _ h => h) (by rw [List.length_map]; omega) (fun H2 s2 => .of (s2 _ _ h0)) (fun i x H2 H3 _ ⟨e, _⟩ => by rw [e]; exact Same.refl _) ?_ (fun x H A B m h => m _ _ h) ?_
  · rintro i x H2 _ hi s2 ⟨rfl, hx⟩
    obtain ⟨z, hz, rfl⟩ := get_strs hx
    refine ⟨rfl, Same.refl _, fun Q' h => ⟨_, rfl, ⟨_, rfl⟩, z, _, rfl, rfl, by decide +kernel, ?_, ?_⟩⟩
    · have := tx.short z (List.mem_of_getElem? hz)
      exact Nat.le_trans (Nat.add_le_add_right this 2) (by decide)
    walk_at "new 3"
    refine ⟨p3, _, _, _, rfl, rfl, .of h3, atI_nat (j := 0) (v := .str (cutM z)) (by rw [List.getElem?_map, (tl_cut z).1] <;> rfl), h _ _ s3 ?_⟩
    rw [getDS hz]
  intro ys H1 s1 h1 hn hy
  rw [List.length_map] at hn
  rw [list_fnS hn hy] at h1
  have s01 : Same H H1 := s0.trans s1
  have lsl : ∀ z ∈ raw.map cutM, (tl z).length ≤ 100000 := fun z m => by
    obtain ⟨y, hy, rfl⟩ := List.mem_map.mp m
    exact Nat.le_trans (cut_len y) (tx.short y hy)
  have lslen : (raw.map cutM).length ≤ 1000 := by rw [List.length_map]; exact rl
  generalize raw.map cutM = ls at q h1 lsl lslen
  unfold progM at q
  generalize eR : progGo none 0 ls = R at q
  have qb : ∀ {l c : Nat}, BadS K H E l c → BadS K H1 E l c := fun b => b.to s01
  refine ⟨_, rfl, D, _, rfl, .of h1, ?_⟩
  refine for_it (walk_enum (K := K) (a := D) (xs := ls.map V.str)) (fun i σ H' => ∃ (st : Option (List Str × PS)) (pv : V) (v3 v4 : Option V), σ = [some (.str text), some (.ref D), some pv, v3, v4] ∧ Same H1 H' ∧ StAt K H1 H' pv st ∧ progGo st i (ls.drop i) = R)
    ⟨none, .non, none, none, rfl, Same.refl _, rfl, eR⟩ ?_ ?_ ?_
  · rintro i σ H' _ ⟨_, _, _, _, _, h, _⟩
    exact .of (h _ _ h1)
  · rintro i x σ H2 H3 hi ⟨st, pv, v3, v4, rfl, s2, sp, e2⟩ ⟨tt, x1, y1, rfl, nt, rfl, f1, f2⟩
    have f1 := Option.some.inj f1
    subst f1
    obtain ⟨z, f3, rfl⟩ := get_strs f2
    have il : i < ls.length := (List.getElem?_eq_some_iff.mp f3).1
    have hzl := lsl z (List.mem_of_getElem? f3)
    have ed : ls.drop i = z :: ls.drop (i + 1) := by
      obtain ⟨g1, g2⟩ := List.getElem?_eq_some_iff.mp f3
      rw [List.drop_eq_getElem_cons g1, g2]
    rw [ed] at e2
    unfold progGo at e2
    have s3 := same_new (o := .tup [.int (i : Int), .str z]) nt
    refine ⟨tt, _, rfl, .of upd_same, rfl, _, _, rfl, _, _, rfl, rfl, ?_⟩
    have s03 := s2.trans s3
    have sp3 := sp.same s3
    generalize upd H2 tt (.tup [.int (i : Int), .str z]) = H3 at s3 s03 sp3
    refine ⟨_, rfl, rfl, _, rfl, ?_⟩
    by_cases c1 : i = 80
    · rw [if_pos c1] at e2
      rw [← e2] at q
      refine ifT (decide_eq_true (by rw [c1] <;> rfl)) ?_
      exact ⟨_, rfl, _, _, rfl, rfl, i + 1, 1, rfl, by omega, by omega, fun d H4 s4 _ e => qb q d H4 (s03.trans s4) e⟩
    rw [if_neg c1] at e2
    refine ifF (decide_eq_false (fun y => c1 (by have := V.int.inj y; omega))) ?_
    refine ⟨_, rfl, rfl, _, rfl, ?_⟩
    rcases st with _ | ⟨ns, S⟩
    · have sp3 : pv = .non := sp3
      subst sp3
      simp only at e2
      refine ifF rfl ?_
      refine ⟨_, rfl, _, rfl, _, _, rfl, rfl, z, i + 1, rfl, hzl, by omega, ?_⟩
      rcases el : lexM z with c | t0
      · rw [el] at e2
        rw [← e2] at q
        exact fun d H4 s4 _ e => qb q d H4 (s03.trans s4) e
      rw [el] at e2
      simp only at e2 ⊢
      intro a H4 s4 na tks
      obtain ⟨as, a1, a2, a3⟩ := tks
      have ap : 0 < as.length := by rw [a2, List.length_append]; simp
      obtain ⟨b0, hb0⟩ : ∃ b, as[0]? = some b := ⟨_, List.getElem?_eq_getElem ap⟩
      obtain ⟨t, ht⟩ : ∃ t, (t0 ++ [endTk z])[0]? = some t := ⟨_, List.getElem?_eq_getElem (by rw [List.length_append]; simp)⟩
      obtain ⟨dk, hk⟩ := a3 0 b0 t hb0 ht
      have s04 := s03.trans s4
      refine ⟨a, _, _, .ref b0, rfl, rfl, .of a1, atI_nat (j := 0) (by rw [List.getElem?_map, hb0] <;> rfl), b0, _, dk, _, _, rfl, hk, T.cl_Token, T.na_Token_kind, rfl, rfl, _, rfl, ?_⟩
      by_cases c2 : t0 = []
      · rw [if_pos c2] at e2
        rw [c2] at ht
        have ht := Option.some.inj ht
        refine ifF (by rw [← ht] <;> rfl) ?_
        exact ⟨none, .non, _, _, rfl, s04, rfl, e2⟩
      rw [if_neg c2] at e2
      have hk0 : t.kind ≠ "end of line" := by
        cases t0 with
        | nil => exact absurd rfl c2
        | cons u us =>
          have ht := Option.some.inj ht
          rw [← ht]
          exact kind_ne el (List.mem_cons_self ..)
      refine ifT (by simp [hk0]) ?_
      refine ⟨_, rfl, _, rfl, _, _, rfl, rfl, z, i + 1, rfl, hzl, by omega, ?_⟩
      rcases en : namesM z with c | ns
      · rw [en] at e2
        rw [← e2] at q
        exact fun d H5 s5 e => qb q d H5 (s04.trans s5) e
      rw [en] at e2
      simp only at e2 ⊢
      intro nm H5 s5 hnm
      refine make_pp (s04.trans s5) hnm fun pp H6 s6 hpp => ?_
      exact ⟨some (ns, PS0), .ref pp, _, _, rfl, s6, ⟨pp, nm, rfl, hpp, PS0_ok, namesM_ok en⟩, e2⟩
    · obtain ⟨pp, nm, rfl, ⟨dx, bl, as, ils, X⟩, pok, nl⟩ := sp3
      simp only at e2
      refine ifT rfl ?_
      refine ⟨_, rfl, pp, dx, _, rfl, X.hp, rfl, _, rfl, _, rfl, _, _, rfl, rfl, pp, nm, z, i + 1, ns, S, H1, rfl, s03, ⟨dx, bl, as, ils, X⟩, pok, nl, by omega, hzl, ?_⟩
      rcases er : readM ns S z with c | S'
      · rw [er] at e2
        rw [← e2] at q
        exact qb q
      rw [er] at e2
      simp only at e2 ⊢
      intro H4 s4 hpp
      exact ⟨some (ns, S'), .ref pp, _, _, rfl, s4, ⟨pp, nm, rfl, hpp, readM_ok pok er, nl⟩, e2⟩
  · rintro σ H2 ⟨st, pv, v3, v4, rfl, s2, sp, e2⟩
    have h2 := s2 _ _ h1
    rw [List.length_map, List.drop_eq_nil_of_le (Nat.le_refl _)] at e2
    have e2 : (.ok st : Except (Nat × Nat) (Option (List Str × PS))) = R := by
      rw [← e2]
      cases st <;> rfl
    rw [← e2] at q
    refine ⟨_, rfl, rfl, _, rfl, ?_⟩
    rcases st with _ | ⟨ns, S⟩
    · have sp : pv = .non := sp
      subst sp
      simp only at q
      refine ifT rfl ?_
      refine ⟨_, rfl, D, _, rfl, .inl (.of h2), ?_⟩
      rw [List.length_map]
      exact ⟨_, _, rfl, rfl, ls.length + 1, 1, rfl, by omega, by omega, fun d H4 s4 _ e => qb q d H4 (s2.trans s4) e⟩
    · obtain ⟨pp, nm, rfl, ⟨dx, bl, as, ils, X⟩, pok, nl⟩ := sp
      simp only at q
      refine ifF rfl ?_
      refine ⟨_, rfl, pp, _, dx, _, _, rfl, X.hp, T.cl_ProgramParser, T.na_ProgramParser_names, rfl, _, rfl, pp, dx, _, rfl, X.hp, rfl, _, rfl, D, _, rfl, .inl (.of h2), ?_⟩
      rw [List.length_map]
      refine ⟨pp, nm, ls.length, ns, S, H1, rfl, s2, ⟨dx, bl, as, ils, X⟩, pok, by omega, ?_⟩
      unfold finM at q
      by_cases c1 : 1 < S.blks.length
      · rw [if_pos c1] at q
        rw [if_pos c1]
        exact qb q
      rw [if_neg c1] at q
      rw [if_neg c1]
      simp only at q
      intro v H3 s3 d3
      refine ⟨sz 2, ?_⟩
      walk_at "new 4"
      refine q _ H4 (((s01.trans s2).trans s3).trans s4) (.tup (.of h4) (.cons (.tup (sameT (s3.trans s4) X.nt.rd) (strs_dp ns)) (.cons (dp_mono (Same.tups s4) _ _ (fin_tup pok) d3) .nil)))
abbrev N_parse_statements : List Str := ["text", "names", "parser", "lines", "index", "line"]
theorem sc_parse_statements : FnScope N_parse_statements ["text", "names"] (defScope s_parse_statements) := ⟨rfl, rfl, rfl, by decide +kernel, rfl, by decide +kernel, by decide +kernel⟩
theorem b_parse_statements (T : Tx K mg) : Binds K T.fd_parse_statements ["text", "names"] [] := T.F_parse_statements.bindsN fun _ _ _ _ _ _ us hl => match us, hl with | [_, _], _ => rfl
theorem ok_parse_statements (T : Tx K mg) : FnOk P w K mg base (L2.CX P w) 80 (He.ga K "parse_statements") T.fd_parse_statements ["text", "names"] (spStmts K) := by
  refine T.F_parse_statements.ok sc_parse_statements (fun vs H Q E h => ?_) (fun cdv A outer s H vs Q E hr h => ?_)
  · obtain ⟨text, raw, ns, a, rfl, _⟩ := h
    rfl
  obtain ⟨text, raw, ns, a, rfl, tx, ha, nl, q⟩ := h
  have tk0 : Takes (cxOf (L2.CX P w) P w K mg base N_parse_statements "parse_statements" (defScope s_parse_statements) (He.ga K "parse_statements") cdv A outer s H E) (fun cls d _ H => E cls d H) := takes_of rfl rfl rfl rfl
  refine ⟨_, (pss_cons (ps_set (i := 2) sc_parse_statements.nd rfl (Or.inl rfl) (pe_make T.mk_ProgramParser (ok_ProgramParser_init T) (hr.mono (by decide)) rfl T.g_ProgramParser (b_ProgramParser_init T) .nil pass0 (pa_cons (pe_callTy call_tupleF rfl T.z_tuple (by decide +kernel) (pa_cons (pv 1) pa_nil)) pa_nil)))
      (pss_cons (ps_setLc (i := 3) (own := [("line", 5)]) (g := (gName 5)) (tt := tYes) (by rfl) sc_parse_statements.nd rfl rfl (sw_true rfl rfl rfl (by decide +kernel)) (pi_list (pe_split (pv 0) pe_str)) (blkOk_by (own := [("line", 5)]) (N := N_parse_statements) (sc := (defScope s_parse_statements)) (by decide +kernel)) (fun _ _ _ _ _ => (pg_name (i := 5) sc_parse_statements.nd rfl (Or.inl rfl))) (fun _ _ _ _ _ => pts_nil) (fun _ _ _ _ _ => (pe_ix (r := rIxL K) ix_list (pe_split (pv 5) pe_str) pe_int (fun _ _ => rfl))))
      (pss_cons (ps_for (passes_of rfl) rfl (pi_enum (by rfl) T.z_enumerate (pa_cons (pv 3) pa_nil)) (pg_tup rfl (pgs_cons (pg_name (i := 4) sc_parse_statements.nd rfl (Or.inl rfl)) (pgs_cons (pg_name (i := 5) sc_parse_statements.nd rfl (Or.inl rfl)) pgs_nil))) (pss_cons (ps_if (pt_cmpR (op_eq) (pv 4) (pe_gv rfl T.c_MAX_LINES) (nomark _)) (pss_one (ps_raiseSyn T hr rfl tk0 (pa_cons (pe_op op_add (pv 4) pe_int) (pa_cons pe_int pa_nil)))) pss_nil)
      (pss_one (ps_expr (pe_meth (pv 2) T.cl_ProgramParser T.me_ProgramParser_read_line (ok_ProgramParser_read_line T) (hr.mono (by decide)) (b_ProgramParser_read_line T) .nil (passes_call tk0 fun _ _ _ _ h => h) (pa_cons (pv 5) (pa_cons (pe_op op_add (pv 4) pe_int) pa_nil)))))))
      (pss_one (ps_ret (pe_meth (pv 2) T.cl_ProgramParser T.me_ProgramParser_finished (ok_ProgramParser_finished T) (hr.mono (by decide)) (b_ProgramParser_finished T) .nil (passes_call tk0 fun _ _ _ _ h => h) (pa_cons (pe_callB (call_lenQ (K := K) rfl) rfl T.z_len PySem.boot_len (pa_cons (pv 3) pa_nil)) pa_nil))))))), ?_⟩
  refine ⟨_, rfl, a, _, rfl, ha, fun nm o oc od nn => ?_⟩
  have sa := same_new (o := .frz o (.tup (ns.map V.str))) nn
  have hnm : NmT (upd H nm (.frz o (.tup (ns.map V.str)))) nm (ns.map V.str) := ⟨o, upd_same, oc, od⟩
  generalize upd H nm (.frz o (.tup (ns.map V.str))) = Ha at sa hnm
  refine make_pp (Same.refl Ha) hnm fun pp H9 s9 hpp9 => ?_
  refine ⟨_, rfl, ⟨_, rfl⟩, text, _, rfl, rfl, by decide +kernel, tx.size, ?_⟩
  walk_at "new 0"
  rw [tx.eq] at h0
  have rl := tx.len
  refine ⟨p0, rfl, ⟨_, .of h0⟩, fun D hD => ?_⟩
  refine lc_pure (walk_list (K := K) (a := p0) (xs := raw.map V.str)) hD (fun i y _ => y = .str (cutM (raw.getD i ""))) (fun _ _ _ _ _ h => h) (by rw [List.length_map]; omega) (fun H2 s2 => .of (s2 _ _ h0)) (fun i x H2 H3 _ ⟨e, _⟩ => by rw [e]; exact Same.refl _) ?_ (fun x H A B m h => m _ _ h) ?_
  · rintro i x H2 _ hi s2 ⟨rfl, hx⟩
    obtain ⟨z, hz, rfl⟩ := get_strs hx
    refine ⟨rfl, Same.refl _, fun Q' h => ⟨_, rfl, ⟨_, rfl⟩, z, _, rfl, rfl, by decide +kernel, ?_, ?_⟩⟩
    · have := tx.short z (List.mem_of_getElem? hz)
      exact Nat.le_trans (Nat.add_le_add_right this 2) (by decide)
    walk_at "new 3"
    refine ⟨p3, _, _, _, rfl, rfl, .of h3, atI_nat (j := 0) (v := .str (cutM z)) (by rw [List.getElem?_map, (tl_cut z).1] <;> rfl), h _ _ s3 ?_⟩
    rw [getDS hz]
  intro ys H1 s1 h1 hn hy
  rw [List.length_map] at hn
  rw [list_fnS hn hy] at h1
  have s90 : Same H9 H1 := s0.trans s1
  have s01 : Same H H1 := (sa.trans s9).trans s90
  have lsl : ∀ z ∈ raw.map cutM, (tl z).length ≤ 100000 := fun z m => by
    obtain ⟨y, hy, rfl⟩ := List.mem_map.mp m
    exact Nat.le_trans (cut_len y) (tx.short y hy)
  have lslen : (raw.map cutM).length ≤ 1000 := by rw [List.length_map]; exact rl
  have n9 : H9 D = none := none_same s0 hD
  have nD : Ha D = none := none_same s9 n9
  generalize raw.map cutM = ls at q h1 lsl lslen
  have sp1 : StAt K (upd Ha D (.lst (ls.map V.str))) H1 (.ref pp) (some (ns, PS0)) := ⟨pp, nm, rfl, (hpp9.rebase n9).same s90, PS0_ok, nl⟩
  have sb1 : Same (upd Ha D (.lst (ls.map V.str))) H1 := fun b u e => by
    by_cases c : b = D
    · rw [c, upd_same] at e
      rw [c, h1]
      exact e
    · rw [upd_ne c] at e
      exact (s9.trans s90) _ _ e
  have sb : Same H (upd Ha D (.lst (ls.map V.str))) := sa.trans (same_new nD)
  have hb : upd Ha D (.lst (ls.map V.str)) D = some (.lst (ls.map V.str)) := upd_same
  generalize upd Ha D (.lst (ls.map V.str)) = Hb at sp1 sb1 sb hb
  unfold stmtsM at q
  generalize eR : progGo (some (ns, PS0)) 0 ls = R at q
  have qb : ∀ {l c : Nat}, BadS K H E l c → BadS K Hb E l c := fun b => b.to sb
  refine ⟨_, rfl, D, _, rfl, .of h1, ?_⟩
  refine for_it (walk_enum (K := K) (a := D) (xs := ls.map V.str)) (fun i σ H' => ∃ (S : PS) (v3 v4 : Option V), σ = [some (.str text), some (.ref a), some (.ref pp), some (.ref D), v3, v4] ∧ Same Hb H' ∧ StAt K Hb H' (.ref pp) (some (ns, S)) ∧ progGo (some (ns, S)) i (ls.drop i) = R)
    ⟨PS0, none, none, rfl, sb1, sp1, eR⟩ ?_ ?_ ?_
  · rintro i σ H' _ ⟨_, _, _, _, h, _⟩
    exact .of (h _ _ hb)
  · rintro i x σ H2 H3 hi ⟨S, v3, v4, rfl, s2, sp, e2⟩ ⟨tt, x1, y1, rfl, nt, rfl, f1, f2⟩
    have f1 := Option.some.inj f1
    subst f1
    obtain ⟨z, f3, rfl⟩ := get_strs f2
    have il : i < ls.length := (List.getElem?_eq_some_iff.mp f3).1
    have hzl := lsl z (List.mem_of_getElem? f3)
    have ed : ls.drop i = z :: ls.drop (i + 1) := by
      obtain ⟨g1, g2⟩ := List.getElem?_eq_some_iff.mp f3
      rw [List.drop_eq_getElem_cons g1, g2]
    rw [ed] at e2
    unfold progGo at e2
    have s3 := same_new (o := .tup [.int (i : Int), .str z]) nt
    refine ⟨tt, _, rfl, .of upd_same, rfl, _, _, rfl, _, _, rfl, rfl, ?_⟩
    have s03 := s2.trans s3
    have sp3 := sp.same s3
    generalize upd H2 tt (.tup [.int (i : Int), .str z]) = H3 at s3 s03 sp3
    refine ⟨_, rfl, rfl, _, rfl, ?_⟩
    by_cases c1 : i = 80
    · rw [if_pos c1] at e2
      rw [← e2] at q
      refine ifT (decide_eq_true (by rw [c1] <;> rfl)) ?_
      exact ⟨_, rfl, _, _, rfl, rfl, i + 1, 1, rfl, by omega, by omega, fun d H4 s4 _ e => qb q d H4 (s03.trans s4) e⟩
    rw [if_neg c1] at e2
    refine ifF (decide_eq_false (fun y => c1 (by have := V.int.inj y; omega))) ?_
    obtain ⟨pp', nm', epp, ⟨dx, bl, as, ils, X⟩, pok, _⟩ := sp3
    cases epp
    simp only at e2
    refine ⟨_, rfl, pp, dx, _, rfl, X.hp, rfl, _, rfl, _, rfl, _, _, rfl, rfl, pp, nm', z, i + 1, ns, S, Hb, rfl, s03, ⟨dx, bl, as, ils, X⟩, pok, nl, by omega, hzl, ?_⟩
    rcases er : readM ns S z with c | S'
    · rw [er] at e2
      rw [← e2] at q
      exact qb q
    rw [er] at e2
    simp only at e2 ⊢
    intro H4 s4 hpp
    exact ⟨S', _, _, rfl, s4, ⟨pp, nm', rfl, hpp, readM_ok pok er, nl⟩, e2⟩
  · rintro σ H2 ⟨S, v3, v4, rfl, s2, sp, e2⟩
    have h2 := s2 _ _ hb
    rw [List.length_map, List.drop_eq_nil_of_le (Nat.le_refl _)] at e2
    have e2 : (.ok (some (ns, S)) : Except (Nat × Nat) (Option (List Str × PS))) = R := e2
    rw [← e2] at q
    obtain ⟨pp', nm', epp, ⟨dx, bl, as, ils, X⟩, pok, _⟩ := sp
    cases epp
    simp only at q
    refine ⟨_, rfl, pp, dx, _, rfl, X.hp, rfl, _, rfl, D, _, rfl, .inl (.of h2), ?_⟩
    rw [List.length_map]
    refine ⟨pp, nm', ls.length, ns, S, Hb, rfl, s2, ⟨dx, bl, as, ils, X⟩, pok, by omega, ?_⟩
    unfold finM at q
    by_cases c1 : 1 < S.blks.length
    · rw [if_pos c1] at q
      rw [if_pos c1]
      exact qb q
    rw [if_neg c1] at q
    rw [if_neg c1]
    simp only at q
    exact fun v H3 s3 d3 => q v H3 ((sb.trans s2).trans s3) d3
/-! ### a session -/
def spSesInit (K : PySem.W.Frag) : Sp := fun vs H Q E => ∃ (p dx : Addr) (text : Str) (raw : List Str), vs = [.ref p, .str text] ∧ H p = some (.ins (He.ga K "Session") dx []) ∧ TxOk text raw ∧
  (match progM (raw.map cutM) with
    | .error (l, c) => BadS K H E l c
    | .ok (ns, ds) => ∀ v H' ml, Kp p H H' → Dp K H' v (.tuple [namesD ns, .tuple ds]) → H' p = some (.ins (He.ga K "Session") dx [("present", v), ("marks", .ref ml)]) → Q .non H')
def spSesProg (K : PySem.W.Frag) : Sp := fun vs H Q _ => ∃ (p dx ml : Addr) (v : V), vs = [.ref p] ∧ H p = some (.ins (He.ga K "Session") dx [("present", v), ("marks", .ref ml)]) ∧ Q v H
theorem prog_tup {ls : List Str} {ns : List Str} {ds : List PyData} (e : progM ls = .ok (ns, ds)) : tupled (.tuple [namesD ns, .tuple ds]) = true := by
  have key : ∀ (zs : List Str) (i : Nat) (st : Option (List Str × PS)) (out : Option (List Str × PS)), (∀ n S, st = some (n, S) → PSok S) → progGo st i zs = .ok out → ∀ n S, out = some (n, S) → PSok S := by
    intro zs
    induction zs with
    | nil =>
      intro i st out h e
      have e : (.ok st : Except (Nat × Nat) (Option (List Str × PS))) = .ok out := by rw [← e]; cases st <;> rfl
      cases e
      exact h
    | cons z zs ih =>
      intro i st out h e
      unfold progGo at e
      by_cases c1 : i = 80
      · rw [if_pos c1] at e; cases e
      rw [if_neg c1] at e
      rcases st with _ | ⟨n, S⟩
      · simp only at e
        cases q1 : lexM z with
        | error c => rw [q1] at e; cases e
        | ok t0 =>
          rw [q1] at e
          simp only at e
          by_cases c2 : t0 = []
          · rw [if_pos c2] at e
            exact ih _ _ _ (fun _ _ k => by cases k) e
          · rw [if_neg c2] at e
            cases q2 : namesM z with
            | error c => rw [q2] at e; cases e
            | ok n =>
              rw [q2] at e
              exact ih _ _ _ (fun _ _ k => by cases k; exact PS0_ok) e
      · simp only at e
        cases q1 : readM n S z with
        | error c => rw [q1] at e; cases e
        | ok S' =>
          rw [q1] at e
          exact ih _ _ _ (fun _ _ k => by cases k; exact readM_ok (h _ _ rfl) q1) e
  unfold progM at e
  cases q : progGo none 0 ls with
  | error c => rw [q] at e; cases e
  | ok st =>
    rw [q] at e
    rcases st with _ | ⟨n, S⟩
    · cases e
    · simp only at e
      have pok := key _ _ _ _ (fun _ _ k => by cases k) q n S rfl
      unfold finM at e
      by_cases c : 1 < S.blks.length
      · rw [if_pos c] at e; cases e
      · rw [if_neg c] at e
        cases e
        have h1 := fin_tup pok
        show (tupled (namesD ns) && (tupled _ && true)) = true
        rw [show tupled (namesD ns) = true from strs_tup ns, h1] <;> rfl
abbrev N_Session_init : List Str := ["self", "text"]
theorem sc_Session_init : FnScope N_Session_init ["self", "text"] (defScope s_Session_init) := ⟨rfl, rfl, rfl, by decide +kernel, rfl, by decide +kernel, by decide +kernel⟩
theorem b_Session_init (T : Tx K mg) : Binds K T.fd_Session_init ["self", "text"] [] := T.F_Session_init.bindsN fun _ _ _ _ _ _ us hl => match us, hl with | [_, _], _ => rfl
theorem ok_Session_init (T : Tx K mg) : FnOk P w K mg base (L2.CX P w) 82 (He.ma K (He.ga K "Session") "__init__") T.fd_Session_init ["self", "text"] (spSesInit K) := by
  refine T.F_Session_init.ok sc_Session_init (fun vs H Q E h => ?_) (fun cdv A outer s H vs Q E hr h => ?_)
  · obtain ⟨p, dx, text, raw, rfl, _⟩ := h
    rfl
  obtain ⟨p, dx, text, raw, rfl, hp, tx, q⟩ := h
  have tk0 : Takes (cxOf (L2.CX P w) P w K mg base N_Session_init "Session.__init__" (defScope s_Session_init) (He.ma K (He.ga K "Session") "__init__") cdv A outer s H E) (fun cls d _ H => E cls d H) := takes_of rfl rfl rfl rfl
  refine ⟨_, (pss_cons (ps_fld (pv 0) (pe_call (ok_parse_program T) (hr.mono (by decide)) rfl T.g_parse_program T.F_parse_program.kp (b_parse_program T) .nil (passes_call tk0 fun _ _ _ _ h => h) (pa_cons (pv 1) pa_nil)) rfl)
      (pss_one (ps_fld (pv 0) (pe_lst pa_nil) rfl))), ?_⟩
  refine ⟨_, rfl, text, raw, rfl, tx, ?_⟩
  rcases e : progM (raw.map cutM) with lc | nd
  · rw [e] at q
    exact q
  obtain ⟨ns, ds⟩ := nd
  rw [e] at q
  simp only at q ⊢
  have tt := prog_tup e
  intro v H1 s1 d1
  refine ⟨_, rfl, p, _, dx, _, rfl, s1 _ _ hp, T.cl_Session, T.na_Session_present, (by decide), ?_⟩
  have k1 : Kp p H1 (upd H1 p (.ins (He.ga K "Session") dx (putF "present" v []))) := Kf.upd rfl
  have d2 := dp_mono (kp_tups k1 ⟨_, dx, _, s1 _ _ hp⟩) _ _ tt d1
  have h2 : upd H1 p (.ins (He.ga K "Session") dx (putF "present" v [])) p = some (.ins (He.ga K "Session") dx [("present", v)]) := upd_same
  generalize upd H1 p (.ins (He.ga K "Session") dx (putF "present" v [])) = H2 at k1 d2 h2
  refine ⟨sz 0, ?_⟩
  walk_at "new 3"
  have h3p := s3 _ _ h2
  refine ⟨_, rfl, p, _, dx, _, rfl, h3p, T.cl_Session, T.na_Session_marks, (by show 1 < 1000; decide), ?_⟩
  have k3 : Kp p H3 (upd H3 p (.ins (He.ga K "Session") dx (putF "marks" (.ref p3) [("present", v)]))) := Kf.upd rfl
  exact q v _ p3 ((Kp.same ((Kf.of s1).trans k1) s3).trans k3) (dp_mono (kp_tups k3 ⟨_, dx, _, h3p⟩) _ _ tt (dp_mono (Same.tups s3) _ _ tt d2)) upd_same
abbrev N_Session_program : List Str := ["self"]
theorem sc_Session_program : FnScope N_Session_program ["self"] (defScope s_Session_program) := ⟨rfl, rfl, rfl, by decide +kernel, rfl, by decide +kernel, by decide +kernel⟩
theorem b_Session_program (T : Tx K mg) : Binds K T.fd_Session_program ["self"] [] := T.F_Session_program.bindsN fun _ _ _ _ _ _ us hl => match us, hl with | [_], _ => rfl
theorem ok_Session_program (T : Tx K mg) : FnOk P w K mg base CX0 1 (He.ma K (He.ga K "Session") "program") T.fd_Session_program ["self"] (spSesProg K) := by
  refine T.F_Session_program.ok sc_Session_program (fun vs H Q E h => ?_) (fun cdv A outer s H vs Q E hr h => ?_)
  · obtain ⟨p, dx, ml, v, rfl, _⟩ := h
    rfl
  obtain ⟨p, dx, ml, v, rfl, hp, q⟩ := h
  refine ⟨_, PSs.nox (pss_one (ps_ret (pe_fldK (K := K) (pv 0) rfl rfl))), ?_⟩
  exact ⟨_, rfl, p, _, dx, _, _, rfl, hp, T.cl_Session, T.na_Session_present, rfl, q⟩
end
end Kw

set_option Elab.async false
set_option linter.all false
set_option maxRecDepth 100000
set_option maxHeartbeats 4000000
namespace Kw
open PySem PySem.Spec PyProof.Rows L2
local macro_rules | `(tactic| walk_at $s:str) => do
  match s.getString.splitOn " " with
  | ["new", a] =>
    let p := Lean.mkIdent (Lean.Name.mkSimple ("p" ++ a))
    let n := Lean.mkIdent (Lean.Name.mkSimple ("n" ++ a))
    let H := Lean.mkIdent (Lean.Name.mkSimple ("H" ++ a))
    let s := Lean.mkIdent (Lean.Name.mkSimple ("s" ++ a))
    let h := Lean.mkIdent (Lean.Name.mkSimple ("h" ++ a))
    `(tactic| (intro $p $n; generalize e : upd _ $p _ = $H; have $s : Same _ $H := e ▸ same_new $n; have $h : $H $p = some _ := e ▸ upd_same; clear e))
  | _ => Lean.Macro.throwUnsupported
/-! ### the law's lexer: one token -/
def lawEnd (c : Nat) (r : List Nat) : Nat := if inS sSmall c = true then (run sAl r).length else if inS sDig c = true then (run sDig r).length else if mk (r.take 2) = ":=" then 2 else 1
def lawKind (c : Nat) (t : Str) : Str :=
  if t ∈ sKeys then "word" else if inS sSmall c = true ∧ t.length < 9 then "name" else if inS sDig c = true ∧ t.length < 7 ∧ (t = "0" ∨ c ≠ 48) then "number" else if t ∈ sSyms then "symbol" else ""
theorem small_al {c : Nat} (h : inS sSmall c = true) : inS sAl c = true := by
  unfold inS sAl at *
  rw [show (sSmall ++ sDig).cps.toList = sSmall.cps.toList ++ sDig.cps.toList from TL.tl_append _ _]
  exact decide_eq_true (List.mem_append_left _ (of_decide_eq_true h))
theorem small_dig {c : Nat} (h : inS sSmall c = true) : inS sDig c = false := by
  have e : sSmall.cps.toList = (List.range 26).map (· + 97) := by decide +kernel
  cases d : inS sDig c with
  | false => rfl
  | true =>
    have h1 := dig_in d
    unfold inS at h
    have h2 := of_decide_eq_true h
    rw [e] at h2
    obtain ⟨k, _, hk⟩ := List.mem_map.mp h2
    omega
theorem str_ext {a b : Str} (h : tl a = tl b) : a = b := tl_inj h
theorem head_of {t : Str} {c : Nat} {r : List Nat} (h : tl t = c :: r) {ts : List Str} {ok : Nat → Bool} (m : t ∈ ts) (a : ts.all (fun s => match tl s with | [] => true | d :: _ => ok d) = true) : ok c = true := by
  have := List.all_eq_true.mp a t m
  rw [h] at this
  exact this
theorem keys_small {c : Nat} {r : List Nat} {t : Str} (h : tl t = c :: r) (m : t ∈ sKeys) : inS sSmall c = true := head_of h m (by decide +kernel)
theorem syms_not {c : Nat} {r : List Nat} {t : Str} (h : tl t = c :: r) (m : t ∈ sSyms) : inS sSmall c = false ∧ inS sDig c = false ∧ c ≠ 32 := by
  have := head_of (ok := fun c => !inS sSmall c && (!inS sDig c && !decide (c = 32))) h m (by decide +kernel)
  simp at this
  exact this
/-- the symbols: the two-sign one, or one sign -/
theorem syms_find {c : Nat} {r : List Nat} : (sSyms.find? fun s => decide (mk ((c :: r).take s.length) = s)) = if mk ((c :: r).take 2) = ":=" then some (":=" : Str) else (if mk [c] ∈ sSyms then some (mk [c]) else none) := by
  have one : ∀ s : Str, s.length = 1 → mk ((c :: r).take s.length) = mk [c] := fun s h => by rw [h] <;> rfl
  have e : sSyms = (":=" : Str) :: ["+", "-", "*", "/", "(", ")", ","] := rfl
  rw [e, List.find?_cons]
  have l2 : (":=" : Str).length = 2 := by decide +kernel
  rw [l2]
  by_cases h : mk ((c :: r).take 2) = ":="
  · rw [if_pos h, decide_eq_true h]
  · rw [if_neg h, decide_eq_false h]
    have all1 : ∀ s ∈ (["+", "-", "*", "/", "(", ")", ","] : List Str), s.length = 1 := by decide +kernel
    have ne2 : mk [c] ≠ ":=" := fun q => by
      have := congrArg Str.length q
      rw [l2] at this
      cases this
    have key : ∀ l : List Str, (∀ s ∈ l, s.length = 1) → l.find? (fun s => decide (mk ((c :: r).take s.length) = s)) = if mk [c] ∈ l then some (mk [c]) else none := by
      intro l
      induction l with
      | nil => intro _; rfl
      | cons s l ih =>
        intro a
        rw [List.find?_cons, one s (a s (List.mem_cons_self ..))]
        by_cases q : mk [c] = s
        · rw [decide_eq_true q, if_pos (by rw [q]; exact List.mem_cons_self ..), q]
        · rw [decide_eq_false q]
          have ih := ih fun s hs => a s (List.mem_cons_of_mem _ hs)
          show l.find? _ = _
          rw [ih]
          by_cases m : mk [c] ∈ l
          · rw [if_pos m, if_pos (List.mem_cons_of_mem _ m)]
          · rw [if_neg m, if_neg (fun z => (List.mem_cons.mp z).elim q m)]
    show (["+", "-", "*", "/", "(", ")", ","] : List Str).find? _ = _
    rw [key _ all1]
    by_cases m : mk [c] ∈ (["+", "-", "*", "/", "(", ")", ","] : List Str)
    · rw [if_pos m, if_pos (List.mem_cons_of_mem _ m)]
    · rw [if_neg m, if_neg (fun z => (List.mem_cons.mp z).elim ne2 m)]
theorem lawEnd_pos {c : Nat} {r : List Nat} : 0 < lawEnd c (c :: r) ∧ lawEnd c (c :: r) ≤ (c :: r).length := by
  unfold lawEnd
  by_cases a : inS sSmall c = true
  · rw [if_pos a]
    exact ⟨by rw [run_yes (small_al a)]; simp, run_len _ _⟩
  rw [if_neg a]
  by_cases b : inS sDig c = true
  · rw [if_pos b]
    exact ⟨by rw [run_yes b]; simp, run_len _ _⟩
  rw [if_neg b]
  by_cases d : mk ((c :: r).take 2) = ":="
  · rw [if_pos d]
    refine ⟨by decide, ?_⟩
    cases r with
    | nil =>
      have := congrArg Str.length d
      rw [show (":=" : Str).length = 2 by decide +kernel] at this
      cases this
    | cons e r => simp
  · rw [if_neg d]
    exact ⟨by decide, by simp⟩
theorem zero_text {c : Nat} {r : List Nat} {t : Str} (h : tl t = c :: r) : (t = "0" ∨ c ≠ 48) ↔ ¬ (1 < t.length ∧ c = 48) := by
  have e : tl ("0" : Str) = [48] := by decide +kernel
  have l : t.length = r.length + 1 := by rw [len_tl, h] <;> rfl
  constructor
  · rintro (z | z) ⟨h1, h2⟩
    · rw [z, e] at h
      obtain ⟨_, h4⟩ := List.cons.inj h
      rw [← h4] at l
      simp at l
      omega
    · exact z h2
  · intro z
    by_cases d : c = 48
    · left
      refine str_ext ?_
      have : r = [] := List.eq_nil_of_length_eq_zero (by
        have := fun q => z ⟨q, d⟩
        omega)
      rw [h, e, d, this]
    · exact .inr d
/-- the law's token is the program's -/
theorem law_tok {c : Nat} {r : List Nat} (h32 : c ≠ 32) : (match tok1 (c :: r) with
    | none => lawKind c (mk ((c :: r).take (lawEnd c (c :: r)))) = ""
    | some (k, t) => mk ((c :: r).take (lawEnd c (c :: r))) = t ∧ lawKind c t = k ∧ lawEnd c (c :: r) = t.length) ∧ mk ((c :: r).take (lawEnd c (c :: r))) ≠ " " := by
  obtain ⟨p1, p2⟩ := lawEnd_pos (c := c) (r := r)
  have ht : ∃ r', tl (mk ((c :: r).take (lawEnd c (c :: r)))) = c :: r' := by
    cases e : lawEnd c (c :: r) with
    | zero => omega
    | succ n => exact ⟨_, rfl⟩
  have nsp : mk ((c :: r).take (lawEnd c (c :: r))) ≠ " " := fun q => by
    obtain ⟨r', ht⟩ := ht
    rw [q, show tl (" " : Str) = [32] by decide +kernel] at ht
    exact h32 (List.cons.inj ht).1.symm
  refine ⟨?_, nsp⟩
  obtain ⟨r', ht⟩ := ht
  have le : (mk ((c :: r).take (lawEnd c (c :: r)))).length = lawEnd c (c :: r) := by
    rw [mk_len, List.length_take]; omega
  show (match tokC c (c :: r) with
    | none => _
    | some (k, t) => _)
  unfold tokC
  by_cases a : inS sSmall c = true
  · have eE : lawEnd c (c :: r) = (run sAl (c :: r)).length := by unfold lawEnd; rw [if_pos a]
    rw [if_pos a]
    have hw : (c :: r).take (lawEnd c (c :: r)) = run sAl (c :: r) := by rw [eE, run_take]
    rw [hw] at ht ⊢
    rw [eE]
    unfold lawKind
    by_cases b : mk (run sAl (c :: r)) ∈ sKeys
    · rw [if_pos (decide_eq_true b)]
      exact ⟨rfl, by rw [if_pos b], rfl⟩
    · rw [if_neg (by rw [decide_eq_false b]; exact Bool.false_ne_true), if_neg b]
      have nd := small_dig a
      have ns : mk (run sAl (c :: r)) ∉ sSyms := fun m => by
        have := (syms_not ht m).1
        rw [a] at this; cases this
      by_cases d : 8 < (run sAl (c :: r)).length
      · rw [if_pos d]
        show (if _ then _ else _) = _
        rw [if_neg (fun z => by have := z.2; rw [mk_len] at this; omega), if_neg (fun z => by rw [nd] at z; cases z.1), if_neg ns]
      · rw [if_neg d]
        refine ⟨rfl, ?_, rfl⟩
        rw [if_neg b, if_pos ⟨a, by rw [mk_len]; omega⟩]
  · have a' : inS sSmall c = false := by simpa using a
    rw [if_neg a]
    have nk : ∀ {t : Str} {r' : List Nat}, tl t = c :: r' → t ∉ sKeys := fun h m => a (keys_small h m)
    by_cases b : inS sDig c = true
    · have eE : lawEnd c (c :: r) = (run sDig (c :: r)).length := by unfold lawEnd; rw [if_neg a, if_pos b]
      rw [if_pos b]
      have hw : (c :: r).take (lawEnd c (c :: r)) = run sDig (c :: r) := by rw [eE, run_take]
      rw [hw] at ht ⊢
      rw [eE]
      have ns : mk (run sDig (c :: r)) ∉ sSyms := fun m => by
        have := (syms_not ht m).2.1
        rw [b] at this; cases this
      have z0 := zero_text ht
      rw [mk_len] at z0
      unfold lawKind
      by_cases d : 6 < (run sDig (c :: r)).length ∨ (1 < (run sDig (c :: r)).length ∧ c = 48)
      · rw [if_pos d]
        show (if _ then _ else _) = _
        rw [if_neg (nk ht), if_neg (fun z => a z.1), if_neg (fun z => ?_), if_neg ns]
        obtain ⟨_, z1, z2⟩ := z
        rw [mk_len] at z1
        rcases d with d | d
        · omega
        · exact z0.mp z2 d
      · rw [if_neg d]
        refine ⟨rfl, ?_, rfl⟩
        rw [if_neg (nk ht), if_neg (fun z => a z.1), if_pos ⟨b, by rw [mk_len]; omega, z0.mpr (fun q => d (.inr q))⟩]
    · have b' : inS sDig c = false := by simpa using b
      rw [if_neg b]
      rw [syms_find]
      unfold lawKind
      by_cases d : mk ((c :: r).take 2) = ":="
      · have eE : lawEnd c (c :: r) = 2 := by unfold lawEnd; rw [if_neg a, if_neg b, if_pos d]
        rw [if_pos d]
        have hw : mk ((c :: r).take (lawEnd c (c :: r))) = ":=" := by rw [eE, d]
        rw [hw] at ht ⊢
        rw [eE]
        refine ⟨rfl, ?_, by decide +kernel⟩
        rw [if_neg (nk ht), if_neg (fun z => a z.1), if_neg (fun z => b z.1), if_pos (by decide +kernel)]
      · have eE : lawEnd c (c :: r) = 1 := by unfold lawEnd; rw [if_neg a, if_neg b, if_neg d]
        rw [if_neg d]
        have hw : (c :: r).take (lawEnd c (c :: r)) = [c] := by rw [eE] <;> rfl
        rw [hw] at ht ⊢
        rw [eE]
        by_cases m : mk [c] ∈ sSyms
        · rw [if_pos m]
          refine ⟨rfl, ?_, rfl⟩
          rw [if_neg (nk ht), if_neg (fun z => a z.1), if_neg (fun z => b z.1), if_pos m]
        · rw [if_neg m]
          show (if _ then _ else _) = _
          rw [if_neg (nk ht), if_neg (fun z => a z.1), if_neg (fun z => b z.1), if_neg m]
theorem law_sp {r : List Nat} : lawEnd 32 (32 :: r) = 1 ∧ lawKind 32 (mk [32]) = "" ∧ mk [32] = " " := by
  refine ⟨?_, by decide +kernel, by decide +kernel⟩
  unfold lawEnd
  rw [if_neg (by decide +kernel), if_neg (by decide +kernel), if_neg]
  intro q
  have := congrArg tl q
  rw [show tl (":=" : Str) = [58, 61] by decide +kernel] at this
  cases r <;> cases this
end Kw

set_option Elab.async false
set_option linter.all false
set_option maxRecDepth 100000
set_option maxHeartbeats 4000000
namespace Kw
open PySem PySem.Spec PyProof.Rows L2
local macro_rules | `(tactic| walk_at $s:str) => do
  match s.getString.splitOn " " with
  | ["new", a] =>
    let p := Lean.mkIdent (Lean.Name.mkSimple ("p" ++ a))
    let n := Lean.mkIdent (Lean.Name.mkSimple ("n" ++ a))
    let H := Lean.mkIdent (Lean.Name.mkSimple ("H" ++ a))
    let s := Lean.mkIdent (Lean.Name.mkSimple ("s" ++ a))
    let h := Lean.mkIdent (Lean.Name.mkSimple ("h" ++ a))
    `(tactic| (intro $p $n; generalize e : upd _ $p _ = $H; have $s : Same _ $H := e ▸ same_new $n; have $h : $H $p = some _ := e ▸ upd_same; clear e))
  | _ => Lean.Macro.throwUnsupported
/-! ### the law's tokens -/
def tkD (t : Tk) : PyData := .tuple [.str t.kind, .str t.text, .int (t.col : Int)]
def lawTs (z : Str) (ts : List Tk) : List Tk := ts ++ [⟨"", "", (tl z).length + 1⟩]
def LexAt (K : PySem.W.Frag) (H : Hp) (a : Addr) (ts : List Tk) : Prop := ∃ vs, H a = some (.lst vs) ∧ DpAll K H vs (ts.map tkD)
theorem tkDs_tup : ∀ ts : List Tk, tupled.go (ts.map tkD) = true
  | [] => rfl
  | _ :: ts => by
    show (true && tupled.go (ts.map tkD)) = true
    rw [tkDs_tup ts] <;> rfl
theorem LexAt.same {K : PySem.W.Frag} {H H' : Hp} {a : Addr} {ts : List Tk} (h : LexAt K H a ts) (s : Same H H') : LexAt K H' a ts := let ⟨vs, e, d⟩ := h; ⟨vs, s _ _ e, dp_monoAll (Same.tups s) _ _ (tkDs_tup ts) d⟩
def spLexed (K : PySem.W.Frag) : Sp := fun vs H Q _ => ∃ z : Str, vs = [.str z] ∧ (tl z).length ≤ 100000 ∧
  (match lexM z with
    | .error c => ∀ p a H', Same H H' → SqT K H' p [.ref a, .int (c : Int)] → Q (.ref p) H'
    | .ok ts => ∀ p a H', Same H H' → LexAt K H' a (lawTs z ts) → SqT K H' p [.ref a, .non] → Q (.ref p) H')
theorem eq_str (a b : Str) : decide (V.str a = V.str b) = decide (a = b) := by
  rw [Bool.eq_iff_iff]
  simp
theorem seq_join {s t : TS} {D : Ends} {σ : L2.St} {H : Hp} (R : L2.St → Hp → Prop) (h2 : ∀ σ' H', R σ' H' → t D σ' H') (h1 : ∀ nx : L2.St → Hp → Prop, (∀ σ' H', R σ' H' → nx σ' H') → s { D with nx := nx } σ H) : tSeq s t D σ H := h1 _ h2
theorem seq_set {v : V} {i : Nat} {u : TS} {D : Ends} {σ : L2.St} {H : Hp} (h : u D (σ.set i (some v)) H) : tSeq (tAsg (tC v) (gName i)) u D σ H := h
section
variable {P : Program} {w : World} {K : PySem.W.Frag} {mg : Str → Option Value} {base : Heap}
abbrev N_law_lexed : List Str := ["_law_line_here", "_law_letters", "_law_digits", "_law_tokens", "_law_at", "_law_end", "_law_more", "_law_text", "_law_kind"]
theorem sc_law_lexed : FnScope N_law_lexed ["_law_line_here"] (defScope s_law_lexed) := ⟨rfl, rfl, rfl, by decide +kernel, rfl, by decide +kernel, by decide +kernel⟩
theorem b_law_lexed (T : Tx K mg) : Binds K T.fd_law_lexed ["_law_line_here"] [] := T.F_law_lexed.bindsN fun _ _ _ _ _ _ us hl => match us, hl with | [_], _ => rfl
theorem ok_law_lexed (T : Tx K mg) : FnOk P w K mg base CX0 2 (He.ga K "_law_lexed") T.fd_law_lexed ["_law_line_here"] (spLexed K) := by
  refine T.F_law_lexed.ok sc_law_lexed (fun vs H Q E h => ?_) (fun cdv A outer s H vs Q E hr h => ?_)
  · obtain ⟨z, rfl, _⟩ := h
    rfl
  obtain ⟨z, rfl, hz, q⟩ := h
  refine ⟨_, PSs.nox (pss_cons (ps_set (i := 1) sc_law_lexed.nd rfl (Or.inl rfl) pe_str)
      (pss_cons (ps_set (i := 2) sc_law_lexed.nd rfl (Or.inl rfl) pe_str)
      (pss_cons (ps_set (i := 3) sc_law_lexed.nd rfl (Or.inl rfl) (pe_lst pa_nil))
      (pss_cons (ps_set (i := 4) sc_law_lexed.nd rfl (Or.inl rfl) pe_int)
      (pss_cons (ps_while PassesOwn.never (pt_cmpR (op_lt) (pv 4) (pe_callB call_len_str rfl T.z_len PySem.boot_len (pa_cons (pv 0) pa_nil)) (nomark _)) (pss_cons (ps_set (i := 5) sc_law_lexed.nd rfl (Or.inl rfl) (pe_op op_add (pv 4) pe_int))
      (pss_cons (ps_if (PW.pt (pw_or (pt_cmpR (op_in_sign) (pe_ix ix_str (pv 0) (pv 4) (fun _ _ => rfl)) (pv 1) (by rfl)) (pw_or1 (pt_cmpR (op_in_sign) (pe_ix ix_str (pv 0) (pv 4) (fun _ _ => rfl)) (pv 2) (by rfl))))) (pss_cons (ps_set (i := 6) sc_law_lexed.nd rfl (Or.inl rfl) (pe_ifExp (pt_cmpR (op_in_sign) (pe_ix ix_str (pv 0) (pv 4) (fun _ _ => rfl)) (pv 1) (by rfl)) (pe_op op_add_str (pv 1) (pv 2)) (pv 2)))
      (pss_one (ps_while PassesOwn.never (PW.pt (pw_and (pt_cmpR (op_lt) (pv 5) (pe_callB call_len_str rfl T.z_len PySem.boot_len (pa_cons (pv 0) pa_nil)) (nomark _)) (pw_and1 (pt_cmpR (op_in_sign) (pe_ix ix_str (pv 0) (pv 5) (fun _ _ => rfl)) (pv 6) (by rfl))))) (pss_one (ps_set (i := 5) sc_law_lexed.nd rfl (Or.inl rfl) (pe_op op_add (pv 5) pe_int)))))) (pss_one (ps_if (pt_cmpR (op_eq) (pe_slice sl_str (pv 0) (po_some (pv 4)) (po_some (pe_op op_add (pv 4) pe_int))) pe_str (nomark _)) (pss_one (ps_set (i := 5) sc_law_lexed.nd rfl (Or.inl rfl) (pe_op op_add (pv 4) pe_int))) pss_nil)))
      (pss_cons (ps_set (i := 7) sc_law_lexed.nd rfl (Or.inl rfl) (pe_slice sl_str (pv 0) (po_some (pv 4)) (po_some (pv 5))))
      (pss_cons (ps_set (i := 8) sc_law_lexed.nd rfl (Or.inl rfl) pe_str)
      (pss_cons (ps_if (pt_cmpR (r := rIn K false) (op_in_seq) (pv 7) (pe_lst (pa_cons pe_str (pa_cons pe_str (pa_cons pe_str (pa_cons pe_str (pa_cons pe_str pa_nil)))))) (by rfl)) (pss_one (ps_set (i := 8) sc_law_lexed.nd rfl (Or.inl rfl) pe_str)) (pss_one (ps_if (PW.pt (pw_and (pt_cmpR (op_in_sign) (pe_ix ix_str (pv 7) pe_int (fun _ _ => rfl)) (pv 1) (by rfl)) (pw_and1 (pt_cmpR (op_lt) (pe_callB call_len_str rfl T.z_len PySem.boot_len (pa_cons (pv 7) pa_nil)) pe_int (nomark _))))) (pss_one (ps_set (i := 8) sc_law_lexed.nd rfl (Or.inl rfl) pe_str)) (pss_one (ps_if (PW.pt (pw_and (pt_cmpR (op_in_sign) (pe_ix ix_str (pv 7) pe_int (fun _ _ => rfl)) (pv 2) (by rfl)) (pw_and (pt_cmpR (op_lt) (pe_callB call_len_str rfl T.z_len PySem.boot_len (pa_cons (pv 7) pa_nil)) pe_int (nomark _)) (pw_and1 (PW.pt (pw_or (pt_cmpR (op_eq) (pv 7) pe_str (nomark _)) (pw_or1 (pt_cmpR (op_ne) (pe_ix ix_str (pv 7) pe_int (fun _ _ => rfl)) pe_str (nomark _))))))))) (pss_one (ps_set (i := 8) sc_law_lexed.nd rfl (Or.inl rfl) pe_str)) (pss_one (ps_if (pt_cmpR (r := rIn K false) (op_in_seq) (pv 7) (pe_lst (pa_cons pe_str (pa_cons pe_str (pa_cons pe_str (pa_cons pe_str (pa_cons pe_str (pa_cons pe_str (pa_cons pe_str (pa_cons pe_str pa_nil))))))))) (by rfl)) (pss_one (ps_set (i := 8) sc_law_lexed.nd rfl (Or.inl rfl) pe_str)) pss_nil)))))))
      (pss_cons (ps_if (PW.pt (pw_or (PW.pt (pw_and (pt_cmpR (op_eq) (pv 8) pe_str (nomark _)) (pw_and1 (pt_cmpR (op_ne) (pv 7) pe_str (nomark _))))) (pw_or1 (PW.pt (pw_and (pt_cmpR (op_ne) (pv 8) pe_str (nomark _)) (pw_and1 (pt_cmpR (op_eq) (pe_callB (call_lenQ (K := K) rfl) rfl T.z_len PySem.boot_len (pa_cons (pv 3) pa_nil)) pe_int (nomark _)))))))) (pss_one (ps_ret (pe_tup (pa_cons (pv 3) (pa_cons (pe_op op_add (pv 4) pe_int) pa_nil))))) pss_nil)
      (pss_cons (ps_set (i := 3) sc_law_lexed.nd rfl (Or.inl rfl) (pe_op op_cat (pv 3) (pe_ifExp (pt_cmpR (op_ne) (pv 8) pe_str (nomark _)) (pe_lst (pa_cons (pe_tup (pa_cons (pv 8) (pa_cons (pv 7) (pa_cons (pe_op op_add (pv 4) pe_int) pa_nil)))) pa_nil)) (pe_lst pa_nil))))
      (pss_one (ps_set (i := 4) sc_law_lexed.nd rfl (Or.inl rfl) (pv 5)))))))))))
      (pss_one (ps_ret (pe_tup (pa_cons (pe_op op_cat (pv 3) (pe_lst (pa_cons (pe_tup (pa_cons pe_str (pa_cons pe_str (pa_cons (pe_op op_add (pe_callB call_len_str rfl T.z_len PySem.boot_len (pa_cons (pv 0) pa_nil)) pe_int) pa_nil)))) pa_nil))) (pa_cons pe_non pa_nil)))))))))), ?_⟩
  have hz' : z.length ≤ sizeLine := sz _ hz
  refine ⟨sz 0, ?_⟩
  walk_at "new 0"
  refine ⟨fun m σ H' => ∃ (i n : Nat) (ts : List Tk) (a : Addr) (v5 v6 v7 v8 : Option V), m = (tl z).length - i ∧ σ = [some (.str z), some (.str sSmall), some (.str sDig), some (.ref a), some (.int i), v5, v6, v7, v8] ∧ i ≤ (tl z).length ∧ (tl z).length - i < n ∧ lexGo (tl z) n i ts = lexM z ∧ ts.length ≤ 150 ∧ Same H H' ∧ LexAt K H' a ts,
    ⟨_, 0, (tl z).length + 1, [], p0, none, none, none, none, rfl, rfl, Nat.zero_le _, Nat.lt_succ_self _, rfl, by decide, s0, [], h0, .nil⟩, ?_⟩
  rintro m σ H1 ⟨i, n, ts, a, v5, v6, v7, v8, rfl, rfl, hi, hn, e, t150, s1, k1⟩
  refine ⟨_, rfl, _, rfl, _, rfl, hz', _, _, rfl, rfl, _, rfl, ?_⟩
  cases n with
  | zero => omega
  | succ n =>
  by_cases c : i < (tl z).length
  case neg =>
    rw [decide_eq_false (show ¬ (i : Int) < ((z.length : Nat) : Int) from fun y => c (Int.ofNat_lt.mp y))]
    refine iteF ?_
    have ei : (tl z).drop i = [] := List.drop_eq_nil_of_le (by omega)
    have e2 : lexGo (tl z) (n + 1) i ts = .ok ts := by
      unfold lexGo
      rw [ei]
    rw [← e, e2] at q
    simp only at q
    obtain ⟨vs, e1, d1⟩ := k1
    refine ⟨_, rfl, _, rfl, _, rfl, hz', _, _, rfl, rfl, sz 3, ?_⟩
    walk_at "new 2"
    refine ⟨sz 1, ?_⟩
    walk_at "new 3"
    have vl : vs.length ≤ 150 := by rw [dpAll_len d1, List.length_map]; exact t150
    refine ⟨a, p3, _, _, rfl, rfl, s3 _ _ (s2 _ _ e1), h3, sz _ (by show vs.length + 1 ≤ 100000; omega), ?_⟩
    walk_at "new 4"
    refine ⟨sz 2, ?_⟩
    walk_at "new 5"
    have ss := ((s2.trans s3).trans s4).trans s5
    refine q p5 p4 H5 (s1.trans ss) ⟨_, s5 _ _ h4, ?_⟩ (.of h5)
    unfold lawTs
    rw [List.map_append]
    exact dpAll_app (dp_monoAll (Same.tups ss) _ _ (tkDs_tup ts) d1) (.cons (.tup (.of (s5 _ _ (s4 _ _ (s3 _ _ h2)))) (.cons (.str _) (.cons (.str _) (.cons (.int _) .nil)))) .nil)
  rw [decide_eq_true (show (i : Int) < ((z.length : Nat) : Int) from Int.ofNat_lt.mpr c)]
  refine iteT ⟨_, fun _ _ h => h, ?_⟩
  have eg : (tl z)[i]? = some (tl z)[i] := List.getElem?_eq_getElem c
  have hd := drop_cons c
  generalize (tl z)[i] = d at eg hd
  have cut : ∀ n : Nat, cutS z (some ((i : Nat) : Int)) (some ((i + n : Nat) : Int)) = mk (((tl z).drop i).take n) := fun n => by
    rw [cut_sub hi, Nat.add_sub_cancel_left]
  have whl : ∀ (sg : Str) (σf : Nat → L2.St) (tb : TS) (D : Ends) (ct : TT), inS sg d = true →
      (∀ (j : Nat) (Q : Bool → Hp → Prop), j ≤ (tl z).length → Q (match (tl z)[j]? with
        | some x => inS sg x
        | none => false) H1 → ct (σf j) H1 Q) → (∀ (j : Nat) (D' : Ends), D'.nx (σf (j + 1)) H1 → tb D' (σf j) H1) →
      D.nx (σf (i + (run sg ((tl z).drop i)).length)) H1 → tWhile ct tb D (σf (i + 1)) H1 := by
    intro sg σf tb D ct hsg hct htb hD
    have e0 : i + (run sg ((tl z).drop i)).length = i + 1 + (run sg ((tl z).drop (i + 1))).length := by
      rw [hd, run_yes hsg, List.length_cons]; omega
    rw [e0] at hD
    refine ⟨fun m σ H' => ∃ j, m = (tl z).length - j ∧ σ = σf j ∧ H' = H1 ∧ j ≤ (tl z).length ∧ j + (run sg ((tl z).drop j)).length = i + 1 + (run sg ((tl z).drop (i + 1))).length, ⟨_, i + 1, rfl, rfl, rfl, c, rfl⟩, ?_⟩
    rintro m σ H' ⟨j, rfl, rfl, rfl, jl, je⟩
    refine hct j _ jl ?_
    by_cases jc : j < (tl z).length
    · have jg : (tl z)[j]? = some (tl z)[j] := List.getElem?_eq_getElem jc
      have jd := drop_cons jc
      generalize (tl z)[j] = x at jg jd
      rw [jg]
      simp only
      cases hx : inS sg x with
      | true =>
        refine ⟨_, fun _ _ h => h, htb j _ ⟨_, ?_, j + 1, rfl, rfl, rfl, jc, ?_⟩⟩
        · omega
        · rw [← je, jd, run_yes hx, List.length_cons]; omega
      | false =>
        have : j = i + 1 + (run sg ((tl z).drop (i + 1))).length := by
          rw [← je, jd, run_no hx, List.length_nil]
          rfl
        rw [← this] at hD
        exact hD
    · rw [List.getElem?_eq_none (by omega)]
      have : j = i + 1 + (run sg ((tl z).drop (i + 1))).length := by
        rw [← je, List.drop_eq_nil_of_le (by omega), run_nil, List.length_nil]
        rfl
      rw [← this] at hD
      exact hD
  refine ⟨_, rfl, _, _, rfl, rfl, ?_⟩
  dsimp only [gName]
  refine seq_join (fun σ' H' => H' = H1 ∧ ∃ v6, σ' = [some (.str z), some (.str sSmall), some (.str sDig), some (.ref a), some (.int i), some (.int ((i + lawEnd d ((tl z).drop i) : Nat) : Int)), v6, v7, v8]) ?_ ?_
  case refine_2 =>
    intro nx hnx
    refine ⟨_, rfl, _, rfl, z, i, d, rfl, rfl, hz', atI_nat eg, _, rfl, d, sSmall, rfl, rfl, _, rfl, ?_⟩
    rw [show decide (d ∈ sSmall.cps.toList) = inS sSmall d from rfl]
    cases a1 : inS sSmall d with
    | true =>
      refine iteT (iteT ?_)
      refine ⟨_, rfl, _, rfl, z, i, d, rfl, rfl, hz', atI_nat eg, _, rfl, d, sSmall, rfl, rfl, _, rfl, ?_⟩
      rw [show decide (d ∈ sSmall.cps.toList) = inS sSmall d from rfl, a1]
      refine iteT ?_
      refine ⟨_, rfl, _, rfl, _, _, rfl, rfl, by decide +kernel, ?_⟩
      refine whl sAl (fun j => [some (.str z), some (.str sSmall), some (.str sDig), some (.ref a), some (.int i), some (.int (j : Int)), some (.str sAl), v7, v8]) _ _ _ (small_al a1) ?_ ?_ ?_
      · intro j Q jl hQ
        refine ⟨_, rfl, _, rfl, _, rfl, hz', _, _, rfl, rfl, _, rfl, ?_⟩
        by_cases jc : j < (tl z).length
        · have jg : (tl z)[j]? = some (tl z)[j] := List.getElem?_eq_getElem jc
          rw [jg] at hQ
          refine ifT (decide_eq_true (Int.ofNat_lt.mpr jc)) ?_
          exact ⟨_, rfl, _, rfl, z, j, _, rfl, rfl, hz', atI_nat jg, _, rfl, _, sAl, rfl, rfl, _, rfl, hQ⟩
        · rw [List.getElem?_eq_none (by omega)] at hQ
          exact ifF (decide_eq_false fun y => jc (Int.ofNat_lt.mp y)) hQ
      · intro j D' hD
        exact ⟨_, rfl, _, _, rfl, rfl, hD⟩
      have eE : lawEnd d ((tl z).drop i) = (run sAl ((tl z).drop i)).length := by unfold lawEnd; rw [if_pos a1]
      rw [← eE]
      exact hnx _ _ ⟨rfl, _, rfl⟩
    | false =>
      refine iteF ?_
      refine ⟨_, rfl, _, rfl, z, i, d, rfl, rfl, hz', atI_nat eg, _, rfl, d, sDig, rfl, rfl, _, rfl, ?_⟩
      rw [show decide (d ∈ sDig.cps.toList) = inS sDig d from rfl]
      have na : ¬ inS sSmall d = true := by rw [a1]; exact Bool.false_ne_true
      cases b1 : inS sDig d with
      | true =>
        refine iteT ?_
        refine ⟨_, rfl, _, rfl, z, i, d, rfl, rfl, hz', atI_nat eg, _, rfl, d, sSmall, rfl, rfl, _, rfl, ?_⟩
        rw [show decide (d ∈ sSmall.cps.toList) = inS sSmall d from rfl, a1]
        refine iteF ⟨_, rfl, ?_⟩
        refine whl sDig (fun j => [some (.str z), some (.str sSmall), some (.str sDig), some (.ref a), some (.int i), some (.int (j : Int)), some (.str sDig), v7, v8]) _ _ _ b1 ?_ ?_ ?_
        · intro j Q jl hQ
          refine ⟨_, rfl, _, rfl, _, rfl, hz', _, _, rfl, rfl, _, rfl, ?_⟩
          by_cases jc : j < (tl z).length
          · have jg : (tl z)[j]? = some (tl z)[j] := List.getElem?_eq_getElem jc
            rw [jg] at hQ
            refine ifT (decide_eq_true (Int.ofNat_lt.mpr jc)) ?_
            exact ⟨_, rfl, _, rfl, z, j, _, rfl, rfl, hz', atI_nat jg, _, rfl, _, sDig, rfl, rfl, _, rfl, hQ⟩
          · rw [List.getElem?_eq_none (by omega)] at hQ
            exact ifF (decide_eq_false fun y => jc (Int.ofNat_lt.mp y)) hQ
        · intro j D' hD
          exact ⟨_, rfl, _, _, rfl, rfl, hD⟩
        have eE : lawEnd d ((tl z).drop i) = (run sDig ((tl z).drop i)).length := by unfold lawEnd; rw [if_neg na, if_pos b1]
        rw [← eE]
        exact hnx _ _ ⟨rfl, _, rfl⟩
      | false =>
        refine iteF ?_
        have nb : ¬ inS sDig d = true := by rw [b1]; exact Bool.false_ne_true
        refine ⟨_, rfl, _, rfl, _, rfl, _, rfl, _, _, rfl, rfl, _, rfl, z, rfl, hz', rfl, _, rfl, ?_⟩
        have c2 := cut 2
        rw [show ((i + 2 : Nat) : Int) = (i : Int) + 2 from rfl] at c2
        rw [c2, eq_str]
        by_cases d1 : mk (((tl z).drop i).take 2) = ":="
        · refine ifT (decide_eq_true d1) ?_
          have eE : lawEnd d ((tl z).drop i) = 2 := by unfold lawEnd; rw [if_neg na, if_neg nb, if_pos d1]
          refine ⟨_, rfl, _, _, rfl, rfl, hnx _ _ ⟨rfl, v6, ?_⟩⟩
          rw [eE]
          rfl
        · refine ifF (decide_eq_false d1) ?_
          have eE : lawEnd d ((tl z).drop i) = 1 := by unfold lawEnd; rw [if_neg na, if_neg nb, if_neg d1]
          refine hnx _ _ ⟨rfl, v6, ?_⟩
          rw [eE]
          rfl
  rintro σ2 H2 ⟨rfl, v6', rfl⟩
  obtain ⟨p1, p2⟩ := lawEnd_pos (c := d) (r := (tl z).drop (i + 1))
  rw [← hd] at p1 p2
  have lt1 := law_tok (c := d) (r := (tl z).drop (i + 1))
  rw [← hd] at lt1
  have sp1 : d = 32 → lawEnd d ((tl z).drop i) = 1 ∧ lawKind d (mk (((tl z).drop i).take (lawEnd d ((tl z).drop i)))) = "" ∧ mk (((tl z).drop i).take (lawEnd d ((tl z).drop i))) = " " := fun h => by
    rw [hd]
    subst h
    obtain ⟨g1, g2, g3⟩ := law_sp (r := (tl z).drop (i + 1))
    rw [g1]
    exact ⟨rfl, g2, g3⟩
  refine ⟨_, rfl, _, rfl, _, rfl, _, rfl, _, rfl, z, rfl, hz', ?_⟩
  rw [cut]
  have p3 : lawEnd d ((tl z).drop i) ≤ (tl z).length - i := by rw [List.length_drop] at p2; exact p2
  have tlen : (mk (((tl z).drop i).take (lawEnd d ((tl z).drop i)))).length = lawEnd d ((tl z).drop i) := by rw [mk_len, List.length_take]; omega
  have t0 : (tl (mk (((tl z).drop i).take (lawEnd d ((tl z).drop i)))))[0]? = some d := by
    rw [tl_mk, hd]
    cases q9 : lawEnd d (d :: (tl z).drop (i + 1)) with
    | zero => rw [hd] at p1; omega
    | succ k => rfl
  generalize mk (((tl z).drop i).take (lawEnd d ((tl z).drop i))) = t at lt1 sp1 tlen t0
  generalize lawEnd d ((tl z).drop i) = le at lt1 sp1 tlen p1 p2 p3
  have tz : t.length ≤ sizeLine := sz _ (by omega)
  dsimp only [gName]
  refine seq_set ?_
  refine seq_join (fun σ' H' => Same H2 H' ∧ σ' = [some (.str z), some (.str sSmall), some (.str sDig), some (.ref a), some (.int i), some (.int ((i + le : Nat) : Int)), v6', some (.str t), some (.str (lawKind d t))]) ?_ ?_
  case refine_2 =>
    intro nx hnx
    refine ⟨_, rfl, sz 5, ?_⟩
    walk_at "new 9"
    have kw : inV (.str t) [V.str "vars", V.str "repeat", V.str "forever", V.str "mean", V.str "end"] = decide (t ∈ sKeys) := inV_strs _ sKeys
    refine ⟨p9, _, rfl, .inl (.of h9), rfl, flat_strs sKeys, _, rfl, ?_⟩
    rw [kw]
    by_cases c1 : t ∈ sKeys
    · refine ifT (decide_eq_true c1) ?_
      refine hnx _ _ ⟨s9, ?_⟩
      unfold lawKind
      rw [if_pos c1]
      rfl
    refine ifF (decide_eq_false c1) ?_
    refine ⟨_, rfl, t, _, d, rfl, rfl, tz, atI_nat (j := 0) t0, _, rfl, d, sSmall, rfl, rfl, _, rfl, ?_⟩
    rw [show decide (d ∈ sSmall.cps.toList) = inS sSmall d from rfl]
    -- the last test
    have last : ¬ (inS sSmall d = true ∧ t.length < 9) → ¬ (inS sDig d = true ∧ t.length < 7 ∧ (t = "0" ∨ d ≠ 48)) → lawKind d t = if t ∈ sSyms then ("symbol" : Str) else ("" : Str) := fun n1 n2 => by
      unfold lawKind
      rw [if_neg c1, if_neg n1, if_neg n2]
    have zero : decide (V.str t = V.str "0") = decide (t = "0") := eq_str _ _
    have c48 : decide (V.str ⟨#[d]⟩ = V.str "0") = decide (d = 48) := by
      have e : ("0" : Str) = ⟨#[48]⟩ := by decide +kernel
      rw [e]
      by_cases q : d = 48
      · subst q; simp
      · rw [decide_eq_false q]
        exact decide_eq_false fun y => q (by
          have y1 := Str.mk.inj (V.str.inj y)
          have y2 := congrArg Array.toList y1
          exact (List.cons.inj y2).1)
    have sw : inV (.str t) [V.str ":=", V.str "+", V.str "-", V.str "*", V.str "/", V.str "(", V.str ")", V.str ","] = decide (t ∈ sSyms) := inV_strs _ sSyms
    by_cases c2 : inS sSmall d = true ∧ t.length < 9
    · rw [c2.1]
      refine iteT ?_
      refine ⟨_, rfl, _, rfl, tz, _, _, rfl, rfl, _, rfl, ?_⟩
      refine ifT (decide_eq_true (by have := c2.2; omega)) ?_
      refine hnx _ _ ⟨s9, ?_⟩
      unfold lawKind
      rw [if_neg c1, if_pos c2]
      rfl
    by_cases c3 : inS sDig d = true ∧ t.length < 7 ∧ (t = "0" ∨ d ≠ 48)
    · have ns : inS sSmall d = false := by
        cases q : inS sSmall d with
        | false => rfl
        | true => have := small_dig q; rw [c3.1] at this; cases this
      rw [ns]
      refine iteF (ifF rfl ?_)
      refine ⟨_, rfl, t, _, d, rfl, rfl, tz, atI_nat (j := 0) t0, _, rfl, d, sDig, rfl, rfl, _, rfl, ?_⟩
      rw [show decide (d ∈ sDig.cps.toList) = inS sDig d from rfl, c3.1]
      refine iteT ?_
      refine ⟨_, rfl, _, rfl, tz, _, _, rfl, rfl, _, rfl, ?_⟩
      refine ifT (decide_eq_true (by have := c3.2.1; omega)) ?_
      have fin : lawKind d t = "number" := by
        unfold lawKind
        rw [if_neg c1, if_neg c2, if_pos c3]
      refine ⟨_, rfl, rfl, _, rfl, ?_⟩
      rw [zero]
      by_cases c4 : t = "0"
      · refine ifT (decide_eq_true c4) (ifT rfl (hnx _ _ ⟨s9, ?_⟩))
        rw [fin]
        rfl
      · refine ifF (decide_eq_false c4) ?_
        refine ⟨_, rfl, t, _, d, rfl, rfl, tz, atI_nat (j := 0) t0, rfl, _, rfl, ?_⟩
        rw [c48, decide_eq_false (c3.2.2.resolve_left c4)]
        refine ifT rfl (hnx _ _ ⟨s9, ?_⟩)
        rw [fin]
        rfl
    have fin := last c2 c3
    -- then the list of symbols
    by_cases c5 : inS sSmall d = true
    case' pos =>
      rw [c5]
      refine iteT ?_
      refine ⟨_, rfl, _, rfl, tz, _, _, rfl, rfl, _, rfl, ?_⟩
      have c7 : ¬ t.length < 9 := fun h => c2 ⟨c5, h⟩
      refine ifF (decide_eq_false (by omega)) ?_
      refine ⟨_, rfl, t, _, d, rfl, rfl, tz, atI_nat (j := 0) t0, _, rfl, d, sDig, rfl, rfl, _, rfl, ?_⟩
      rw [show decide (d ∈ sDig.cps.toList) = inS sDig d from rfl, small_dig c5]
      refine iteF (ifF rfl ?_)
    case' neg =>
      rw [show inS sSmall d = false by simpa using c5]
      refine iteF (ifF rfl ?_)
      refine ⟨_, rfl, t, _, d, rfl, rfl, tz, atI_nat (j := 0) t0, _, rfl, d, sDig, rfl, rfl, _, rfl, ?_⟩
      rw [show decide (d ∈ sDig.cps.toList) = inS sDig d from rfl]
      rcases Classical.em (inS sDig d = true) with c6 | c6
      case' inl =>
        rw [c6]
        refine iteT ?_
        refine ⟨_, rfl, _, rfl, tz, _, _, rfl, rfl, _, rfl, ?_⟩
        by_cases c7 : t.length < 7
        case' pos =>
          refine ifT (decide_eq_true (by omega)) ?_
          have c8 : ¬ (t = "0" ∨ d ≠ 48) := fun h => c3 ⟨c6, c7, h⟩
          have c9 : d = 48 := Classical.not_not.mp fun h => c8 (.inr h)
          refine ⟨_, rfl, rfl, _, rfl, ?_⟩
          rw [zero]
          refine ifF (decide_eq_false fun h => c8 (.inl h)) ?_
          refine ⟨_, rfl, t, _, d, rfl, rfl, tz, atI_nat (j := 0) t0, rfl, _, rfl, ?_⟩
          rw [c48, decide_eq_true c9]
          refine ifF rfl ?_
        case' neg =>
          refine ifF (decide_eq_false (by omega)) (ifF rfl ?_)
      case' inr =>
        rw [show inS sDig d = false by simpa using c6]
        refine iteF (ifF rfl ?_)
    all_goals
      refine ⟨_, rfl, sz 8, ?_⟩
      walk_at "new 7"
      refine ⟨p7, _, rfl, .inl (.of h7), rfl, flat_strs sSyms, _, rfl, ?_⟩
      rw [sw]
      by_cases c9 : t ∈ sSyms
      · refine ifT (decide_eq_true c9) (hnx _ _ ⟨s9.trans s7, ?_⟩)
        rw [fin, if_pos c9]
        rfl
      · refine ifF (decide_eq_false c9) (hnx _ _ ⟨s9.trans s7, ?_⟩)
        rw [fin, if_neg c9]
        rfl
  rintro σ3 H3 ⟨s3, rfl⟩
  have e2 : lexGo (tl z) (n + 1) i ts = (if d = 32 then lexGo (tl z) n (i + 1) ts else match tok1 (d :: (tl z).drop (i + 1)) with
      | none => .error (i + 1)
      | some (k, t) => if ts.length = 150 then .error (i + 1) else lexGo (tl z) n (i + t.length) (ts ++ [⟨k, t, i + 1⟩])) := by
    conv => lhs; unfold lexGo
    rw [hd]
    try rfl
  rw [e2, ← hd] at e
  obtain ⟨vs, a1, d1⟩ := k1
  have a3 := s3 _ _ a1
  have vl : vs.length = ts.length := by rw [dpAll_len d1, List.length_map]
  have il : i + le ≤ (tl z).length := by omega
  by_cases c32 : d = 32
  · obtain ⟨g1, g2, g3⟩ := sp1 c32
    rw [if_pos c32] at e
    rw [g2, g3]
    refine ⟨_, rfl, rfl, _, rfl, ifT rfl ?_⟩
    refine ⟨_, rfl, rfl, _, rfl, ifF rfl ?_⟩
    refine ⟨_, rfl, rfl, _, rfl, ifF rfl (ifF rfl ?_)⟩
    refine ⟨_, rfl, _, rfl, rfl, _, rfl, ifF rfl ⟨sz 0, ?_⟩⟩
    walk_at "new 4"
    refine ⟨a, p4, vs, [], rfl, rfl, s4 _ _ a3, h4, sz _ (by rw [List.length_nil]; omega), ?_⟩
    rw [List.append_nil]
    walk_at "new 5"
    refine ⟨_, rfl, _, ?_, i + le, n, ts, p5, _, _, _, _, rfl, rfl, il, by omega, ?_, t150, ((s1.trans s3).trans s4).trans s5, vs, h5, dp_monoAll (Same.tups ((s3.trans s4).trans s5)) _ _ (tkDs_tup ts) d1⟩
    · omega
    · rw [g1]; exact e
  rw [if_neg c32] at e
  obtain ⟨lt2, lt3⟩ := lt1 c32
  rcases et : tok1 ((tl z).drop i) with _ | kt
  · rw [et] at lt2 e
    simp only at lt2 e
    rw [lt2]
    rw [← e] at q
    refine ⟨_, rfl, rfl, _, rfl, ifT rfl ?_⟩
    refine ⟨_, rfl, rfl, _, rfl, ?_⟩
    rw [eq_str, decide_eq_false lt3]
    refine ifT rfl (ifT rfl ?_)
    refine ⟨_, rfl, _, rfl, _, _, rfl, rfl, sz 2, ?_⟩
    walk_at "new 4"
    exact q p4 a H4 ((s1.trans s3).trans s4) (.of h4)
  obtain ⟨k, t'⟩ := kt
  have tk1 := tok1_kind et
  have tk2 := tok1_len et
  rw [et] at lt2 e
  simp only at lt2 e
  obtain ⟨g1, g2, g3⟩ := lt2
  subst g1
  rw [g2]
  have kne : k ≠ "" := by
    rcases tk1 with ⟨k, _⟩ | ⟨k, _⟩ | ⟨k, _⟩ | ⟨k, _⟩ <;> (rw [k]; decide +kernel)
  refine ⟨_, rfl, rfl, _, rfl, ?_⟩
  rw [eq_str, decide_eq_false kne]
  refine ifF rfl (ifF rfl ?_)
  refine ⟨_, rfl, rfl, _, rfl, ?_⟩
  rw [eq_str, decide_eq_false kne]
  refine ifT rfl ?_
  refine ⟨_, rfl, a, _, rfl, .inl (.of a3), ?_⟩
  rw [vl]
  refine ⟨rfl, _, rfl, ?_⟩
  by_cases f : ts.length = 150
  · rw [if_pos f] at e
    rw [← e] at q
    refine ifT (decide_eq_true (by rw [f] <;> rfl)) ?_
    refine ⟨_, rfl, _, rfl, _, _, rfl, rfl, sz 2, ?_⟩
    walk_at "new 4"
    exact q p4 a H4 ((s1.trans s3).trans s4) (.of h4)
  rw [if_neg f] at e
  refine ifF (decide_eq_false (fun y => f (by have := V.int.inj y; omega))) ?_
  refine ⟨_, rfl, _, rfl, rfl, _, rfl, ?_⟩
  rw [eq_str, decide_eq_false kne]
  refine ifT rfl ?_
  refine ⟨_, rfl, _, rfl, _, rfl, _, _, rfl, rfl, sz 3, ?_⟩
  walk_at "new 4"
  refine ⟨sz 1, ?_⟩
  walk_at "new 5"
  refine ⟨a, p5, vs, _, rfl, rfl, s5 _ _ (s4 _ _ a3), h5, sz _ (by show vs.length + 1 ≤ 100000; omega), ?_⟩
  walk_at "new 6"
  have ss := (s3.trans s4).trans (s5.trans s6)
  refine ⟨_, rfl, _, ?_, i + le, n, ts ++ [⟨k, t, i + 1⟩], p6, _, _, _, _, rfl, rfl, il, by omega, ?_, by rw [List.length_append, List.length_singleton]; omega, s1.trans ss, _, h6, ?_⟩
  · omega
  · rw [g3]; exact e
  · rw [List.map_append]
    exact dpAll_app (dp_monoAll (Same.tups ss) _ _ (tkDs_tup ts) d1) (.cons (.tup (.of (s6 _ _ (s5 _ _ h4))) (.cons (.str _) (.cons (.str _) (.cons (.int _) .nil)))) .nil)
end
end Kw

set_option Elab.async false
set_option linter.all false
set_option maxRecDepth 100000
set_option maxHeartbeats 4000000
namespace Kw
open PySem PySem.Spec PyProof.Rows L2
local macro_rules | `(tactic| walk_at $s:str) => do
  match s.getString.splitOn " " with
  | ["new", a] =>
    let p := Lean.mkIdent (Lean.Name.mkSimple ("p" ++ a))
    let n := Lean.mkIdent (Lean.Name.mkSimple ("n" ++ a))
    let H := Lean.mkIdent (Lean.Name.mkSimple ("H" ++ a))
    let s := Lean.mkIdent (Lean.Name.mkSimple ("s" ++ a))
    let h := Lean.mkIdent (Lean.Name.mkSimple ("h" ++ a))
    `(tactic| (intro $p $n; generalize e : upd _ $p _ = $H; have $s : Same _ $H := e ▸ same_new $n; have $h : $H $p = some _ := e ▸ upd_same; clear e))
  | _ => Lean.Macro.throwUnsupported
/-! ### the law's tokens and the program's -/
/-- kind and text belong together -/
structure KT (t : Tk) : Prop where
  kind : ∃ c r, tl t.text = c :: r ∧ lawKind c t.text = t.kind
  real : t.kind ≠ "" ∧ t.kind ≠ "end of line"
theorem kt_of {z : Str} {ts : List Tk} {t : Tk} (e : lexM z = .ok ts) (m : t ∈ ts) : KT t := by
  have h := ((lexM_of e).1 t m).at_
  have hk := tok1_kind h
  refine ⟨?_, ?_⟩
  · cases q : (tl z).drop (t.col - 1) with
    | nil => rw [q] at h; cases h
    | cons c r =>
      rw [q] at h
      have c32 : c ≠ 32 := fun z => by
        subst z
        have h : tokC 32 (32 :: r) = some (t.kind, t.text) := h
        unfold tokC at h
        rw [if_neg (by decide +kernel), if_neg (by decide +kernel)] at h
        cases f : sSyms.find? fun s => decide (mk ((32 :: r).take s.length) = s) with
        | none => rw [f] at h; cases h
        | some s =>
          have m1 := List.mem_of_find?_eq_some f
          have m2 := List.find?_some f
          have m2 := of_decide_eq_true m2
          have pos : 0 < s.length := by
            have all : ∀ s ∈ sSyms, 0 < s.length := by decide +kernel
            exact all s m1
          have : tl s = 32 :: (r.take (s.length - 1)) := by
            rw [← m2, tl_mk]
            cases e : (mk ((32 :: r).take s.length)).length with
            | zero => rw [m2] at e; omega
            | succ n =>
              rw [m2] at e
              rw [e]
              rfl
          exact (syms_not this m1).2.2 rfl
      obtain ⟨l1, _⟩ := law_tok (c := c) (r := r) c32
      rw [h] at l1
      obtain ⟨l1, l2, l3⟩ := l1
      refine ⟨c, r.take (lawEnd c (c :: r) - 1), ?_, l2⟩
      rw [← l1, tl_mk]
      obtain ⟨p1, _⟩ := lawEnd_pos (c := c) (r := r)
      cases e : lawEnd c (c :: r) with
      | zero => omega
      | succ n => rfl
  · rcases hk with ⟨k, _⟩ | ⟨k, _⟩ | ⟨k, _⟩ | ⟨k, _⟩ <;> (rw [k]; decide +kernel)
theorem KT.keys {t : Tk} (h : KT t) (m : t.text ∈ sKeys) : t.kind = "word" := by
  obtain ⟨c, r, e, k⟩ := h.kind
  rw [← k]
  unfold lawKind
  rw [if_pos m]
theorem KT.word {t : Tk} (h : KT t) (m : t.kind = "word") : t.text ∈ sKeys := by
  obtain ⟨c, r, e, k⟩ := h.kind
  rw [← k] at m
  unfold lawKind at m
  by_cases a : t.text ∈ sKeys
  · exact a
  · rw [if_neg a] at m
    split at m
    · exact absurd m (by decide +kernel)
    · split at m
      · exact absurd m (by decide +kernel)
      · split at m
        · exact absurd m (by decide +kernel)
        · exact absurd m (by decide +kernel)
theorem KT.syms {t : Tk} (h : KT t) (m : t.text ∈ sSyms) : t.kind = "symbol" := by
  obtain ⟨c, r, e, k⟩ := h.kind
  obtain ⟨s1, s2, _⟩ := syms_not e m
  rw [← k]
  unfold lawKind
  rw [if_neg (fun z => by have := keys_small e z; rw [s1] at this; cases this), if_neg (fun z => by rw [s1] at z; cases z.1), if_neg (fun z => by rw [s2] at z; cases z.1), if_pos m]
/-- the law's token at a place -/
theorem law_at {z : Str} {ts : List Tk} (e : lexM z = .ok ts) {j : Nat} {t : Tk} (h : (ts ++ [endTk z])[j]? = some t) :
    ∃ t', (lawTs z ts)[j]? = some t' ∧ t'.text = t.text ∧ t'.col = t.col ∧ ((t.kind = "end of line" ∧ t'.kind = "" ∧ t.text = "") ∨ (t'.kind = t.kind ∧ KT t)) := by
  unfold lawTs
  by_cases c : j < ts.length
  · rw [List.getElem?_append_left c] at h ⊢
    exact ⟨t, h, rfl, rfl, .inr ⟨rfl, kt_of e (List.mem_of_getElem? h)⟩⟩
  · have hl := (List.getElem?_eq_some_iff.mp h).1
    rw [List.length_append, List.length_singleton] at hl
    have : j = ts.length := by omega
    subst this
    rw [List.getElem?_append_right (Nat.le_refl _), Nat.sub_self] at h ⊢
    rw [← Option.some.inj h]
    exact ⟨_, rfl, rfl, rfl, .inl ⟨rfl, rfl, rfl⟩⟩
theorem lawTs_len {z : Str} {ts : List Tk} : (lawTs z ts).length = (ts ++ [endTk z]).length := by
  unfold lawTs
  rw [List.length_append, List.length_append] <;> rfl
/-- a token's tuple -/
theorem tk_get {K : PySem.W.Frag} {H : Hp} {vs : List V} {L : List Tk} {j : Nat} {t : Tk} (d : DpAll K H vs (L.map tkD)) (h : L[j]? = some t) : ∃ b, vs[j]? = some (.ref b) ∧ SqT K H b [.str t.kind, .str t.text, .int (t.col : Int)] := by
  have l := dpAll_len d
  rw [List.length_map] at l
  have jl := (List.getElem?_eq_some_iff.mp h).1
  obtain ⟨x, hx⟩ : ∃ x, vs[j]? = some x := ⟨_, List.getElem?_eq_getElem (by omega)⟩
  obtain ⟨dd, e1, e2⟩ := dpAll_get d hx
  rw [List.getElem?_map, h] at e1
  have e1 := Option.some.inj e1
  subst e1
  cases e2 with
  | tup h1 h2 =>
    cases h2 with
    | cons a1 t1 => cases t1 with
      | cons a2 t2 => cases t2 with
        | cons a3 t3 =>
          cases t3
          cases a1
          cases a2
          cases a3
          exact ⟨_, hx, h1⟩
theorem fmod2 (i : Nat) : decide (V.int ((i : Int).fmod 2) = V.int 0) = decide (i % 2 = 0) := by
  rw [Int.fmod_eq_emod_of_nonneg _ (by decide), Bool.eq_iff_iff]
  simp
  omega
def spDeclL (K : PySem.W.Frag) : Sp := fun vs H Q _ => ∃ (a : Addr) (z : Str) (ts : List Tk), vs = [.ref a] ∧ lexM z = .ok ts ∧ (tl z).length ≤ 100000 ∧ LexAt K H a (lawTs z ts) ∧
  (match namesT (ts ++ [endTk z]) with
    | .error c => ∀ p b xs H', Same H H' → H' b = some (.lst xs) → SqT K H' p [.ref b, .int (c : Int)] → Q (.ref p) H'
    | .ok ns => ∀ p b H', Same H H' → H b = none → H' b = some (.lst (ns.map V.str)) → SqT K H' p [.ref b, .non] → Q (.ref p) H')
section
variable {P : Program} {w : World} {K : PySem.W.Frag} {mg : Str → Option Value} {base : Heap}
abbrev N_law_declared : List Str := ["_law_tokens", "_law_names", "_law_index", "_law_kind", "_law_text", "_law_column"]
theorem sc_law_declared : FnScope N_law_declared ["_law_tokens"] (defScope s_law_declared) := ⟨rfl, rfl, rfl, by decide +kernel, rfl, by decide +kernel, by decide +kernel⟩
theorem b_law_declared (T : Tx K mg) : Binds K T.fd_law_declared ["_law_tokens"] [] := T.F_law_declared.bindsN fun _ _ _ _ _ _ us hl => match us, hl with | [_], _ => rfl
theorem ok_law_declared (T : Tx K mg) : FnOk P w K mg base CX0 2 (He.ga K "_law_declared") T.fd_law_declared ["_law_tokens"] (spDeclL K) := by
  refine T.F_law_declared.ok sc_law_declared (fun vs H Q E h => ?_) (fun cdv A outer s H vs Q E hr h => ?_)
  · obtain ⟨a, z, ts, rfl, _⟩ := h
    rfl
  obtain ⟨a, z, ts, rfl, el, hz, hL, q⟩ := h
  refine ⟨_, PSs.nox (pss_cons (ps_set (i := 1) sc_law_declared.nd rfl (Or.inl rfl) (pe_lst pa_nil))
      (pss_cons (ps_if (pt_cmpR (op_ne) (pe_ix (r := rIxT K) ix_tup (pe_ix (r := rIxL K) ix_list (pv 0) pe_int (fun _ _ => rfl)) pe_int (fun _ _ => rfl)) pe_str (nomark _)) (pss_one (ps_ret (pe_tup (pa_cons (pv 1) (pa_cons (pe_ix (r := rIxT K) ix_tup (pe_ix (r := rIxL K) ix_list (pv 0) pe_int (fun _ _ => rfl)) pe_int (fun _ _ => rfl)) pa_nil))))) pss_nil)
      (pss_cons (ps_for PassesOwn.never rfl (pi_enum (by rfl) T.z_enumerate (pa_cons (pe_slice (r := rSlL K) sl_list (pv 0) (po_some pe_int) po_none) pa_nil)) (pg_tup rfl (pgs_cons (pg_name (i := 2) sc_law_declared.nd rfl (Or.inl rfl)) (pgs_cons (pg_tup rfl (pgs_cons (pg_name (i := 3) sc_law_declared.nd rfl (Or.inl rfl)) (pgs_cons (pg_name (i := 4) sc_law_declared.nd rfl (Or.inl rfl)) (pgs_cons (pg_name (i := 5) sc_law_declared.nd rfl (Or.inl rfl)) pgs_nil)))) pgs_nil))) (pss_one (ps_if (pt_cmpR (op_eq) (pe_op op_modN (pv 2) pe_int) pe_int (nomark _)) (pss_cons (ps_if (PW.pt (pw_or (pt_cmpR (op_ne) (pv 3) pe_str (nomark _)) (pw_or (pt_cmpR (r := rIn K false) (op_in_seq) (pv 4) (pv 1) (by rfl)) (pw_or1 (pt_cmpR (op_eq) (pe_callB (call_lenQ (K := K) rfl) rfl T.z_len PySem.boot_len (pa_cons (pv 1) pa_nil)) pe_int (nomark _)))))) (pss_one (ps_ret (pe_tup (pa_cons (pv 1) (pa_cons (pv 5) pa_nil))))) pss_nil)
      (pss_one (ps_expr (pe_bm PySem.F.plainAttrs_list PySem.F.slot_list_append PySem.F.type_list_append mt_append (pv 1) (pa_cons (pv 4) pa_nil))))) (pss_one (ps_if (pt_cmpR (op_eq) (pv 3) pe_str (nomark _)) (pss_one (ps_ret (pe_tup (pa_cons (pv 1) (pa_cons pe_non pa_nil))))) (pss_one (ps_if (pt_cmpR (op_ne) (pv 4) pe_str (nomark _)) (pss_one (ps_ret (pe_tup (pa_cons (pv 1) (pa_cons (pv 5) pa_nil))))) pss_nil)))))))
      (pss_one (ps_ret (pe_tup (pa_cons (pv 1) (pa_cons pe_non pa_nil)))))))), ?_⟩
  have tok := lexM_ok hz el
  have at_ := fun {j : Nat} {t : Tk} => law_at (z := z) (ts := ts) el (j := j) (t := t)
  have Ll : (lawTs z ts).length = (ts ++ [endTk z]).length := lawTs_len
  generalize ts ++ [endTk z] = T' at q tok at_ Ll
  generalize lawTs z ts = L at hL at_ Ll
  have l151 := tok.len
  refine ⟨sz 0, ?_⟩
  walk_at "new 0"
  obtain ⟨vs, a1, d1⟩ := hL.same s0
  have vl : vs.length = T'.length := by rw [dpAll_len d1, List.length_map, Ll]
  obtain ⟨t0, ht0⟩ : ∃ t, T'[0]? = some t := ⟨_, List.getElem?_eq_getElem tok.pos⟩
  obtain ⟨t0', hl0, tx0, tc0, tk0⟩ := at_ ht0
  obtain ⟨b0, hb0, sb0⟩ := tk_get d1 hl0
  rw [tx0, tc0] at sb0
  unfold namesT at q
  rw [takeM_eq ht0] at q
  refine ⟨_, rfl, a, _, _, _, rfl, rfl, .of a1, atI_nat (j := 0) hb0, b0, _, _, _, rfl, rfl, sb0, atI_nat (j := 1) rfl, rfl, _, rfl, ?_⟩
  rw [eq_str]
  have w0 : tkOk "word" (some "vars") t0 = true ↔ t0.text = "vars" := by
    unfold tkOk
    constructor
    · intro h
      rw [Bool.and_eq_true] at h
      exact of_decide_eq_true h.2
    · intro h
      rw [Bool.and_eq_true]
      refine ⟨decide_eq_true ?_, decide_eq_true h⟩
      rcases tk0 with ⟨_, _, k⟩ | ⟨_, k⟩
      · rw [h] at k; exact absurd k (by decide +kernel)
      · exact k.keys (by rw [h]; decide +kernel)
  by_cases c0 : t0.text = "vars"
  case neg =>
    rw [if_neg (fun h => c0 (w0.mp h))] at q
    refine ifT (by rw [decide_eq_false c0] <;> rfl) ?_
    refine ⟨_, rfl, _, rfl, a, _, _, _, rfl, rfl, .of a1, atI_nat (j := 0) hb0, b0, _, _, _, rfl, rfl, sb0, atI_nat (j := 2) rfl, sz 2, ?_⟩
    walk_at "new 1"
    exact q p1 p0 _ H1 (s0.trans s1) (s1 _ _ h0) (.of h1)
  rw [if_pos (w0.mpr c0)] at q
  refine ifF (by rw [decide_eq_true c0] <;> rfl) ?_
  simp only at q
  have hi1 := tk_in tok ht0 (w0.mpr c0) (by decide +kernel)
  refine ⟨_, rfl, _, rfl, a, _, rfl, .of a1, ?_⟩
  walk_at "new 1"
  have ec : cutV vs (some ((1 : Nat) : Int)) none = vs.drop 1 := by
    unfold cutV
    rw [HT.sIx_nat, HT.sIx_none, Nat.min_eq_left (by omega), List.take_of_length_le (by rw [List.length_drop]; omega)]
  have h1 : H1 p1 = some (.lst (vs.drop 1)) := by rw [h1]; exact congrArg (fun l => some (HO.lst l)) ec
  generalize eR : namesGo T' (T'.length + 1) [] (0 + 1) = R at q
  have np0 : H p0 = none := n0
  have p01 : p0 ≠ p1 := fun y => by rw [← y, h0] at n1; cases n1
  refine ⟨p1, _, rfl, .of h1, ?_⟩
  refine for_it (walk_enum (K := K) (a := p1) (xs := vs.drop 1)) (fun i σ H' => ∃ (f : Nat) (ns : List Str) (v2 v3 v4 v5 : Option V), σ = [some (.ref a), some (.ref p0), v2, v3, v4, v5] ∧ Same H H' ∧ H' p0 = some (.lst (ns.map V.str)) ∧ H' p1 = some (.lst (vs.drop 1)) ∧ DpAll K H' vs (L.map tkD) ∧ ns.length ≤ 4 ∧ i + 1 < T'.length ∧ T'.length < f + (i + 1) ∧
      (if i % 2 = 0 then namesGo T' f ns (i + 1) = R else (match symAt T' (i + 1) [","] with
        | none => .ok (ns, i + 1)
        | some _ => namesGo T' f ns (i + 2)) = R))
    ⟨T'.length + 1, [], none, none, none, none, rfl, s0.trans s1, s1 _ _ h0, h1, dp_monoAll (Same.tups s1) _ _ (tkDs_tup L) d1, Nat.zero_le _, hi1, by omega, eR⟩ ?_ ?_ ?_
  · rintro i σ H' _ ⟨_, _, _, _, _, _, _, _, _, h, _⟩
    exact .of h
  · rintro i x σ H2 H3 hi ⟨f, ns, v2, v3, v4, v5, rfl, s2, h2, g2, d2, n4, i1, i2, e2⟩ ⟨tt, x1, y1, rfl, nt, rfl, f1, f2⟩
    have f1 := Option.some.inj f1
    subst f1
    obtain ⟨t, ht⟩ : ∃ t, T'[i + 1]? = some t := ⟨_, List.getElem?_eq_getElem i1⟩
    obtain ⟨t', hl, tx, tc, tk⟩ := at_ ht
    obtain ⟨b, hb, sb⟩ := tk_get d2 hl
    have f2 : (vs.drop 1)[i]? = some y1 := f2
    rw [List.getElem?_drop, Nat.add_comm 1 i, hb] at f2
    have f2 := Option.some.inj f2
    subst f2
    rw [tx, tc] at sb
    have s3 := same_new (o := .tup [.int (i : Int), .ref b]) nt
    have sb3 := sameT s3 sb
    refine ⟨tt, _, rfl, .of upd_same, rfl, _, _, rfl, _, _, rfl, b, _, rfl, sb3, rfl, _, _, rfl, _, _, rfl, _, _, rfl, rfl, rfl, ?_⟩
    have s03 := s2.trans s3
    have h3 := s3 _ _ h2
    have g3 := s3 _ _ g2
    have d3 := dp_monoAll (Same.tups s3) _ _ (tkDs_tup L) d2
    generalize upd H2 tt (.tup [.int (i : Int), .ref b]) = H3 at s3 s03 h3 g3 d3 sb3
    have nlt : ns.length < sizeLine := szl _ (by omega)
    refine ⟨_, rfl, _, _, rfl, rfl, (by show (2 : Int) ≠ 0; decide), rfl, _, rfl, ?_⟩
    rw [fmod2]
    by_cases ev : i % 2 = 0
    · rw [if_pos ev] at e2
      refine ifT (decide_eq_true ev) ?_
      cases f with
      | zero => omega
      | succ f =>
      unfold namesGo at e2
      rw [ht] at e2
      simp only at e2
      have kn : tkOk "name" none t = true ↔ t'.kind = "name" := by
        unfold tkOk
        simp only [Bool.and_true, decide_eq_true_eq]
        rcases tk with ⟨k1, k2, _⟩ | ⟨k, _⟩
        · rw [k1, k2]; decide +kernel
        · rw [k]
      have bad : (∀ p xs H', Same H H' → H' p0 = some (.lst xs) → SqT K H' p [.ref p0, .int (t.col : Int)] → Q (.ref p) H') → tTup (tCons (tVar 1) (tCons (tVar 5) tNil)) [some (.ref a), some (.ref p0), some (.int (i : Int)), some (.str t'.kind), some (.str t.text), some (.int (t.col : Int))] H3 Q := fun k => by
        refine ⟨_, rfl, _, rfl, sz 2, ?_⟩
        walk_at "new 4"
        exact k p4 _ H4 (s03.trans s4) (s4 _ _ h3) (.of h4)
      refine ⟨_, rfl, rfl, _, rfl, ?_⟩
      rw [eq_str]
      by_cases c1 : t'.kind = "name"
      case neg =>
        rw [if_neg (fun h => c1 (kn.mp h))] at e2
        rw [← e2] at q
        refine ifT (by rw [decide_eq_false c1] <;> rfl) (ifT rfl ?_)
        exact bad fun p xs H' => q p p0 xs H'
      rw [if_pos (kn.mpr c1)] at e2
      refine ifF (by rw [decide_eq_true c1] <;> rfl) ?_
      refine ⟨_, rfl, _, rfl, p0, _, rfl, .inl (.of h3), rfl, flat_strs _, _, rfl, ?_⟩
      rw [inV_strs]
      by_cases c2 : t.text ∈ ns
      · rw [if_pos (.inl c2)] at e2
        rw [← e2] at q
        refine ifT (decide_eq_true c2) (ifT rfl ?_)
        exact bad fun p xs H' => q p p0 xs H'
      refine ifF (decide_eq_false c2) ?_
      refine ⟨_, rfl, p0, _, rfl, .inl (.of h3), ?_⟩
      rw [List.length_map]
      refine ⟨rfl, _, rfl, ?_⟩
      by_cases c3 : ns.length = 4
      · rw [if_pos (.inr c3)] at e2
        rw [← e2] at q
        refine ifT (decide_eq_true (by rw [c3] <;> rfl)) ?_
        exact bad fun p xs H' => q p p0 xs H'
      refine ifF (decide_eq_false (fun y => c3 (by have := V.int.inj y; omega))) ?_
      rw [if_neg (fun z => z.elim c2 c3)] at e2
      refine ⟨_, rfl, .inl ⟨rfl, _, .inl (.inl h3)⟩, _, rfl, p0, _, _, rfl, rfl, h3, szl _ (by rw [List.length_map]; omega), ?_⟩
      have tend : t.kind ≠ "end of line" := fun y => by
        rcases tk with ⟨_, k2, _⟩ | ⟨k, kt⟩
        · rw [k2] at c1; exact absurd c1 (by decide +kernel)
        · exact kt.real.2 y
      refine ⟨f, ns ++ [t.text], _, _, _, _, rfl, same_updN s03 np0, by rw [upd_same, List.map_append] <;> rfl, by rw [upd_ne p01.symm]; exact g3, dp_monoAll (sameT_lst h3) _ _ (tkDs_tup L) d3, by rw [List.length_append, List.length_singleton]; omega, tok.fin (i + 1) t ht tend, by omega, ?_⟩
      rw [if_neg (by omega)]
      exact e2
    · rw [if_neg ev] at e2
      refine ifF (decide_eq_false ev) ?_
      refine ⟨_, rfl, rfl, _, rfl, ?_⟩
      rw [eq_str]
      by_cases c1 : t'.kind = ""
      · have k1 : t.kind = "end of line" := by
          rcases tk with ⟨k1, _⟩ | ⟨k, kt⟩
          · exact k1
          · rw [k] at c1; exact absurd c1 kt.real.1
        have sy : symAt T' (i + 1) [","] = none := by
          rw [acOk_sym ht, if_neg]
          intro h
          unfold acOk at h
          rw [Bool.and_eq_true] at h
          have := of_decide_eq_true h.1
          rw [k1] at this
          exact absurd this (by decide +kernel)
        rw [sy] at e2
        rw [← e2] at q
        simp only at q
        rw [takeM_eq ht, if_pos (by unfold tkOk; rw [k1, decide_eq_true rfl] <;> rfl)] at q
        refine ifT (decide_eq_true c1) ?_
        refine ⟨_, rfl, sz 2, ?_⟩
        walk_at "new 4"
        exact q p4 p0 H4 (s03.trans s4) np0 (s4 _ _ h3) (.of h4)
      refine ifF (decide_eq_false c1) ?_
      refine ⟨_, rfl, rfl, _, rfl, ?_⟩
      rw [eq_str]
      have kt : KT t := by
        rcases tk with ⟨_, k2, _⟩ | ⟨_, kt⟩
        · exact absurd k2 c1
        · exact kt
      by_cases c2 : t.text = ","
      · have sy : symAt T' (i + 1) [","] = some t := by
          rw [acOk_sym ht, if_pos]
          unfold acOk
          rw [Bool.and_eq_true]
          exact ⟨decide_eq_true (kt.syms (by rw [c2]; decide +kernel)), decide_eq_true (by rw [c2]; exact List.mem_singleton.mpr rfl)⟩
        rw [sy] at e2
        refine ifF (by rw [decide_eq_true c2] <;> rfl) ?_
        refine ⟨f, ns, _, _, _, _, rfl, s03, h3, g3, d3, n4, tok.fin (i + 1) t ht kt.real.2, by omega, ?_⟩
        rw [if_pos (by omega)]
        exact e2
      · have sy : symAt T' (i + 1) [","] = none := by
          rw [acOk_sym ht, if_neg]
          intro h
          unfold acOk at h
          rw [Bool.and_eq_true] at h
          exact c2 (List.mem_singleton.mp (of_decide_eq_true h.2))
        rw [sy] at e2
        rw [← e2] at q
        simp only at q
        rw [takeM_eq ht, if_neg (by unfold tkOk; simp [kt.real.2])] at q
        refine ifT (by rw [decide_eq_false c2] <;> rfl) ?_
        refine ⟨_, rfl, _, rfl, sz 2, ?_⟩
        walk_at "new 4"
        exact q p4 p0 _ H4 (s03.trans s4) (s4 _ _ h3) (.of h4)
  · rintro σ H2 ⟨f, ns, v2, v3, v4, v5, rfl, s2, h2, g2, d2, n4, i1, i2, e2⟩
    rw [List.length_drop] at i1
    omega
end
end Kw

set_option Elab.async false
set_option linter.all false
set_option maxRecDepth 100000
set_option maxHeartbeats 4000000
namespace Kw
open PySem PySem.Spec PyProof.Rows L2
local macro_rules | `(tactic| walk_at $s:str) => do
  match s.getString.splitOn " " with
  | ["new", a] =>
    let p := Lean.mkIdent (Lean.Name.mkSimple ("p" ++ a))
    let n := Lean.mkIdent (Lean.Name.mkSimple ("n" ++ a))
    let H := Lean.mkIdent (Lean.Name.mkSimple ("H" ++ a))
    let s := Lean.mkIdent (Lean.Name.mkSimple ("s" ++ a))
    let h := Lean.mkIdent (Lean.Name.mkSimple ("h" ++ a))
    `(tactic| (intro $p $n; generalize e : upd _ $p _ = $H; have $s : Same _ $H := e ▸ same_new $n; have $h : $H $p = some _ := e ▸ upd_same; clear e))
  | _ => Lean.Macro.throwUnsupported
/-! ### the law's blocks -/
def LBlkAt (K : PySem.W.Frag) (H : Hp) (a il : Addr) (B : Blk) : Prop := ∃ (hd : Addr) (hs vs : List V), H a = some (.lst [.ref hd, .int (B.rounds : Int), .ref il]) ∧ SqT K H hd hs ∧ DpAll K H hs B.head ∧ H il = some (.lst vs) ∧ DpAll K H vs B.inner ∧ tupled.go B.head = true ∧ tupled.go B.inner = true
def LBlks (K : PySem.W.Frag) (H0 H : Hp) : List Addr → List Addr → List Blk → Prop
  | [], [], [] => True
  | a :: as, il :: ils, B :: Bs => LBlkAt K H a il B ∧ H0 il = none ∧ LBlks K H0 H as ils Bs
  | _, _, _ => False
theorem LBlks.len {K : PySem.W.Frag} {H0 H : Hp} : ∀ {as ils : List Addr} {Bs : List Blk}, LBlks K H0 H as ils Bs → as.length = Bs.length ∧ ils.length = Bs.length
  | [], [], [], _ => ⟨rfl, rfl⟩
  | _ :: as, _ :: ils, _ :: Bs, h => ⟨congrArg (· + 1) (LBlks.len h.2.2).1, congrArg (· + 1) (LBlks.len h.2.2).2⟩
  | [], [], _ :: _, h => h.elim
  | [], _ :: _, [], h => h.elim
  | [], _ :: _, _ :: _, h => h.elim
  | _ :: _, [], [], h => h.elim
  | _ :: _, [], _ :: _, h => h.elim
  | _ :: _, _ :: _, [], h => h.elim
theorem LBlks.cons {K : PySem.W.Frag} {H0 H : Hp} {as ils : List Addr} {bs : List Blk} (h : bs ≠ []) (b : LBlks K H0 H as ils bs) : ∃ B Bs a as' il ils', bs = B :: Bs ∧ as = a :: as' ∧ ils = il :: ils' := by
  match as, ils, bs, h, b with
  | _, _, [], h, _ => exact absurd rfl h
  | a :: as, il :: ils, B :: Bs, _, _ => exact ⟨B, Bs, a, as, il, ils, rfl, rfl, rfl⟩
  | [], [], _ :: _, _, b => exact b.elim
  | [], _ :: _, _ :: _, _, b => exact b.elim
  | _ :: _, [], _ :: _, _, b => exact b.elim
theorem LBlkAt.kp {K : PySem.W.Frag} {H H' : Hp} {q a il : Addr} {B : Blk} (h : LBlkAt K H a il B) (k : Kp q H H') (st : SameT H H') (h1 : a ≠ q) (h2 : il ≠ q) : LBlkAt K H' a il B := by
  obtain ⟨hd, hs, vs, e1, e2, e3, e4, e5, t1, t2⟩ := h
  exact ⟨hd, hs, vs, k _ _ h1 e1, st.sq e2, dp_monoAll st _ _ t1 e3, k _ _ h2 e4, dp_monoAll st _ _ t2 e5, t1, t2⟩
theorem LBlks.kp {K : PySem.W.Frag} {H0 H H' : Hp} {q : Addr} (k : Kp q H H') (st : SameT H H') : ∀ {as ils : List Addr} {Bs : List Blk}, q ∉ as → q ∉ ils → LBlks K H0 H as ils Bs → LBlks K H0 H' as ils Bs
  | [], [], [], _, _, _ => trivial
  | a :: as, il :: ils, B :: Bs, ha, hq, h => by
    obtain ⟨h1, h2, h3⟩ := h
    exact ⟨h1.kp k st (fun e => ha (by rw [e]; exact List.mem_cons_self ..)) (fun e => hq (by rw [e]; exact List.mem_cons_self ..)), h2, LBlks.kp k st (fun e => ha (List.mem_cons_of_mem _ e)) (fun e => hq (List.mem_cons_of_mem _ e)) h3⟩
  | [], [], _ :: _, _, _, h => h.elim
  | [], _ :: _, [], _, _, h => h.elim
  | [], _ :: _, _ :: _, _, _, h => h.elim
  | _ :: _, [], [], _, _, h => h.elim
  | _ :: _, [], _ :: _, _, _, h => h.elim
  | _ :: _, _ :: _, [], _, _, h => h.elim
theorem LBlkAt.same {K : PySem.W.Frag} {H H' : Hp} {a il : Addr} {B : Blk} (h : LBlkAt K H a il B) (s : Same H H') : LBlkAt K H' a il B := by
  obtain ⟨hd, hs, vs, e1, e2, e3, e4, e5, t1, t2⟩ := h
  exact ⟨hd, hs, vs, s _ _ e1, sameT s e2, dp_monoAll (Same.tups s) _ _ t1 e3, s _ _ e4, dp_monoAll (Same.tups s) _ _ t2 e5, t1, t2⟩
theorem LBlks.same {K : PySem.W.Frag} {H0 H H' : Hp} (s : Same H H') : ∀ {as ils : List Addr} {Bs : List Blk}, LBlks K H0 H as ils Bs → LBlks K H0 H' as ils Bs
  | [], [], [], _ => trivial
  | a :: as, il :: ils, B :: Bs, h => ⟨h.1.same s, h.2.1, LBlks.same s h.2.2⟩
  | [], [], _ :: _, h => h.elim
  | [], _ :: _, [], h => h.elim
  | [], _ :: _, _ :: _, h => h.elim
  | _ :: _, [], [], h => h.elim
  | _ :: _, [], _ :: _, h => h.elim
  | _ :: _, _ :: _, [], h => h.elim
/-- every list of the blocks stands in the heap -/
theorem LBlks.mem {K : PySem.W.Frag} {H0 H : Hp} {q : Addr} : ∀ {as ils : List Addr} {Bs : List Blk}, LBlks K H0 H as ils Bs → (q ∈ as ∨ q ∈ ils) → ∃ vs, H q = some (.lst vs)
  | [], [], [], _, h => by rcases h with h | h <;> cases h
  | a :: as, il :: ils, B :: Bs, b, h => by
    obtain ⟨⟨hd, hs, vs, e1, e2, e3, e4, _⟩, _, b3⟩ := b
    rcases h with h | h
    · rcases List.mem_cons.mp h with rfl | h
      · exact ⟨_, e1⟩
      · exact LBlks.mem b3 (.inl h)
    · rcases List.mem_cons.mp h with rfl | h
      · exact ⟨_, e4⟩
      · exact LBlks.mem b3 (.inr h)
  | [], [], _ :: _, h, _ => h.elim
  | [], _ :: _, [], h, _ => h.elim
  | [], _ :: _, _ :: _, h, _ => h.elim
  | _ :: _, [], [], h, _ => h.elim
  | _ :: _, [], _ :: _, h, _ => h.elim
  | _ :: _, _ :: _, [], h, _ => h.elim
def spOpenL (K : PySem.W.Frag) : Sp := fun vs H Q _ => ∃ (a bl : Addr) (as ils : List Addr) (bs : List Blk) (H0 : Hp) (z : Str) (ts : List Tk) (t : Tk), vs = [.ref a, .ref bl] ∧ lexM z = .ok ts ∧ (tl z).length ≤ 100000 ∧ LexAt K H a (lawTs z ts) ∧
  H bl = some (.lst (as.map V.ref).reverse) ∧ LBlks K H0 H as ils bs ∧ bs ≠ [] ∧ bs.length ≤ 5 ∧ (∀ B ∈ bs, B.rounds ≤ 50) ∧ (ts ++ [endTk z])[0]? = some t ∧ t.kind ≠ "end of line" ∧
  (match openM (ts ++ [endTk z]) bs with
    | .error c => ∀ p x H', Same H H' → SqT K H' p [.int (c : Int), x] → Q (.ref p) H'
    | .ok (h, r) => ∀ p b il H', Same H H' → H b = none → H il = none → b ≠ il → LBlkAt K H' b il ⟨h, r, []⟩ → SqT K H' p [.non, .ref b] → Q (.ref p) H')
section
variable {P : Program} {w : World} {K : PySem.W.Frag} {mg : Str → Option Value} {base : Heap}
abbrev N_law_opened : List Str := ["_law_tokens", "_law_blocks", "_law_word", "_law_kind", "_law_text", "_law_column", "_law_block"]
theorem sc_law_opened : FnScope N_law_opened ["_law_tokens", "_law_blocks"] (defScope s_law_opened) := ⟨rfl, rfl, rfl, by decide +kernel, rfl, by decide +kernel, by decide +kernel⟩
theorem b_law_opened (T : Tx K mg) : Binds K T.fd_law_opened ["_law_tokens", "_law_blocks"] [] := T.F_law_opened.bindsN fun _ _ _ _ _ _ us hl => match us, hl with | [_, _], _ => rfl
theorem ok_law_opened (T : Tx K mg) : FnOk P w K mg base CX0 2 (He.ga K "_law_opened") T.fd_law_opened ["_law_tokens", "_law_blocks"] (spOpenL K) := by
  refine T.F_law_opened.ok sc_law_opened (fun vs H Q E h => ?_) (fun cdv A outer s H vs Q E hr h => ?_)
  · obtain ⟨a, bl, as, ils, bs, H0, z, ts, t, rfl, _⟩ := h
    rfl
  obtain ⟨a, bl, as, ils, bs, H0, z, ts, t, rfl, el, hz, hL, hbl, hB, bne, b5, br, ht, tend, q⟩ := h
  obtain ⟨B, Bs, a0, as, il0, ils, rfl, rfl, rfl⟩ := LBlks.cons bne hB
  refine ⟨_, PSs.nox (pss_cons (ps_set (i := 2) sc_law_opened.nd rfl (Or.inl rfl) (pe_ix (r := rIxT K) ix_tup (pe_ix (r := rIxL K) ix_list (pv 0) pe_int (fun _ _ => rfl)) pe_int (fun _ _ => rfl)))
      (pss_cons (ps_if (PW.pt (pw_or (pt_cmpR (op_ne) (pe_ix (r := rIxT K) ix_tup (pe_ix (r := rIxL K) ix_list (pv 0) pe_int (fun _ _ => rfl)) pe_int (fun _ _ => rfl)) pe_str (nomark _)) (pw_or (pt_cmpR (r := rIn K true) (op_notIn_seq) (pv 2) (pe_tup (pa_cons pe_str (pa_cons pe_str (pa_cons pe_str pa_nil)))) (by rfl)) (pw_or1 (pt_cmpR (op_gt) (pe_callB (call_lenQ (K := K) rfl) rfl T.z_len PySem.boot_len (pa_cons (pv 1) pa_nil)) pe_int (nomark _)))))) (pss_one (ps_ret (pe_tup (pa_cons (pe_ix (r := rIxT K) ix_tup (pe_ix (r := rIxL K) ix_list (pv 0) pe_int (fun _ _ => rfl)) pe_int (fun _ _ => rfl)) (pa_cons pe_non pa_nil))))) pss_nil)
      (pss_cons (ps_if (pt_cmpR (op_ne) (pv 2) pe_str (nomark _)) (pss_one (ps_ret (pe_tup (pa_cons (pe_ifExp (pt_cmpR (op_ne) (pe_ix (r := rIxT K) ix_tup (pe_ix (r := rIxL K) ix_list (pv 0) pe_int (fun _ _ => rfl)) pe_int (fun _ _ => rfl)) pe_str (nomark _)) (pe_ix (r := rIxT K) ix_tup (pe_ix (r := rIxL K) ix_list (pv 0) pe_int (fun _ _ => rfl)) pe_int (fun _ _ => rfl)) pe_non) (pa_cons (pe_lst (pa_cons (pe_tup (pa_cons (pv 2) pa_nil)) (pa_cons (pe_ix (r := rIxL K) ix_list (pe_ix (r := rIxL K) ix_list (pv 1) (pe_un un_neg pe_int) (fun _ _ => rfl)) pe_int (fun _ _ => rfl)) (pa_cons (pe_lst pa_nil) pa_nil)))) pa_nil))))) pss_nil)
      (pss_cons (ps_asg (pe_ix (r := rIxL K) ix_list (pv 0) pe_int (fun _ _ => rfl)) (pg_tup rfl (pgs_cons (pg_name (i := 3) sc_law_opened.nd rfl (Or.inl rfl)) (pgs_cons (pg_name (i := 4) sc_law_opened.nd rfl (Or.inl rfl)) (pgs_cons (pg_name (i := 5) sc_law_opened.nd rfl (Or.inl rfl)) pgs_nil)))))
      (pss_cons (ps_if (PW.pt (pw_or (pt_cmpR (op_ne) (pv 3) pe_str (nomark _)) (pw_or1 (pt_cmpR (op_gt) (pe_op op_mulW (pe_callTy call_int_str rfl T.z_int (by decide +kernel) (pa_cons (pv 4) pa_nil)) (pe_ix (r := rIxL K) ix_list (pe_ix (r := rIxL K) ix_list (pv 1) (pe_un un_neg pe_int) (fun _ _ => rfl)) pe_int (fun _ _ => rfl))) pe_int (nomark _))))) (pss_one (ps_ret (pe_tup (pa_cons (pv 5) (pa_cons pe_non pa_nil))))) pss_nil)
      (pss_cons (ps_set (i := 6) sc_law_opened.nd rfl (Or.inl rfl) (pe_lst (pa_cons (pe_tup (pa_cons (pv 2) (pa_cons (pe_callTy call_int_str rfl T.z_int (by decide +kernel) (pa_cons (pv 4) pa_nil)) pa_nil))) (pa_cons (pe_op op_mulW (pe_ix (r := rIxL K) ix_list (pe_ix (r := rIxL K) ix_list (pv 1) (pe_un un_neg pe_int) (fun _ _ => rfl)) pe_int (fun _ _ => rfl)) (pe_callB (call_max2 rfl) rfl T.z_max (by decide +kernel) (pa_cons pe_int (pa_cons (pe_callTy call_int_str rfl T.z_int (by decide +kernel) (pa_cons (pv 4) pa_nil)) pa_nil)))) (pa_cons (pe_lst pa_nil) pa_nil)))))
      (pss_one (ps_ret (pe_tup (pa_cons (pe_ifExp (pt_cmpR (op_ne) (pe_ix (r := rIxT K) ix_tup (pe_ix (r := rIxL K) ix_list (pv 0) pe_int (fun _ _ => rfl)) pe_int (fun _ _ => rfl)) pe_str (nomark _)) (pe_ix (r := rIxT K) ix_tup (pe_ix (r := rIxL K) ix_list (pv 0) pe_int (fun _ _ => rfl)) pe_int (fun _ _ => rfl)) pe_non) (pa_cons (pv 6) pa_nil))))))))))), ?_⟩
  have tok := lexM_ok hz el
  have at_ := fun {j : Nat} {t : Tk} => law_at (z := z) (ts := ts) el (j := j) (t := t)
  generalize ts ++ [endTk z] = T' at q tok at_ ht
  generalize lawTs z ts = L at hL at_
  obtain ⟨vs, a1, d1⟩ := hL
  obtain ⟨t', hl0, tx0, tc0, tk0⟩ := at_ ht
  obtain ⟨hk0, kt0⟩ : t'.kind = t.kind ∧ KT t := tk0.resolve_left (fun z => tend z.1)
  obtain ⟨b0, hb0, sb0⟩ := tk_get d1 hl0
  rw [tx0, tc0, hk0] at sb0
  have hi1 : 0 + 1 < T'.length := tok.fin 0 t ht tend
  obtain ⟨u, hu⟩ : ∃ u, T'[1]? = some u := ⟨_, List.getElem?_eq_getElem hi1⟩
  obtain ⟨u', hl1, ux, uc, uk⟩ := at_ hu
  obtain ⟨b1, hb1, sb1⟩ := tk_get d1 hl1
  rw [ux, uc] at sb1
  have uend : u'.kind = "" ↔ u.kind = "end of line" := by
    rcases uk with ⟨k1, k2, _⟩ | ⟨k, kt⟩
    · exact ⟨fun _ => k1, fun _ => k2⟩
    · rw [k]; exact ⟨fun y => absurd y kt.real.1, fun y => absurd y kt.real.2⟩
  have rb : B.rounds ≤ 50 := br B (List.mem_cons_self ..)
  obtain ⟨⟨hd, hs, ws, e1, e2, e3, e4, e5, t1, t2⟩, n1, hBs⟩ := hB
  have bl5 : ((a0 :: as).map V.ref).reverse.length = (B :: Bs).length := by rw [List.length_reverse, List.length_map, List.length_cons, List.length_cons, (LBlks.len hBs).1]
  unfold openM at q
  rw [ht] at q
  simp only at q
  refine ⟨_, rfl, a, _, _, _, rfl, rfl, .of a1, atI_nat (j := 0) hb0, b0, _, _, _, rfl, rfl, sb0, atI_nat (j := 1) rfl, ?_⟩
  have bad : ¬ (acOk "word" ["repeat", "forever", "mean"] t = true ∧ (B :: Bs).length ≤ 4) → ∀ (H1 : Hp) (σ : L2.St), Same H H1 → σ[0]? = some (some (.ref a)) → tTup (tCons (tOp (rIxT K) (tOp (rIxL K) (tVar 0) (tC (.int 0))) (tC (.int 2))) (tCons (tC .non) tNil)) σ H1 Q := by
    intro c H1 σ s1 hσ
    rw [if_neg c] at q
    refine ⟨_, hσ, a, _, _, _, rfl, rfl, .of (s1 _ _ a1), atI_nat (j := 0) hb0, b0, _, _, _, rfl, rfl, sameT s1 sb0, atI_nat (j := 2) rfl, sz 2, ?_⟩
    walk_at "new 9"
    exact q p9 .non H9 (s1.trans s9) (.of h9)
  refine ⟨_, rfl, a, _, _, _, rfl, rfl, .of a1, atI_nat (j := 0) hb0, b0, _, _, _, rfl, rfl, sb0, atI_nat (j := 0) rfl, rfl, _, rfl, ?_⟩
  rw [eq_str]
  by_cases c1 : t.kind = "word"
  case neg =>
    refine ifT (by rw [decide_eq_false c1] <;> rfl) (ifT rfl ?_)
    exact bad (fun z => c1 (by
      have := z.1
      unfold acOk at this
      rw [Bool.and_eq_true] at this
      exact of_decide_eq_true this.1)) H _ (Same.refl H) rfl
  refine ifF (by rw [decide_eq_true c1] <;> rfl) ?_
  refine ⟨_, rfl, sz 3, ?_⟩
  walk_at "new 1"
  have wv : inV (.str t.text) [V.str "repeat", V.str "forever", V.str "mean"] = decide (t.text ∈ (["repeat", "forever", "mean"] : List Str)) := inV_strs _ ["repeat", "forever", "mean"]
  refine ⟨p1, _, rfl, .inr (.of h1), rfl, flat_strs ["repeat", "forever", "mean"], _, rfl, ?_⟩
  rw [wv]
  by_cases c2 : t.text ∈ (["repeat", "forever", "mean"] : List Str)
  case neg =>
    refine ifT (by rw [decide_eq_false c2] <;> rfl) (ifT rfl ?_)
    exact bad (fun z => c2 (by
      have := z.1
      unfold acOk at this
      rw [Bool.and_eq_true] at this
      exact of_decide_eq_true this.2)) H1 _ s1 rfl
  refine ifF (by rw [decide_eq_true c2] <;> rfl) ?_
  refine ⟨_, rfl, bl, _, rfl, .inl (.of (s1 _ _ hbl)), ?_⟩
  rw [bl5]
  refine ⟨_, _, rfl, rfl, _, rfl, ?_⟩
  by_cases c3 : (B :: Bs).length ≤ 4
  case neg =>
    refine ifT (decide_eq_true (show (4 : Int) < (((B :: Bs).length : Nat) : Int) by omega)) ?_
    exact bad (fun z => c3 z.2) H1 _ s1 rfl
  refine ifF (decide_eq_false (show ¬ (4 : Int) < (((B :: Bs).length : Nat) : Int) by omega)) ?_
  rw [if_pos ⟨by unfold acOk; rw [Bool.and_eq_true]; exact ⟨decide_eq_true c1, decide_eq_true c2⟩, c3⟩] at q
  clear bad
  have a1' := s1 _ _ a1
  have hbl' := s1 _ _ hbl
  have e1' := s1 _ _ e1
  refine ⟨_, rfl, rfl, _, rfl, ?_⟩
  rw [eq_str]
  by_cases c4 : t.text = "repeat"
  case neg =>
    rw [if_neg c4, takeM_eq hu] at q
    refine ifT (by rw [decide_eq_false c4] <;> rfl) ?_
    have te : tkOk "end of line" none u = true ↔ u.kind = "end of line" := by
      unfold tkOk
      simp
    refine ⟨_, rfl, a, _, _, _, rfl, rfl, .of a1', atI_nat (j := 1) hb1, b1, _, _, _, rfl, rfl, sameT s1 sb1, atI_nat (j := 0) rfl, rfl, _, rfl, ?_⟩
    rw [eq_str]
    by_cases c5 : u'.kind = ""
    case' pos =>
      rw [if_pos (te.mpr (uend.mp c5))] at q
      refine ifF (by rw [decide_eq_true c5] <;> rfl) ?_
    case' neg =>
      rw [if_neg (fun h => c5 (uend.mpr (te.mp h)))] at q
      refine ifT (by rw [decide_eq_false c5] <;> rfl) ?_
      refine ⟨_, rfl, a, _, _, _, rfl, rfl, .of a1', atI_nat (j := 1) hb1, b1, _, _, _, rfl, rfl, sameT s1 sb1, atI_nat (j := 2) rfl, ?_⟩
    all_goals
      refine ⟨_, rfl, sz 1, ?_⟩
      walk_at "new 2"
      refine ⟨_, rfl, _, rfl, bl, _, _, _, rfl, rfl, .of (s2 _ _ hbl'), last_at V.ref a0 as, a0, _, _, _, rfl, rfl, .of (s2 _ _ e1'), atI_nat (j := 1) rfl, sz 0, ?_⟩
      walk_at "new 3"
      refine ⟨sz 3, ?_⟩
      walk_at "new 4"
      refine ⟨sz 2, ?_⟩
      walk_at "new 5"
      have ss := (((s1.trans s2).trans s3).trans s4).trans s5
    case pos =>
      exact q p5 p4 p3 H5 ss (none_same (s1.trans (s2.trans s3)) n4) (none_same (s1.trans s2) n3) (fun y => by rw [y, h3] at n4; cases n4) ⟨p2, _, _, s5 _ _ h4, sameT ((s3.trans s4).trans s5) (.of h2), .cons (.str _) .nil, s5 _ _ (s4 _ _ h3), .nil, rfl, rfl⟩ (.of h5)
    case neg =>
      exact q p5 _ H5 ss (.of h5)
  rw [if_pos c4, hu] at q
  simp only at q
  refine ifF (by rw [decide_eq_true c4] <;> rfl) ?_
  refine ⟨_, rfl, a, _, _, _, rfl, rfl, .of a1', atI_nat (j := 1) hb1, b1, _, rfl, sameT s1 sb1, rfl, _, _, rfl, _, _, rfl, _, _, rfl, rfl, ?_⟩
  have nk : u'.kind = "number" ↔ u.kind = "number" := by
    rcases uk with ⟨k1, k2, _⟩ | ⟨k, kt⟩
    · rw [k1, k2]; decide +kernel
    · rw [k]
  refine ⟨_, rfl, rfl, _, rfl, ?_⟩
  rw [eq_str]
  by_cases c5 : u'.kind = "number"
  case neg =>
    rw [if_neg (fun z => c5 (nk.mpr z.1))] at q
    refine ifT (by rw [decide_eq_false c5] <;> rfl) (ifT rfl ?_)
    refine ⟨_, rfl, sz 2, ?_⟩
    walk_at "new 2"
    exact q p2 .non H2 (s1.trans s2) (.of h2)
  refine ifF (by rw [decide_eq_true c5] <;> rfl) ?_
  have uk1 := nk.mp c5
  obtain ⟨m1, m2, m3⟩ := numV_ok tok (List.mem_of_getElem? hu) uk1
  have hb : (numV u : Int) * (B.rounds : Int) = ((numV u * B.rounds : Nat) : Int) := by simp
  refine ⟨_, rfl, _, _, rfl, m1, m3, _, rfl, _, rfl, bl, _, _, _, rfl, rfl, .of hbl', last_at V.ref a0 as, a0, _, _, _, rfl, rfl, .of e1', atI_nat (j := 1) rfl, (numV u : Int), (B.rounds : Int), rfl, rfl, ?_⟩
  refine ⟨Bd.wmul (a := 20) (b := 20) (by unfold Bd; simp; omega) (by unfold Bd; simp; omega), ?_⟩
  simp only [hb]
  refine ⟨_, _, rfl, rfl, _, rfl, ?_⟩
  by_cases c6 : numV u * B.rounds ≤ 50
  case neg =>
    rw [if_neg (show ¬ (u.kind = "number" ∧ numV u * topR (B :: Bs) ≤ 50) from fun z => c6 z.2)] at q
    refine ifT (decide_eq_true (show (50 : Int) < ((numV u * B.rounds : Nat) : Int) by omega)) ?_
    refine ⟨_, rfl, sz 2, ?_⟩
    walk_at "new 2"
    exact q p2 .non H2 (s1.trans s2) (.of h2)
  refine ifF (decide_eq_false (show ¬ (50 : Int) < ((numV u * B.rounds : Nat) : Int) by omega)) ?_
  rw [if_pos (show u.kind = "number" ∧ numV u * topR (B :: Bs) ≤ 50 from ⟨uk1, c6⟩)] at q
  rw [show topR (B :: Bs) = B.rounds from rfl] at q
  obtain ⟨x, hx⟩ : ∃ x, T'[2]? = some x := ⟨_, List.getElem?_eq_getElem (tok.fin 1 u hu (by rw [uk1]; decide +kernel))⟩
  obtain ⟨x', hl2, xx, xc, xk⟩ := at_ hx
  obtain ⟨b2, hb2, sb2⟩ := tk_get d1 hl2
  rw [xx, xc] at sb2
  have xend : x'.kind = "" ↔ x.kind = "end of line" := by
    rcases xk with ⟨k1, k2, _⟩ | ⟨k, kt⟩
    · exact ⟨fun _ => k1, fun _ => k2⟩
    · rw [k]; exact ⟨fun y => absurd y kt.real.1, fun y => absurd y kt.real.2⟩
  rw [takeM_eq hx] at q
  refine ⟨_, rfl, _, rfl, _, _, rfl, m1, m3, sz 2, ?_⟩
  walk_at "new 2"
  refine ⟨_, rfl, _, rfl, bl, _, _, _, rfl, rfl, .of (s2 _ _ hbl'), last_at V.ref a0 as, a0, _, _, _, rfl, rfl, .of (s2 _ _ e1'), atI_nat (j := 1) rfl, _, rfl, _, _, rfl, m1, m3, _, _, rfl, (B.rounds : Int), (if ((numV u : Nat) : Int) > 1 then ((numV u : Nat) : Int) else 1), rfl, rfl, ?_⟩
  refine ⟨Bd.wmul (a := 20) (b := 20) (by unfold Bd; simp; omega) (by unfold Bd; split <;> simp <;> omega), ?_⟩
  simp only [mulmax]
  refine ⟨sz 0, ?_⟩
  walk_at "new 3"
  refine ⟨sz 3, ?_⟩
  walk_at "new 4"
  have te : tkOk "end of line" none x = true ↔ x.kind = "end of line" := by
    unfold tkOk
    simp
  have ss4 := ((s2.trans s3).trans s4)
  refine ⟨_, rfl, a, _, _, _, rfl, rfl, .of (ss4 _ _ a1'), atI_nat (j := 2) hb2, b2, _, _, _, rfl, rfl, sameT (s1.trans ss4) sb2, atI_nat (j := 0) rfl, rfl, _, rfl, ?_⟩
  rw [eq_str]
  by_cases c7 : x'.kind = ""
  · rw [if_pos (te.mpr (xend.mp c7))] at q
    refine ifF (by rw [decide_eq_true c7] <;> rfl) ?_
    refine ⟨_, rfl, sz 2, ?_⟩
    walk_at "new 5"
    exact q p5 p4 p3 H5 ((s1.trans ss4).trans s5) (none_same (s1.trans (s2.trans s3)) n4) (none_same (s1.trans s2) n3) (fun y => by rw [y, h3] at n4; cases n4) ⟨p2, _, _, s5 _ _ h4, sameT ((s3.trans s4).trans s5) (.of h2), .cons (by rw [c4]; exact .str _) (.cons (.int _) .nil), s5 _ _ (s4 _ _ h3), .nil, rfl, rfl⟩ (.of h5)
  · rw [if_neg (fun h => c7 (xend.mpr (te.mp h)))] at q
    refine ifT (by rw [decide_eq_false c7] <;> rfl) ?_
    refine ⟨_, rfl, a, _, _, _, rfl, rfl, .of (ss4 _ _ a1'), atI_nat (j := 2) hb2, b2, _, _, _, rfl, rfl, sameT (s1.trans ss4) sb2, atI_nat (j := 2) rfl, ?_⟩
    refine ⟨_, rfl, sz 2, ?_⟩
    walk_at "new 5"
    exact q p5 _ H5 ((s1.trans ss4).trans s5) (.of h5)
end
end Kw

set_option Elab.async false
set_option linter.all false
set_option maxRecDepth 100000
set_option maxHeartbeats 4000000
namespace Kw
open PySem PySem.Spec PyProof.Rows L2
local macro_rules | `(tactic| walk_at $s:str) => do
  match s.getString.splitOn " " with
  | ["new", a] =>
    let p := Lean.mkIdent (Lean.Name.mkSimple ("p" ++ a))
    let n := Lean.mkIdent (Lean.Name.mkSimple ("n" ++ a))
    let H := Lean.mkIdent (Lean.Name.mkSimple ("H" ++ a))
    let s := Lean.mkIdent (Lean.Name.mkSimple ("s" ++ a))
    let h := Lean.mkIdent (Lean.Name.mkSimple ("h" ++ a))
    `(tactic| (intro $p $n; generalize e : upd _ $p _ = $H; have $s : Same _ $H := e ▸ same_new $n; have $h : $H $p = some _ := e ▸ upd_same; clear e))
  | _ => Lean.Macro.throwUnsupported
theorem stmts_one {ns : List Str} {z : Str} {t0 : List Tk} {t : Tk} (el : lexM z = .ok t0) (ht : (t0 ++ [endTk z])[0]? = some t) (hk : t.kind = "name") :
    stmtsM ns [z] = (match assignM ns (t0 ++ [endTk z]) with
      | .error c => .error (1, c)
      | .ok rows => .ok [asgD rows]) := by
  have e1 : readM ns PS0 z = (match assignM ns (t0 ++ [endTk z]) with
      | .error c => .error c
      | .ok rows => .ok ⟨putM (asgD rows) PS0.blks, PS0.count + 1⟩) := by
    unfold readM
    rw [el]
    simp only
    unfold lineM
    rw [ht]
    simp only
    rw [if_neg (by rw [hk]; decide +kernel), if_neg (by unfold acOk; rw [hk, decide_eq_false (show ¬ (("name" : Str) = "word") by decide +kernel)]; exact Bool.false_ne_true), if_neg (by decide), if_pos hk]
    all_goals (cases assignM ns (t0 ++ [endTk z]) <;> rfl)
  unfold stmtsM progGo
  rw [if_neg (by decide)]
  simp only
  rw [e1]
  cases assignM ns (t0 ++ [endTk z]) with
  | error c => rfl
  | ok rows => rfl
theorem txOk_one {z : Str} (h : 10 ∉ tl z) (l : (tl z).length ≤ 100000) : TxOk z [z] := by
  have e : Txt.split (Txt.join "\n" [z]) "\n" = [z] := TL.split_join (s := 10) (S := []) (by decide +kernel) (by decide +kernel) (List.cons_ne_nil _ _) (fun x m => by rw [List.mem_singleton.mp m]; exact h)
  rw [show Txt.join "\n" [z] = z from by rw [TL.join_eq] <;> rfl] at e
  exact ⟨e, by show 1 ≤ 1000; decide, fun x m => by rw [List.mem_singleton.mp m]; exact l, Nat.le_trans (Nat.add_le_add_right (show z.length ≤ 100000 from l) 2) (by decide)⟩
def spAsgd (K : PySem.W.Frag) : Sp := fun vs H Q _ => ∃ (z : Str) (a : Addr) (ns : List Str) (t0 : List Tk) (t : Tk), vs = [.str z, .ref a] ∧ SqL K H a (ns.map V.str) ∧ ns.length ≤ 4 ∧ lexM z = .ok t0 ∧ (tl z).length ≤ 100000 ∧ 10 ∉ tl z ∧ cutM z = z ∧
  (t0 ++ [endTk z])[0]? = some t ∧ t.kind = "name" ∧
  (match assignM ns (t0 ++ [endTk z]) with
    | .error c => ∀ p H', Same H H' → SqT K H' p [.non, .int (c : Int)] → Q (.ref p) H'
    | .ok rows => ∀ p v H', Same H H' → Dp K H' v (asgD rows) → SqT K H' p [v, .non] → Q (.ref p) H')
section
variable {P : Program} {w : World} {K : PySem.W.Frag} {mg : Str → Option Value} {base : Heap}
abbrev N_law_assigned : List Str := ["_law_line_here", "_law_names", "_law_found", "e"]
theorem sc_law_assigned : FnScope N_law_assigned ["_law_line_here", "_law_names"] (defScope s_law_assigned) := ⟨rfl, rfl, rfl, by decide +kernel, rfl, by decide +kernel, by decide +kernel⟩
theorem b_law_assigned (T : Tx K mg) : Binds K T.fd_law_assigned ["_law_line_here", "_law_names"] [] := T.F_law_assigned.bindsN fun _ _ _ _ _ _ us hl => match us, hl with | [_, _], _ => rfl
def tb_asgd (K : PySem.W.Frag) : WX → TS := fun W => tAsg (tTup (tCons (tOp (rIxT K) (tCallS (spStmts K) (WE W) (tCons (tVar 0) (tCons (tVar 1) tNil))) (tC (.int 0))) (tCons (tC .non) tNil))) (gName 2)
def ts_asgd (K : PySem.W.Frag) : Addr → Value → Option Addr → TS := fun a cls d => tAsg (tTup (tCons (tC .non) (tCons (tXf a cls d (cSyn K) "column" (tVar 3)) tNil))) (gName 2)
theorem ok_law_assigned (T : Tx K mg) : FnOk P w K mg base CX0 84 (He.ga K "_law_assigned") T.fd_law_assigned ["_law_line_here", "_law_names"] (spAsgd K) := by
  refine T.F_law_assigned.ok sc_law_assigned (fun vs H Q E h => ?_) (fun cdv A outer s H vs Q E hr h => ?_)
  · obtain ⟨z, a, ns, t0, t, rfl, _⟩ := h
    rfl
  obtain ⟨z, a, ns, t0, t, rfl, ha, nl, el, hz, h10, hc, ht, hk, q⟩ := h
  have hr1 : Room 80 _ := hr.mono (by decide)
  refine ⟨_, pss_cons (ps_set (i := 2) sc_law_assigned.nd rfl (Or.inl rfl) (pe_tup (pa_cons pe_non (pa_cons pe_non pa_nil))))
    (pss_cons (ps_try_as (i := 3) (tb := tb_asgd K) (ts := ts_asgd K) (Wout := fun _ _ _ _ => False) rfl rfl sc_law_assigned.nd rfl rfl ⟨rfl, by decide, Or.inl T.g_SyntaxProblem⟩ takes0
      (fun W pn xe tk _ => pss_one (ps_set (i := 2) sc_law_assigned.nd rfl (Or.inl rfl) (pe_tup (pa_cons (pe_ix (r := rIxT K) ix_tup (by exact (pe_callS (ok_parse_statements T) hr1 rfl T.g_parse_statements T.F_parse_statements.kp (b_parse_statements T) (fun σ => passAt tk σ) (by exact (pa_cons (pv 0) (pa_cons (pv 1) pa_nil))))) pe_int (fun _ _ => rfl)) (pa_cons pe_non pa_nil)))))
      (fun a oe cls d pn hz hf => pss_one (ps_set (i := 2) sc_law_assigned.nd rfl (Or.inl rfl) (pe_tup (pa_cons pe_non (pa_cons (by exact (pe_xf T.xf T.nc hz hf (pv 3))) pa_nil))))))
    (pss_one (ps_ret (pv 2)))), ?_⟩
  refine ⟨sz 2, ?_⟩
  walk_at "new 1"
  have tx := txOk_one h10 hz
  have eM := stmts_one (ns := ns) el ht hk
  have em : [z].map cutM = [z] := by rw [List.map_cons, hc] <;> rfl
  refine ⟨_, rfl, _, rfl, z, [z], ns, a, rfl, tx, s1.seq ha, nl, ?_⟩
  rw [em, eM]
  rcases e5 : assignM ns (t0 ++ [endTk z]) with c | rows
  · rw [e5] at q
    simp only at q ⊢
    intro d H2 s2 hd
    refine ⟨true, T.ex_SyntaxProblem, fun _ a0 na => ?_, fun q => Bool.noConfusion q⟩
    refine ⟨_, rfl, rfl, rfl, d, _, _, rfl, hd, rfl, sz 2, ?_⟩
    walk_at "new 3"
    exact ⟨_, rfl, q p3 H3 ((s1.trans s2).trans s3) (.of h3)⟩
  · rw [e5] at q
    simp only at q ⊢
    intro v H2 s2 d2
    cases d2 with
    | tup g1 g2 =>
      cases g2 with
      | cons g3 g4 =>
        cases g4
        refine ⟨_, _, _, _, rfl, rfl, g1, atI_nat (j := 0) rfl, sz 2, ?_⟩
        walk_at "new 3"
        exact ⟨_, rfl, q p3 _ H3 ((s1.trans s2).trans s3) (dp_mono (Same.tups s3) _ _ (asgD_tup rows) g3) (.of h3)⟩
end
end Kw

set_option Elab.async false
set_option linter.all false
set_option maxRecDepth 100000
set_option maxHeartbeats 4000000
namespace Kw
open PySem PySem.Spec PyProof.Rows L2
local macro_rules | `(tactic| walk_at $s:str) => do
  match s.getString.splitOn " " with
  | ["new", a] =>
    let p := Lean.mkIdent (Lean.Name.mkSimple ("p" ++ a))
    let n := Lean.mkIdent (Lean.Name.mkSimple ("n" ++ a))
    let H := Lean.mkIdent (Lean.Name.mkSimple ("H" ++ a))
    let s := Lean.mkIdent (Lean.Name.mkSimple ("s" ++ a))
    let h := Lean.mkIdent (Lean.Name.mkSimple ("h" ++ a))
    `(tactic| (intro $p $n; generalize e : upd _ $p _ = $H; have $s : Same _ $H := e ▸ same_new $n; have $h : $H $p = some _ := e ▸ upd_same; clear e))
  | _ => Lean.Macro.throwUnsupported
/-! ### the law's reader: its state -/
structure LX (K : PySem.W.Frag) (H0 H : Hp) (sp : Addr) (S : PS) (bl : Addr) (as ils : List Addr) : Prop where
  hs : H sp = some (.lst [.ref bl, .int (S.count : Int)])
  ns : H0 sp = none
  hb : H bl = some (.lst (as.map V.ref).reverse)
  nb : H0 bl = none
  bs : LBlks K H0 H as ils S.blks
  d1 : sp ≠ bl
  d2 : sp ∉ as
  d3 : sp ∉ ils
  d4 : bl ∉ as
  d5 : bl ∉ ils
  d6 : ils.Nodup
  d7 : ∀ x ∈ ils, x ∉ as
def LawAt (K : PySem.W.Frag) (H0 H : Hp) (sp : Addr) (S : PS) : Prop := ∃ bl as ils, LX K H0 H sp S bl as ils
theorem LX.same {K : PySem.W.Frag} {H0 H H' : Hp} {sp bl : Addr} {S : PS} {as ils : List Addr} (h : LX K H0 H sp S bl as ils) (s : Same H H') : LX K H0 H' sp S bl as ils :=
  ⟨s _ _ h.hs, h.ns, s _ _ h.hb, h.nb, LBlks.same s h.bs, h.d1, h.d2, h.d3, h.d4, h.d5, h.d6, h.d7⟩
theorem LawAt.same {K : PySem.W.Frag} {H0 H H' : Hp} {sp : Addr} {S : PS} (h : LawAt K H0 H sp S) (s : Same H H') : LawAt K H0 H' sp S := let ⟨bl, as, ils, X⟩ := h; ⟨bl, as, ils, X.same s⟩
theorem LX.cnt {K : PySem.W.Frag} {H0 H : Hp} {sp bl : Addr} {S : PS} {as ils : List Addr} (h : LX K H0 H sp S bl as ils) (c : Nat) : LX K H0 (upd H sp (.lst [.ref bl, .int (c : Int)])) sp ⟨S.blks, c⟩ bl as ils :=
  ⟨upd_same, h.ns, by rw [upd_ne h.d1.symm]; exact h.hb, h.nb, LBlks.kp (Kf.upd rfl) (sameT_lst h.hs) h.d2 h.d3 h.bs, h.d1, h.d2, h.d3, h.d4, h.d5, h.d6, h.d7⟩
theorem LX.put {K : PySem.W.Frag} {H0 H : Hp} {sp bl a il : Addr} {B : Blk} {Bs : List Blk} {c : Nat} {as ils : List Addr} {vs : List V} {v : V} {x : PyData} (h : LX K H0 H sp ⟨B :: Bs, c⟩ bl (a :: as) (il :: ils))
    (hv : H il = some (.lst vs)) (hx : Dp K H v x) (tx : tupled x = true) : LX K H0 (upd H il (.lst (vs ++ [v]))) sp ⟨putM x (B :: Bs), c⟩ bl (a :: as) (il :: ils) := by
  have st : SameT H (upd H il (.lst (vs ++ [v]))) := sameT_lst hv
  obtain ⟨⟨hd, hs, vs', e1, e2, e3, e4, e5, t1, t2⟩, n1, rest⟩ := h.bs
  rw [hv] at e4
  cases e4
  have nm' := List.nodup_cons.mp h.d6
  have d7 := h.d7 il (List.mem_cons_self ..)
  refine ⟨by rw [upd_ne (fun z => h.d3 (by rw [z]; exact List.mem_cons_self ..))]; exact h.hs, h.ns, by rw [upd_ne (fun z => h.d5 (by rw [z]; exact List.mem_cons_self ..))]; exact h.hb, h.nb,
    ⟨⟨hd, hs, _, by rw [upd_ne (fun z => d7 (by rw [← z]; exact List.mem_cons_self ..))]; exact e1, st.sq e2, dp_monoAll st _ _ t1 e3, upd_same, dpAll_app (dp_monoAll st _ _ t2 e5) (.cons (dp_mono st _ _ tx hx) .nil), t1, tupled_app t2 (show (tupled x && true) = true by rw [tx] <;> rfl)⟩, n1, LBlks.kp (Kf.upd rfl) st (fun z => d7 (List.mem_cons_of_mem _ z)) nm'.1 rest⟩,
    h.d1, h.d2, h.d3, h.d4, h.d5, h.d6, h.d7⟩
theorem LX.pop {K : PySem.W.Frag} {H0 H : Hp} {sp bl a il : Addr} {B : Blk} {Bs : List Blk} {c : Nat} {as ils : List Addr} (h : LX K H0 H sp ⟨B :: Bs, c⟩ bl (a :: as) (il :: ils)) :
    LX K H0 (upd H bl (.lst (as.map V.ref).reverse)) sp ⟨Bs, c⟩ bl as ils ∧ LBlkAt K (upd H bl (.lst (as.map V.ref).reverse)) a il B := by
  have st : SameT H (upd H bl (.lst (as.map V.ref).reverse)) := sameT_lst h.hb
  have k : Kp bl H (upd H bl (.lst (as.map V.ref).reverse)) := Kf.upd rfl
  obtain ⟨h1, n1, rest⟩ := h.bs
  have d4 := h.d4
  have d5 := h.d5
  refine ⟨⟨by rw [upd_ne h.d1]; exact h.hs, h.ns, upd_same, h.nb, LBlks.kp k st (fun z => d4 (List.mem_cons_of_mem _ z)) (fun z => d5 (List.mem_cons_of_mem _ z)) rest, h.d1, fun z => h.d2 (List.mem_cons_of_mem _ z), fun z => h.d3 (List.mem_cons_of_mem _ z), fun z => d4 (List.mem_cons_of_mem _ z), fun z => d5 (List.mem_cons_of_mem _ z), (List.nodup_cons.mp h.d6).2, fun x hx hy => h.d7 x (List.mem_cons_of_mem _ hx) (List.mem_cons_of_mem _ hy)⟩,
    h1.kp k st (fun z => d4 (by rw [z]; exact List.mem_cons_self ..)) (fun z => d5 (by rw [z]; exact List.mem_cons_self ..))⟩
theorem LX.push {K : PySem.W.Frag} {H0 H : Hp} {sp bl a il : Addr} {B : Blk} {Bs : List Blk} {c : Nat} {as ils : List Addr} (h : LX K H0 H sp ⟨Bs, c⟩ bl as ils) (hB : LBlkAt K H a il B) (n : H0 il = none) (ai : a ≠ il) (fa : a ∉ (sp :: bl :: (as ++ ils))) (fi : il ∉ (sp :: bl :: (as ++ ils))) :
    LX K H0 (upd H bl (.lst ((as.map V.ref).reverse ++ [.ref a]))) sp ⟨B :: Bs, c⟩ bl (a :: as) (il :: ils) := by
  have st : SameT H (upd H bl (.lst ((as.map V.ref).reverse ++ [.ref a]))) := sameT_lst h.hb
  have k : Kp bl H (upd H bl (.lst ((as.map V.ref).reverse ++ [.ref a]))) := Kf.upd rfl
  simp only [List.mem_cons, List.mem_append, not_or] at fa fi
  obtain ⟨a1, a2, a3, a4⟩ := fa
  obtain ⟨i1, i2, i3, i4⟩ := fi
  refine ⟨by rw [upd_ne h.d1]; exact h.hs, h.ns, by rw [upd_same, List.map_cons, List.reverse_cons], h.nb, ⟨hB.kp k st a2 i2, n, LBlks.kp k st h.d4 h.d5 h.bs⟩, h.d1, ?_, ?_, ?_, ?_, List.nodup_cons.mpr ⟨i4, h.d6⟩, fun x hx hy => ?_⟩
  · exact fun z => (List.mem_cons.mp z).elim (fun e => a1 e.symm) h.d2
  · exact fun z => (List.mem_cons.mp z).elim (fun e => i1 e.symm) h.d3
  · exact fun z => (List.mem_cons.mp z).elim (fun e => a2 e.symm) h.d4
  · exact fun z => (List.mem_cons.mp z).elim (fun e => i2 e.symm) h.d5
  · rcases List.mem_cons.mp hx with rfl | hx
    · exact (List.mem_cons.mp hy).elim (fun e => ai e.symm) i3
    · rcases List.mem_cons.mp hy with rfl | hy
      · exact a4 hx
      · exact h.d7 x hx hy
/-- what is new stands apart from the state -/
theorem LX.apart {K : PySem.W.Frag} {H0 H : Hp} {sp bl q : Addr} {S : PS} {as ils : List Addr} (h : LX K H0 H sp S bl as ils) (n : H q = none) : q ∉ (sp :: bl :: (as ++ ils)) := by
  intro z
  rcases List.mem_cons.mp z with rfl | z
  · rw [h.hs] at n; cases n
  rcases List.mem_cons.mp z with rfl | z
  · rw [h.hb] at n; cases n
  obtain ⟨vs, e⟩ := LBlks.mem h.bs (List.mem_append.mp z)
  rw [e] at n; cases n
def spLine (K : PySem.W.Frag) : Sp := fun vs H Q _ => ∃ (z : Str) (nm sp : Addr) (ns : List Str) (S : PS) (H0 : Hp), vs = [.str z, .ref nm, .ref sp] ∧ Same H0 H ∧ SqL K H0 nm (ns.map V.str) ∧ ns.length ≤ 4 ∧ (tl z).length ≤ 100000 ∧ 10 ∉ tl z ∧ cutM z = z ∧ LawAt K H0 H sp S ∧ PSok S ∧
  (match readM ns S z with
    | .error c => ∀ H', Same H0 H' → Q (.int (c : Int)) H'
    | .ok S' => ∀ H', Same H0 H' → LawAt K H0 H' sp S' → Q .non H')
section
variable {P : Program} {w : World} {K : PySem.W.Frag} {mg : Str → Option Value} {base : Heap}
abbrev N_law_line : List Str := ["_law_line_here", "_law_names", "_law_state", "_law_tokens", "_law_column", "_law_blocks", "_law_head", "_law_product", "_law_inner", "_law_statement", "_law_block"]
theorem sc_law_line : FnScope N_law_line ["_law_line_here", "_law_names", "_law_state"] (defScope s_law_line) := ⟨rfl, rfl, rfl, by decide +kernel, rfl, by decide +kernel, by decide +kernel⟩
theorem b_law_line (T : Tx K mg) : Binds K T.fd_law_line ["_law_line_here", "_law_names", "_law_state"] [] := T.F_law_line.bindsN fun _ _ _ _ _ _ us hl => match us, hl with | [_, _, _], _ => rfl
theorem ok_law_line (T : Tx K mg) : FnOk P w K mg base CX0 86 (He.ga K "_law_line") T.fd_law_line ["_law_line_here", "_law_names", "_law_state"] (spLine K) := by
  refine T.F_law_line.ok sc_law_line (fun vs H Q E h => ?_) (fun cdv A outer s H vs Q E hr h => ?_)
  · obtain ⟨z, nm, sp, ns, S, H0, rfl, _⟩ := h
    rfl
  obtain ⟨z, nm, sp, ns, ⟨blks, cnt⟩, H0, rfl, s0, hnm, nl, hz, h10, hc, ⟨bl, as, ils, X⟩, pok, q⟩ := h
  obtain ⟨B, Bs, a0, as, il0, ils, rfl, rfl, rfl⟩ := LBlks.cons pok.ne X.bs
  refine ⟨_, PSs.nox (pss_cons (ps_asg (pe_call (ok_law_lexed T) (hr.mono (by decide)) rfl T.g_law_lexed T.F_law_lexed.kp (b_law_lexed T) .nil pass0 (pa_cons (pv 0) pa_nil)) (pg_tup rfl (pgs_cons (pg_name (i := 3) sc_law_line.nd rfl (Or.inl rfl)) (pgs_cons (pg_name (i := 4) sc_law_line.nd rfl (Or.inl rfl)) pgs_nil))))
      (pss_cons (ps_set (i := 5) sc_law_line.nd rfl (Or.inl rfl) (pe_ix (r := rIxL K) ix_list (pv 2) pe_int (fun _ _ => rfl)))
      (pss_cons (ps_if (PW.pt (pw_or (pt_cmpR (op_notN) (pv 4) pe_non (nomark _)) (pw_or1 (pt_cmpR (op_eq) (pe_ix (r := rIxT K) ix_tup (pe_ix (r := rIxL K) ix_list (pv 3) pe_int (fun _ _ => rfl)) pe_int (fun _ _ => rfl)) pe_str (nomark _))))) (pss_one (ps_ret (pv 4))) pss_nil)
      (pss_cons (ps_if (PW.pt (pw_and (pt_cmpR (op_eq) (pe_ix (r := rIxT K) ix_tup (pe_ix (r := rIxL K) ix_list (pv 3) pe_int (fun _ _ => rfl)) pe_int (fun _ _ => rfl)) pe_str (nomark _)) (pw_and1 (pt_cmpR (op_eq) (pe_ix (r := rIxT K) ix_tup (pe_ix (r := rIxL K) ix_list (pv 3) pe_int (fun _ _ => rfl)) pe_int (fun _ _ => rfl)) pe_str (nomark _))))) (pss_cons (ps_if (PW.pt (pw_or (pt_cmpR (op_eq) (pe_callB (call_lenQ (K := K) rfl) rfl T.z_len PySem.boot_len (pa_cons (pv 5) pa_nil)) pe_int (nomark _)) (pw_or1 (pt_cmpR (op_ne) (pe_ix (r := rIxT K) ix_tup (pe_ix (r := rIxL K) ix_list (pv 3) pe_int (fun _ _ => rfl)) pe_int (fun _ _ => rfl)) pe_str (nomark _))))) (pss_one (ps_ret (pe_ifExp (pt_cmpR (op_eq) (pe_callB (call_lenQ (K := K) rfl) rfl T.z_len PySem.boot_len (pa_cons (pv 5) pa_nil)) pe_int (nomark _)) (pe_ix (r := rIxT K) ix_tup (pe_ix (r := rIxL K) ix_list (pv 3) pe_int (fun _ _ => rfl)) pe_int (fun _ _ => rfl)) (pe_ix (r := rIxT K) ix_tup (pe_ix (r := rIxL K) ix_list (pv 3) pe_int (fun _ _ => rfl)) pe_int (fun _ _ => rfl))))) pss_nil)
      (pss_cons (ps_asg (pe_bm0 PySem.F.plainAttrs_list PySem.F.slot_list_pop PySem.F.type_list_pop mt_pop (pv 5)) (pg_unl rfl (pgs_cons (pg_name (i := 6) sc_law_line.nd rfl (Or.inl rfl)) (pgs_cons (pg_name (i := 7) sc_law_line.nd rfl (Or.inl rfl)) (pgs_cons (pg_name (i := 8) sc_law_line.nd rfl (Or.inl rfl)) pgs_nil)))))
      (pss_cons (ps_expr (pe_bm PySem.F.plainAttrs_list PySem.F.slot_list_append PySem.F.type_list_append mt_append (pe_ix (r := rIxL K) ix_list (pe_ix (r := rIxL K) ix_list (pv 5) (pe_un un_neg pe_int) (fun _ _ => rfl)) pe_int (fun _ _ => rfl)) (pa_cons (pe_op (r := rCatS K) op_catS (pv 6) (pe_tup (pa_cons (pe_callTy call_tuple_of rfl T.z_tuple (by decide +kernel) (pa_cons (pv 8) pa_nil)) pa_nil))) pa_nil)))
      (pss_one (ps_ret pe_non))))) pss_nil)
      (pss_cons (ps_asg (pe_op op_add (pe_ix (r := rIxL K) ix_list (pv 2) pe_int (fun _ _ => rfl)) pe_int) (pg_sub (pv 2) pe_int set_list))
      (pss_cons (ps_if (pt_cmpR (op_gt) (pe_ix (r := rIxL K) ix_list (pv 2) pe_int (fun _ _ => rfl)) pe_int (nomark _)) (pss_one (ps_ret (pe_ix (r := rIxT K) ix_tup (pe_ix (r := rIxL K) ix_list (pv 3) pe_int (fun _ _ => rfl)) pe_int (fun _ _ => rfl)))) pss_nil)
      (pss_cons (ps_if (pt_cmpR (op_eq) (pe_ix (r := rIxT K) ix_tup (pe_ix (r := rIxL K) ix_list (pv 3) pe_int (fun _ _ => rfl)) pe_int (fun _ _ => rfl)) pe_str (nomark _)) (pss_cons (ps_asg (pe_call (ok_law_assigned T) (hr.mono (by decide)) rfl T.g_law_assigned T.F_law_assigned.kp (b_law_assigned T) .nil pass0 (pa_cons (pv 0) (pa_cons (pv 1) pa_nil))) (pg_tup rfl (pgs_cons (pg_name (i := 9) sc_law_line.nd rfl (Or.inl rfl)) (pgs_cons (pg_name (i := 4) sc_law_line.nd rfl (Or.inl rfl)) pgs_nil))))
      (pss_cons (ps_expr (pe_bm PySem.F.plainAttrs_list PySem.F.slot_list_append PySem.F.type_list_append mt_append (pe_ix (r := rIxL K) ix_list (pe_ix (r := rIxL K) ix_list (pv 5) (pe_un un_neg pe_int) (fun _ _ => rfl)) pe_int (fun _ _ => rfl)) (pa_cons (pv 9) pa_nil)))
      (pss_one (ps_ret (pv 4))))) pss_nil)
      (pss_cons (ps_asg (pe_call (ok_law_opened T) (hr.mono (by decide)) rfl T.g_law_opened T.F_law_opened.kp (b_law_opened T) .nil pass0 (pa_cons (pv 3) (pa_cons (pv 5) pa_nil))) (pg_tup rfl (pgs_cons (pg_name (i := 4) sc_law_line.nd rfl (Or.inl rfl)) (pgs_cons (pg_name (i := 10) sc_law_line.nd rfl (Or.inl rfl)) pgs_nil))))
      (pss_cons (ps_expr (pe_bm PySem.F.plainAttrs_list PySem.F.slot_list_append PySem.F.type_list_append mt_append (pv 5) (pa_cons (pv 10) pa_nil)))
      (pss_one (ps_ret (pv 4)))))))))))), ?_⟩
  refine ⟨_, rfl, z, rfl, hz, ?_⟩
  unfold readM at q
  rcases el : lexM z with c | ts
  · rw [el] at q
    simp only at q ⊢
    intro p a H1 s1 sq
    have X1 := X.same s1
    refine ⟨p, _, rfl, sq, rfl, _, _, rfl, _, _, rfl, rfl, ?_⟩
    refine ⟨_, rfl, sp, _, _, _, rfl, rfl, .of X1.hs, atI_nat (j := 0) rfl, ?_⟩
    refine ⟨_, rfl, rfl, _, rfl, ifT rfl (ifT rfl ?_)⟩
    exact ⟨_, rfl, q H1 (s0.trans s1)⟩
  rw [el] at q
  simp only at q ⊢
  have tok := lexM_ok hz el
  have at_ := fun {j : Nat} {t : Tk} => law_at (z := z) (ts := ts) el (j := j) (t := t)
  intro p a H1 s1 hL sq
  have hL0 := hL
  obtain ⟨t, ht⟩ : ∃ t, (ts ++ [endTk z])[0]? = some t := ⟨_, List.getElem?_eq_getElem tok.pos⟩
  have ht0 := ht
  obtain ⟨vs, a1, d1⟩ := hL
  obtain ⟨t', hl0, tx0, tc0, tk0⟩ := at_ ht
  obtain ⟨b0, hb0, sb0⟩ := tk_get d1 hl0
  rw [tx0, tc0] at sb0
  have X1 := X.same s1
  have s01 := s0.trans s1
  unfold lineM at q
  rw [ht] at q
  simp only at q
  refine ⟨p, _, rfl, sq, rfl, _, _, rfl, _, _, rfl, rfl, ?_⟩
  refine ⟨_, rfl, sp, _, _, _, rfl, rfl, .of X1.hs, atI_nat (j := 0) rfl, ?_⟩
  refine ⟨_, rfl, rfl, _, rfl, ifF rfl ?_⟩
  refine ⟨_, rfl, a, _, _, _, rfl, rfl, .of a1, atI_nat (j := 0) hb0, b0, _, _, _, rfl, rfl, sb0, atI_nat (j := 0) rfl, rfl, _, rfl, ?_⟩
  rw [eq_str]
  by_cases e1 : t.kind = "end of line"
  · rw [if_pos e1] at q
    have k' : t'.kind = "" := by
      rcases tk0 with ⟨_, k, _⟩ | ⟨_, kt⟩
      · exact k
      · exact absurd e1 kt.real.2
    refine ifT (decide_eq_true k') ?_
    exact ⟨_, rfl, q H1 s01 ⟨bl, _, _, X1⟩⟩
  rw [if_neg e1] at q
  obtain ⟨hk0, kt0⟩ : t'.kind = t.kind ∧ KT t := tk0.resolve_left (fun z => e1 z.1)
  refine ifF (decide_eq_false (by rw [hk0]; exact kt0.real.1)) ?_
  rw [hk0] at sb0
  have hi1 : 0 + 1 < (ts ++ [endTk z]).length := tok.fin 0 t ht e1
  obtain ⟨u, hu⟩ : ∃ u, (ts ++ [endTk z])[1]? = some u := ⟨_, List.getElem?_eq_getElem hi1⟩
  obtain ⟨u', hl1, ux, uc, uk⟩ := at_ hu
  obtain ⟨b1, hb1, sb1⟩ := tk_get d1 hl1
  rw [ux, uc] at sb1
  have uend : u'.kind = "" ↔ u.kind = "end of line" := by
    rcases uk with ⟨k1, k2, _⟩ | ⟨k, kt⟩
    · exact ⟨fun _ => k1, fun _ => k2⟩
    · rw [k]; exact ⟨fun y => absurd y kt.real.1, fun y => absurd y kt.real.2⟩
  have bl5 : ((a0 :: as).map V.ref).reverse.length = (B :: Bs).length := by rw [List.length_reverse, List.length_map, (LBlks.len X.bs).1]
  have ke : acOk "word" ["end"] t = true ↔ t.kind = "word" ∧ t.text = "end" := by
    unfold acOk
    rw [Bool.and_eq_true]
    constructor
    · rintro ⟨h1, h2⟩
      exact ⟨of_decide_eq_true h1, List.mem_singleton.mp (of_decide_eq_true h2)⟩
    · rintro ⟨h1, h2⟩
      exact ⟨decide_eq_true h1, decide_eq_true (List.mem_singleton.mpr h2)⟩
  dsimp only [tNext]
  refine seq_join (fun σ' H' => H' = H1 ∧ ¬ acOk "word" ["end"] t = true ∧ σ' = [some (.str z), some (.ref nm), some (.ref sp), some (.ref a), some .non, some (.ref bl), none, none, none, none, none]) ?_ ?_
  case refine_2 =>
    intro nx hnx
    refine ⟨_, rfl, a, _, _, _, rfl, rfl, .of a1, atI_nat (j := 0) hb0, b0, _, _, _, rfl, rfl, sb0, atI_nat (j := 0) rfl, rfl, _, rfl, ?_⟩
    rw [eq_str]
    by_cases c1 : t.kind = "word"
    case neg =>
      refine ifF (decide_eq_false c1) (ifF rfl ?_)
      exact hnx _ _ ⟨rfl, fun h => c1 (ke.mp h).1, rfl⟩
    refine ifT (decide_eq_true c1) ?_
    refine ⟨_, rfl, a, _, _, _, rfl, rfl, .of a1, atI_nat (j := 0) hb0, b0, _, _, _, rfl, rfl, sb0, atI_nat (j := 1) rfl, rfl, _, rfl, ?_⟩
    rw [eq_str]
    by_cases c2 : t.text = "end"
    case neg =>
      refine ifF (decide_eq_false c2) ?_
      exact hnx _ _ ⟨rfl, fun h => c2 (ke.mp h).2, rfl⟩
    refine ifT (decide_eq_true c2) ?_
    rw [if_pos (ke.mpr ⟨c1, c2⟩)] at q
    refine ⟨_, rfl, bl, _, rfl, .inl (.of X1.hb), ?_⟩
    rw [bl5]
    refine ⟨rfl, _, rfl, ?_⟩
    by_cases c3 : (B :: Bs).length = 1
    · rw [if_pos c3] at q
      refine ifT (decide_eq_true (by rw [c3] <;> rfl)) (ifT rfl ?_)
      refine ⟨_, rfl, bl, _, rfl, .inl (.of X1.hb), ?_⟩
      rw [bl5]
      refine ⟨rfl, _, rfl, ifT (decide_eq_true (by rw [c3] <;> rfl)) ?_⟩
      exact ⟨_, rfl, a, _, _, _, rfl, rfl, .of a1, atI_nat (j := 0) hb0, b0, _, _, _, rfl, rfl, sb0, atI_nat (j := 2) rfl, q H1 s01⟩
    rw [if_neg c3, takeM_eq hu] at q
    have c3' : ¬ V.int (((B :: Bs).length : Nat) : Int) = V.int 1 := fun y => c3 (by have := V.int.inj y; omega)
    refine ifF (decide_eq_false c3') ?_
    refine ⟨_, rfl, a, _, _, _, rfl, rfl, .of a1, atI_nat (j := 1) hb1, b1, _, _, _, rfl, rfl, sb1, atI_nat (j := 0) rfl, rfl, _, rfl, ?_⟩
    rw [eq_str]
    have te : tkOk "end of line" none u = true ↔ u.kind = "end of line" := by
      unfold tkOk
      simp
    by_cases c4 : u'.kind = ""
    case neg =>
      rw [if_neg (fun h => c4 (uend.mpr (te.mp h)))] at q
      refine ifT (by rw [decide_eq_false c4] <;> rfl) ?_
      refine ⟨_, rfl, bl, _, rfl, .inl (.of X1.hb), ?_⟩
      rw [bl5]
      refine ⟨rfl, _, rfl, ifF (decide_eq_false c3') ?_⟩
      exact ⟨_, rfl, a, _, _, _, rfl, rfl, .of a1, atI_nat (j := 1) hb1, b1, _, _, _, rfl, rfl, sb1, atI_nat (j := 2) rfl, q H1 s01⟩
    rw [if_pos (te.mpr (uend.mp c4))] at q
    simp only at q
    refine ifF (by rw [decide_eq_true c4] <;> rfl) ?_
    obtain ⟨_, C, Bs', eb⟩ := closeM_ok c3 (List.cons_ne_nil _ _)
    obtain ⟨rfl, rfl⟩ := List.cons.inj eb
    obtain ⟨_, _, a1', as', il1, ils', eb2, rfl, rfl⟩ := LBlks.cons (List.cons_ne_nil C Bs') X1.bs.2.2
    obtain ⟨rfl, rfl⟩ := List.cons.inj eb2
    refine ⟨_, rfl, .inl ⟨rfl, _, .inl (.inl X1.hb)⟩, bl, _, _, rfl, rfl, X1.hb, get_last V.ref a0 (a1' :: as'), ?_⟩
    rw [drop_last]
    obtain ⟨X5, hB⟩ := X1.pop
    have s05 := same_updN (u := .lst ((a1' :: as').map V.ref).reverse) s01 X1.nb
    generalize upd H1 bl (.lst ((a1' :: as').map V.ref).reverse) = H5 at X5 hB s05
    obtain ⟨hdb, hsb, vsb, g1, g2, g3, g4, g5, g6, g7⟩ := hB
    obtain ⟨⟨hdc, hsc, vsc, f1, f2, f3, f4, f5, f6, f7⟩, _⟩ := X5.bs
    refine ⟨a0, _, rfl, .of g1, rfl, _, _, rfl, _, _, rfl, _, _, rfl, rfl, ?_⟩
    refine ⟨_, rfl, _, rfl, bl, _, _, _, rfl, rfl, .of X5.hb, last_at V.ref a1' as', a1', _, _, _, rfl, rfl, .of f1, atI_nat (j := 2) rfl, .inl ⟨rfl, _, .inl (.inl f4)⟩, ?_⟩
    refine ⟨_, rfl, _, rfl, il0, vsb, rfl, .inl ⟨.of g4, ?_⟩⟩
    walk_at "new 6"
    refine ⟨sz 1, ?_⟩
    walk_at "new 7"
    have hdl : hsb.length ≤ 99999 := by
      have h1 := dpAll_len g3
      have h2 := pok.hd2 B (List.mem_cons_self ..)
      omega
    refine ⟨hdb, p7, hsb, [.ref p6], rfl, rfl, sameT (s6.trans s7) g2, .of h7, (by rw [List.length_singleton]; omega), fun a8 H8 s8 h8 => ?_⟩
    have ss := (s6.trans s7).trans s8
    have X8 := X5.same ss
    have f48 := ss _ _ f4
    have t8 : tupled (.tuple (B.head ++ [.tuple B.inner])) = true := tupled_app (es := [.tuple B.inner]) g6 (show (tupled.go B.inner && true) = true by rw [g7] <;> rfl)
    have d8 : Dp K H8 (.ref a8) (.tuple (B.head ++ [.tuple B.inner])) := .tup h8 (dpAll_app (dp_monoAll (Same.tups ss) _ _ g6 g3) (.cons (.tup (sameT (s7.trans s8) (.of h6)) (dp_monoAll (Same.tups ss) _ _ g7 g5)) .nil))
    have hcl : C.inner.length ≤ 31 := by
      have h1 := pok.tot
      have h2 := pok.count
      have h1 : B.inner.length + 1 + (C.inner.length + 1 + tot Bs') ≤ cnt + 1 := h1
      have h2 : cnt ≤ 30 := h2
      omega
    refine ⟨il1, vsc, _, rfl, rfl, f48, dpAll_sz f5 hcl, ?_⟩
    exact q _ (same_updN (s05.trans ss) X8.bs.2.1) ⟨bl, _, _, X8.put f48 d8 t8⟩
  rintro σ2 H2 ⟨rfl, e2, rfl⟩
  rw [if_neg e2] at q
  have X3 := X1.cnt (cnt + 1)
  have s03 := same_updN (u := .lst [.ref bl, .int ((cnt + 1 : Nat) : Int)]) s01 X1.ns
  have k3 : Kp sp H2 (upd H2 sp (.lst [.ref bl, .int ((cnt + 1 : Nat) : Int)])) := Kf.upd rfl
  have st3 : SameT H2 (upd H2 sp (.lst [.ref bl, .int ((cnt + 1 : Nat) : Int)])) := sameT_lst X1.hs
  refine ⟨_, rfl, sp, _, _, _, rfl, rfl, .of X1.hs, atI_nat (j := 1) rfl, _, _, rfl, rfl, _, rfl, sp, _, (1 : Int), 1, rfl, rfl, X1.hs, rfl, ?_⟩
  have asp : a ≠ sp := fun y => by
    have h1 := X1.hs
    rw [← y, a1] at h1
    have h2 : vs = [V.ref bl, V.int (cnt : Int)] := by cases h1; rfl
    rw [h2] at hb1
    cases hb1
  have a3 : upd H2 sp (.lst [.ref bl, .int ((cnt + 1 : Nat) : Int)]) a = some (.lst vs) := by rw [upd_ne asp]; exact a1
  have d3 := dp_monoAll st3 _ _ (tkDs_tup (lawTs z ts)) d1
  have sb3 := st3.sq sb0
  have L3 : LexAt K (upd H2 sp (.lst [.ref bl, .int ((cnt + 1 : Nat) : Int)])) a (lawTs z ts) := ⟨vs, a3, d3⟩
  refine ⟨_, rfl, sp, _, _, _, rfl, rfl, .of X3.hs, atI_nat (j := 1) rfl, _, _, rfl, rfl, _, rfl, ?_⟩
  by_cases e3 : 30 < cnt + 1
  · rw [if_pos e3] at q
    refine ifT (decide_eq_true (show (30 : Int) < ((cnt + 1 : Nat) : Int) by omega)) ?_
    exact ⟨_, rfl, a, _, _, _, rfl, rfl, .of a3, atI_nat (j := 0) hb0, b0, _, _, _, rfl, rfl, sb3, atI_nat (j := 2) rfl, q _ s03⟩
  rw [if_neg e3] at q
  refine ifF (decide_eq_false (show ¬ (30 : Int) < ((cnt + 1 : Nat) : Int) by omega)) ?_
  refine ⟨_, rfl, a, _, _, _, rfl, rfl, .of a3, atI_nat (j := 0) hb0, b0, _, _, _, rfl, rfl, sb3, atI_nat (j := 0) rfl, rfl, _, rfl, ?_⟩
  rw [eq_str]
  obtain ⟨⟨hdb, hsb, vsb, g1, g2, g3, g4, g5, g6, g7⟩, nil0, _⟩ := X3.bs
  have pok' : PSok ⟨B :: Bs, cnt + 1⟩ := ⟨pok.ne, by show cnt + 1 ≤ 30; omega, pok.deep, pok.rounds, Nat.le_succ_of_le pok.tot, pok.tupd, pok.hd2⟩
  by_cases e4 : t.kind = "name"
  · rw [if_pos e4] at q
    refine ifT (decide_eq_true e4) ?_
    refine ⟨_, rfl, _, rfl, z, nm, ns, ts, t, rfl, s03.seq hnm, nl, el, hz, h10, hc, ht0, e4, ?_⟩
    rcases e5 : assignM ns (ts ++ [endTk z]) with c | rows
    · rw [e5] at q
      simp only at q ⊢
      intro p4 H4 s4 sq4
      have X4 := X3.same s4
      refine ⟨p4, _, rfl, sq4, rfl, _, _, rfl, _, _, rfl, rfl, ?_⟩
      refine ⟨_, rfl, _, rfl, bl, _, _, _, rfl, rfl, .of X4.hb, last_at V.ref a0 as, a0, _, _, _, rfl, rfl, .of (s4 _ _ g1), atI_nat (j := 2) rfl, .inl ⟨rfl, _, .inl (.inl (s4 _ _ g4))⟩, _, rfl, il0, vsb, _, rfl, rfl, s4 _ _ g4, dpAll_sz g5 (inner_le pok'), ?_⟩
      exact ⟨_, rfl, q _ (same_updN (s03.trans s4) nil0)⟩
    · rw [e5] at q
      simp only at q ⊢
      intro p4 v H4 s4 d4 sq4
      have X4 := X3.same s4
      refine ⟨p4, _, rfl, sq4, rfl, _, _, rfl, _, _, rfl, rfl, ?_⟩
      refine ⟨_, rfl, _, rfl, bl, _, _, _, rfl, rfl, .of X4.hb, last_at V.ref a0 as, a0, _, _, _, rfl, rfl, .of (s4 _ _ g1), atI_nat (j := 2) rfl, .inl ⟨rfl, _, .inl (.inl (s4 _ _ g4))⟩, _, rfl, il0, vsb, _, rfl, rfl, s4 _ _ g4, dpAll_sz g5 (inner_le pok'), ?_⟩
      exact ⟨_, rfl, q _ (same_updN (s03.trans s4) nil0) ⟨bl, _, _, X4.put (s4 _ _ g4) d4 (asgD_tup rows)⟩⟩
  rw [if_neg e4] at q
  refine ifF (decide_eq_false e4) ?_
  have bl3 : ((a0 :: as).map V.ref).reverse.length < sizeLine := szl _ (by rw [bl5]; have := pok.deep; have h5 : (B :: Bs).length ≤ 5 := this; omega)
  refine ⟨_, rfl, _, rfl, a, bl, _, _, _, H0, z, ts, t, rfl, el, hz, L3, X3.hb, X3.bs, pok.ne, pok.deep, pok.rounds, ht0, e1, ?_⟩
  rcases e5 : openM (ts ++ [endTk z]) (B :: Bs) with c | hr'
  · rw [e5] at q
    simp only at q ⊢
    intro p4 x H4 s4 sq4
    refine ⟨p4, _, rfl, sq4, rfl, _, _, rfl, _, _, rfl, rfl, ?_⟩
    refine ⟨_, rfl, .inl ⟨rfl, _, .inl (.inl (s4 _ _ X3.hb))⟩, _, rfl, bl, _, _, rfl, rfl, s4 _ _ X3.hb, bl3, ?_⟩
    exact ⟨_, rfl, q _ (same_updN (s03.trans s4) X3.nb)⟩
  · obtain ⟨h', r'⟩ := hr'
    rw [e5] at q
    simp only at q ⊢
    intro p4 b il H4 s4 nb nil bil hB sq4
    have X4 := X3.same s4
    refine ⟨p4, _, rfl, sq4, rfl, _, _, rfl, _, _, rfl, rfl, ?_⟩
    refine ⟨_, rfl, .inl ⟨rfl, _, .inl (.inl X4.hb)⟩, _, rfl, bl, _, _, rfl, rfl, X4.hb, bl3, ?_⟩
    exact ⟨_, rfl, q _ (same_updN (s03.trans s4) X3.nb) ⟨bl, _, _, X4.push hB (none_same s03 nil) bil (X3.apart nb) (X3.apart nil)⟩⟩
end
end Kw

set_option Elab.async false
set_option linter.all false
set_option maxRecDepth 100000
set_option maxHeartbeats 4000000
namespace Kw
open PySem PySem.Spec PyProof.Rows L2
local macro_rules | `(tactic| walk_at $s:str) => do
  match s.getString.splitOn " " with
  | ["new", a] =>
    let p := Lean.mkIdent (Lean.Name.mkSimple ("p" ++ a))
    let n := Lean.mkIdent (Lean.Name.mkSimple ("n" ++ a))
    let H := Lean.mkIdent (Lean.Name.mkSimple ("H" ++ a))
    let s := Lean.mkIdent (Lean.Name.mkSimple ("s" ++ a))
    let h := Lean.mkIdent (Lean.Name.mkSimple ("h" ++ a))
    `(tactic| (intro $p $n; generalize e : upd _ $p _ = $H; have $s : Same _ $H := e ▸ same_new $n; have $h : $H $p = some _ := e ▸ upd_same; clear e))
  | _ => Lean.Macro.throwUnsupported
/-! ### the outcome, told once -/
def finR (n : Nat) : Except (Nat × Nat) (Option (List Str × PS)) → Except (Nat × Nat) (List Str × List PyData)
  | .error e => .error e
  | .ok none => .error (n + 1, 1)
  | .ok (some (ns, S)) => match finM n S with
    | .error e => .error e
    | .ok ds => .ok (ns, ds)
def st0 : Option (List Str) → Option (List Str × PS)
  | none => none
  | some ns => some (ns, PS0)
def resM (on : Option (List Str)) (ls : List Str) : Except (Nat × Nat) (List Str × List PyData) := finR ls.length (progGo (st0 on) 0 ls)
def outD : Except (Nat × Nat) (List Str × List PyData) → PyData
  | .error (l, c) => .tuple [.none, .int (l : Int), .int (c : Int)]
  | .ok (ns, ds) => .tuple [.tuple [namesD ns, .tuple ds], .none, .none]
theorem progGo_some : ∀ (ls : List Str) (i : Nat) (ns : List Str) (S : PS) (out : Option (List Str × PS)), progGo (some (ns, S)) i ls = .ok out → ∃ S', out = some (ns, S')
  | [], _, ns, S, out, e => by
    have e : (.ok (some (ns, S)) : Except (Nat × Nat) (Option (List Str × PS))) = .ok out := e
    cases e
    exact ⟨S, rfl⟩
  | z :: zs, i, ns, S, out, e => by
    unfold progGo at e
    by_cases c1 : i = 80
    · rw [if_pos c1] at e; cases e
    rw [if_neg c1] at e
    simp only at e
    cases q1 : readM ns S z with
    | error c => rw [q1] at e; cases e
    | ok S' => rw [q1] at e; exact progGo_some zs _ _ _ _ e
theorem res_none (ls : List Str) : resM none ls = progM ls := by
  unfold resM progM finR st0
  cases progGo none 0 ls with
  | error e => rfl
  | ok st => rcases st with _ | ⟨ns, S⟩ <;> rfl
theorem res_some (ns ls : List Str) : resM (some ns) ls = (match stmtsM ns ls with
    | .error e => .error e
    | .ok ds => .ok (ns, ds)) := by
  unfold resM stmtsM finR st0
  cases e : progGo (some (ns, PS0)) 0 ls with
  | error e => rfl
  | ok st =>
    obtain ⟨S', rfl⟩ := progGo_some _ _ _ _ _ e
    simp only
theorem LX.rebase {K : PySem.W.Frag} {H0 H : Hp} {sp bl b : Addr} {S : PS} {as ils : List Addr} {o : HO} (h : LX K H0 H sp S bl as ils) (n : H b = none) : LX K (upd H0 b o) H sp S bl as ils := by
  have key : ∀ {as ils : List Addr} {Bs : List Blk}, LBlks K H0 H as ils Bs → LBlks K (upd H0 b o) H as ils Bs := by
    intro as
    induction as with
    | nil =>
      intro ils Bs h
      match ils, Bs, h with
      | [], [], _ => trivial
    | cons a as ih =>
      intro ils Bs h
      match ils, Bs, h with
      | il :: ils, B :: Bs, h =>
        obtain ⟨h1, h2, h3⟩ := h
        refine ⟨h1, ?_, ih h3⟩
        obtain ⟨hd, hs, vs, e1, e2, e3, e4, _⟩ := h1
        rw [upd_ne (ne_of_none e4 n)]
        exact h2
  exact ⟨h.hs, by rw [upd_ne (ne_of_none h.hs n)]; exact h.ns, h.hb, by rw [upd_ne (ne_of_none h.hb n)]; exact h.nb, key h.bs, h.d1, h.d2, h.d3, h.d4, h.d5, h.d6, h.d7⟩
/-- lines as they may stand -/
structure RawOk (raw : List Str) : Prop where
  len : raw.length ≤ 1000
  short : ∀ z ∈ raw, z.length ≤ 100000
  no : ∀ z ∈ raw, 10 ∉ tl z
def OnAt (K : PySem.W.Frag) (H : Hp) (v : V) : Option (List Str) → Prop
  | none => v = .non
  | some ns => ∃ nm, v = .ref nm ∧ SqL K H nm (ns.map V.str) ∧ ns.length ≤ 4
def spReadL (K : PySem.W.Frag) : Sp := fun vs H Q _ => ∃ (a : Addr) (nv : V) (raw : List Str) (on : Option (List Str)), vs = [.ref a, nv] ∧ SqL K H a (raw.map V.str) ∧ RawOk raw ∧ OnAt K H nv on ∧
  ∀ v H', Same H H' → Dp K H' v (outD (resM on (raw.map cutM))) → Q v H'
/-- names and state in the loop -/
def LsAt (K : PySem.W.Frag) (Hb H : Hp) (nv : V) (sp : Addr) : Option (List Str × PS) → Prop
  | none => nv = .non ∧ LawAt K Hb H sp PS0
  | some (ns, S) => ∃ nm, nv = .ref nm ∧ SqL K Hb nm (ns.map V.str) ∧ ns.length ≤ 4 ∧ LawAt K Hb H sp S ∧ PSok S
theorem LsAt.same {K : PySem.W.Frag} {Hb H H' : Hp} {nv : V} {sp : Addr} : ∀ {st : Option (List Str × PS)}, LsAt K Hb H nv sp st → Same H H' → LsAt K Hb H' nv sp st
  | none, ⟨e, h⟩, s => ⟨e, h.same s⟩
  | some (ns, S), ⟨nm, e, h1, h2, h3, h4⟩, s => ⟨nm, e, h1, h2, h3.same s, h4⟩
section
variable {P : Program} {w : World} {K : PySem.W.Frag} {mg : Str → Option Value} {base : Heap}
abbrev N_law_read : List Str := ["_law_lines", "_law_names", "_law_state", "_law_index", "_law_line_here", "_law_column", "_law_tokens"]
theorem sc_law_read : FnScope N_law_read ["_law_lines", "_law_names"] (defScope s_law_read) := ⟨rfl, rfl, rfl, by decide +kernel, rfl, by decide +kernel, by decide +kernel⟩
theorem b_law_read (T : Tx K mg) : Binds K T.fd_law_read ["_law_lines", "_law_names"] [] := T.F_law_read.bindsN fun _ _ _ _ _ _ us hl => match us, hl with | [_, _], _ => rfl
theorem ok_law_read (T : Tx K mg) : FnOk P w K mg base CX0 88 (He.ga K "_law_read") T.fd_law_read ["_law_lines", "_law_names"] (spReadL K) := by
  refine T.F_law_read.ok sc_law_read (fun vs H Q E h => ?_) (fun cdv A outer s H vs Q E hr h => ?_)
  · obtain ⟨a, nv, raw, on, rfl, _⟩ := h
    rfl
  obtain ⟨a, nv, raw, on, rfl, ha, rk, hon, q⟩ := h
  refine ⟨_, PSs.nox (pss_cons (ps_set (i := 2) sc_law_read.nd rfl (Or.inl rfl) (pe_lst (pa_cons (pe_lst (pa_cons (pe_lst (pa_cons (pe_tup pa_nil) (pa_cons pe_int (pa_cons (pe_lst pa_nil) pa_nil)))) pa_nil)) (pa_cons pe_int pa_nil))))
      (pss_cons (ps_for PassesOwn.never rfl (pi_enum (by rfl) T.z_enumerate (pa_cons (pv 0) pa_nil)) (pg_tup rfl (pgs_cons (pg_name (i := 3) sc_law_read.nd rfl (Or.inl rfl)) (pgs_cons (pg_name (i := 4) sc_law_read.nd rfl (Or.inl rfl)) pgs_nil))) (pss_cons (ps_set (i := 4) sc_law_read.nd rfl (Or.inl rfl) (pe_ix (r := rIxL K) ix_list (pe_split (pv 4) pe_str) pe_int (fun _ _ => rfl)))
      (pss_cons (ps_set (i := 5) sc_law_read.nd rfl (Or.inl rfl) (pe_ifExp (pt_cmpR (op_eq) (pv 3) pe_int (nomark _)) pe_int pe_non))
      (pss_cons (ps_if (PW.pt (pw_and (pt_cmpR (op_isN) (pv 5) pe_non (nomark _)) (pw_and1 (pt_cmpR (op_notN) (pv 1) pe_non (nomark _))))) (pss_one (ps_set (i := 5) sc_law_read.nd rfl (Or.inl rfl) (pe_call (ok_law_line T) (hr.mono (by decide)) rfl T.g_law_line T.F_law_line.kp (b_law_line T) .nil pass0 (pa_cons (pv 4) (pa_cons (pv 1) (pa_cons (pv 2) pa_nil)))))) (pss_one (ps_if (pt_cmpR (op_isN) (pv 5) pe_non (nomark _)) (pss_cons (ps_asg (pe_call (ok_law_lexed T) (hr.mono (by decide)) rfl T.g_law_lexed T.F_law_lexed.kp (b_law_lexed T) .nil pass0 (pa_cons (pv 4) pa_nil)) (pg_tup rfl (pgs_cons (pg_name (i := 6) sc_law_read.nd rfl (Or.inl rfl)) (pgs_cons (pg_name (i := 5) sc_law_read.nd rfl (Or.inl rfl)) pgs_nil))))
      (pss_one (ps_if (PW.pt (pw_and (pt_cmpR (op_isN) (pv 5) pe_non (nomark _)) (pw_and1 (pt_cmpR (op_ne) (pe_ix (r := rIxT K) ix_tup (pe_ix (r := rIxL K) ix_list (pv 6) pe_int (fun _ _ => rfl)) pe_int (fun _ _ => rfl)) pe_str (nomark _))))) (pss_one (ps_asg (pe_call (ok_law_declared T) (hr.mono (by decide)) rfl T.g_law_declared T.F_law_declared.kp (b_law_declared T) .nil pass0 (pa_cons (pv 6) pa_nil)) (pg_tup rfl (pgs_cons (pg_name (i := 1) sc_law_read.nd rfl (Or.inl rfl)) (pgs_cons (pg_name (i := 5) sc_law_read.nd rfl (Or.inl rfl)) pgs_nil))))) pss_nil))) pss_nil)))
      (pss_one (ps_if (pt_cmpR (op_notN) (pv 5) pe_non (nomark _)) (pss_one (ps_ret (pe_tup (pa_cons pe_non (pa_cons (pe_op op_add (pv 3) pe_int) (pa_cons (pv 5) pa_nil)))))) pss_nil))))))
      (pss_cons (ps_if (PW.pt (pw_or (pt_cmpR (op_isN) (pv 1) pe_non (nomark _)) (pw_or1 (pt_cmpR (op_gt) (pe_callB (call_lenQ (K := K) rfl) rfl T.z_len PySem.boot_len (pa_cons (pe_ix (r := rIxL K) ix_list (pv 2) pe_int (fun _ _ => rfl)) pa_nil)) pe_int (nomark _))))) (pss_one (ps_ret (pe_tup (pa_cons pe_non (pa_cons (pe_op op_add (pe_callB (call_lenQ (K := K) rfl) rfl T.z_len PySem.boot_len (pa_cons (pv 0) pa_nil)) pe_int) (pa_cons pe_int pa_nil)))))) pss_nil)
      (pss_one (ps_ret (pe_tup (pa_cons (pe_tup (pa_cons (pe_callTy call_tuple_of rfl T.z_tuple (by decide +kernel) (pa_cons (pv 1) pa_nil)) (pa_cons (pe_callTy call_tuple_of rfl T.z_tuple (by decide +kernel) (pa_cons (pe_ix (r := rIxL K) ix_list (pe_ix (r := rIxL K) ix_list (pe_ix (r := rIxL K) ix_list (pv 2) pe_int (fun _ _ => rfl)) pe_int (fun _ _ => rfl)) pe_int (fun _ _ => rfl)) pa_nil)) pa_nil))) (pa_cons pe_non (pa_cons pe_non pa_nil))))))))), ?_⟩
  have rl := rk.len
  refine ⟨sz 0, ?_⟩
  walk_at "new 1"
  refine ⟨sz 0, ?_⟩
  walk_at "new 2"
  refine ⟨sz 3, ?_⟩
  walk_at "new 3"
  refine ⟨sz 1, ?_⟩
  walk_at "new 4"
  refine ⟨sz 2, ?_⟩
  walk_at "new 5"
  have s05 : Same H H5 := (((s1.trans s2).trans s3).trans s4).trans s5
  have n2' : H p2 = none := none_same s1 n2
  have n4' : H p4 = none := none_same ((s1.trans s2).trans s3) n4
  have n5' : H p5 = none := none_same (((s1.trans s2).trans s3).trans s4) n5
  have b3 := s5 _ _ (s4 _ _ h3)
  have b4 := s5 _ _ h4
  have X5 : LX K H H5 p5 PS0 p4 [p3] [p2] := by
    refine ⟨h5, n5', b4, n4', ⟨⟨p1, [], [], b3, sameT (((s2.trans s3).trans s4).trans s5) (.of h1), .nil, s5 _ _ (s4 _ _ (s3 _ _ h2)), .nil, rfl, rfl⟩, n2', trivial⟩, ?_, ?_, ?_, ?_, ?_, List.nodup_cons.mpr ⟨(fun z => by cases z), List.nodup_nil⟩, ?_⟩
    · exact fun y => by rw [y, h4] at n5; cases n5
    · exact fun z => by
        have y := List.mem_singleton.mp z
        rw [y, s4 _ _ h3] at n5; cases n5
    · exact fun z => by
        have y := List.mem_singleton.mp z
        rw [y, s4 _ _ (s3 _ _ h2)] at n5; cases n5
    · exact fun z => by
        have y := List.mem_singleton.mp z
        rw [y, h3] at n4; cases n4
    · exact fun z => by
        have y := List.mem_singleton.mp z
        rw [y, s3 _ _ h2] at n4; cases n4
    · intro x hx hy
      have y1 := List.mem_singleton.mp hx
      have y2 := List.mem_singleton.mp hy
      rw [← y2, y1, h2] at n3; cases n3
  generalize eR : progGo (st0 on) 0 (raw.map cutM) = R
  have q : ∀ v H', Same H H' → Dp K H' v (outD (finR raw.length R)) → Q v H' := by
    rw [← eR]
    have := q
    unfold resM at this
    rw [List.length_map] at this
    exact this
  have L0 : LsAt K H H5 nv p5 (st0 on) := by
    cases on with
    | none => exact ⟨hon, _, _, _, X5⟩
    | some ns =>
      obtain ⟨nm, e, hn, nl⟩ := hon
      exact ⟨nm, e, hn, nl, ⟨_, _, _, X5⟩, PS0_ok⟩
  have fin : ∀ (i c : Nat) (H' : Hp) (σ : L2.St), R = .error (i + 1, c) → Same H H' → σ[3]? = some (some (.int (i : Int))) → σ[5]? = some (some (.int (c : Int))) → tTup (tCons (tC .non) (tCons (tOp (rI0 fun i j => .int (i + j)) (tVar 3) (tC (.int 1))) (tCons (tVar 5) tNil))) σ H' Q := by
    intro i c H' σ e s' h3' h5'
    refine ⟨_, h3', _, _, rfl, rfl, _, h5', sz 3, ?_⟩
    walk_at "new 9"
    rw [e] at q
    exact q _ H9 (s'.trans s9) (.tup (.of h9) (.cons .non (.cons (.int _) (.cons (.int _) .nil))))
  refine ⟨_, rfl, a, _, rfl, s05.seq ha, ?_⟩
  refine for_it (walk_enum (K := K) (a := a) (xs := raw.map V.str)) (fun i σ H' => ∃ (st : Option (List Str × PS)) (Hb : Hp) (nv : V) (v3 v4 v5 v6 : Option V), σ = [some (.ref a), some nv, some (.ref p5), v3, v4, v5, v6] ∧ Same H Hb ∧ Same Hb H' ∧ LsAt K Hb H' nv p5 st ∧ progGo st i ((raw.map cutM).drop i) = R)
    ⟨st0 on, H, nv, none, none, none, none, rfl, Same.refl H, s05, L0, eR⟩ ?_ ?_ ?_
  · rintro i σ H' _ ⟨_, _, _, _, _, _, _, _, h1, h2, _⟩
    exact (h1.trans h2).seq ha
  · rintro i x σ H6 H7 hi ⟨st, Hb, nv, v3, v4, v5, v6, rfl, sb, s6, L6, e6⟩ ⟨tt, x1, y1, rfl, nt, rfl, f1, f2⟩
    have f1 := Option.some.inj f1
    subst f1
    obtain ⟨y, f3, rfl⟩ := get_strs f2
    have ym := List.mem_of_getElem? f3
    have il : i < raw.length := (List.getElem?_eq_some_iff.mp f3).1
    have ed : (raw.map cutM).drop i = cutM y :: (raw.map cutM).drop (i + 1) := by
      have g : (raw.map cutM)[i]? = some (cutM y) := by rw [List.getElem?_map, f3] <;> rfl
      obtain ⟨g1, g2⟩ := List.getElem?_eq_some_iff.mp g
      rw [List.drop_eq_getElem_cons g1, g2]
    have hzl : (tl (cutM y)).length ≤ 100000 := Nat.le_trans (cut_len y) (rk.short y ym)
    have h10 : 10 ∉ tl (cutM y) := fun h => rk.no y ym (cut_mem h)
    have hcc : cutM (cutM y) = cutM y := cut_cut y
    rw [ed] at e6
    have s7 := same_new (o := .tup [.int (i : Int), .str y]) nt
    refine ⟨tt, _, rfl, .of upd_same, rfl, _, _, rfl, _, _, rfl, rfl, ?_⟩
    have s67 := s6.trans s7
    have L7 := L6.same s7
    generalize upd H6 tt (.tup [.int (i : Int), .str y]) = H7 at s7 s67 L7
    refine ⟨_, rfl, ⟨_, rfl⟩, y, _, rfl, rfl, by decide +kernel, ?_, ?_⟩
    · have := rk.short y ym
      exact Nat.le_trans (Nat.add_le_add_right this 2) (by decide)
    walk_at "new 8"
    refine ⟨p8, _, _, _, rfl, rfl, .of h8, atI_nat (j := 0) (v := .str (cutM y)) (by rw [List.getElem?_map, (tl_cut y).1] <;> rfl), ?_⟩
    have s68 := s67.trans s8
    have L8 := L7.same s8
    generalize cutM y = z at e6 hzl h10 hcc
    unfold progGo at e6
    refine ⟨_, rfl, rfl, _, rfl, ?_⟩
    by_cases c1 : i = 80
    · rw [if_pos c1] at e6
      refine ifT (decide_eq_true (by rw [c1] <;> rfl)) ?_
      refine ⟨_, rfl, rfl, _, rfl, ifF rfl (ifF rfl ?_)⟩
      refine ⟨_, rfl, rfl, _, rfl, ifF rfl ?_⟩
      refine ⟨_, rfl, rfl, _, rfl, ifT rfl ?_⟩
      exact fin i 1 H8 _ e6.symm (sb.trans s68) rfl rfl
    rw [if_neg c1] at e6
    refine ifF (decide_eq_false (fun y => c1 (by have := V.int.inj y; omega))) ?_
    refine ⟨_, rfl, rfl, _, rfl, ifT rfl ?_⟩
    refine ⟨_, rfl, rfl, _, rfl, ?_⟩
    rcases st with _ | ⟨ns, S⟩
    · obtain ⟨rfl, L8⟩ := L8
      simp only at e6
      refine ifF rfl ?_
      refine ⟨_, rfl, rfl, _, rfl, ifT rfl ?_⟩
      refine ⟨_, rfl, z, rfl, hzl, ?_⟩
      rcases el : lexM z with c | t0
      · rw [el] at e6
        simp only at e6 ⊢
        intro p b H9 s9 sq
        refine ⟨p, _, rfl, sq, rfl, _, _, rfl, _, _, rfl, rfl, ?_⟩
        refine ⟨_, rfl, rfl, _, rfl, ifF rfl (ifF rfl ?_)⟩
        refine ⟨_, rfl, rfl, _, rfl, ifT rfl ?_⟩
        exact fin i c H9 _ e6.symm ((sb.trans s68).trans s9) rfl rfl
      rw [el] at e6
      simp only at e6 ⊢
      intro p b H9 s9 hL sq
      have L9 := L8.same s9
      have s69 := s68.trans s9
      have hL0 := hL
      obtain ⟨vs, a1, d1⟩ := hL
      obtain ⟨t, ht⟩ : ∃ t, (t0 ++ [endTk z])[0]? = some t := ⟨_, List.getElem?_eq_getElem (by rw [List.length_append]; simp)⟩
      obtain ⟨t', hl0, tx0, tc0, tk0⟩ := law_at el ht
      obtain ⟨b0, hb0, sb0⟩ := tk_get d1 hl0
      refine ⟨p, _, rfl, sq, rfl, _, _, rfl, _, _, rfl, rfl, ?_⟩
      refine ⟨_, rfl, rfl, _, rfl, ifT rfl ?_⟩
      refine ⟨_, rfl, b, _, _, _, rfl, rfl, .of a1, atI_nat (j := 0) hb0, b0, _, _, _, rfl, rfl, sb0, atI_nat (j := 0) rfl, rfl, _, rfl, ?_⟩
      rw [eq_str]
      by_cases c2 : t0 = []
      · rw [if_pos c2] at e6
        have k' : t'.kind = "" := by
          rcases tk0 with ⟨_, k, _⟩ | ⟨_, kt⟩
          · exact k
          · rw [c2] at ht
            have ht := Option.some.inj ht
            rw [← ht] at kt
            exact absurd rfl kt.real.2
        refine ifF (by rw [decide_eq_true k'] <;> rfl) ?_
        refine ⟨_, rfl, rfl, _, rfl, ifF rfl ?_⟩
        exact ⟨none, Hb, .non, _, _, _, _, rfl, sb, s69, ⟨rfl, L9⟩, e6⟩
      rw [if_neg c2] at e6
      have k' : t'.kind ≠ "" := by
        have hk0 : t.kind ≠ "end of line" := by
          cases t0 with
          | nil => exact absurd rfl c2
          | cons u us =>
            have ht := Option.some.inj ht
            rw [← ht]
            exact kind_ne el (List.mem_cons_self ..)
        rcases tk0 with ⟨k, _⟩ | ⟨k, kt⟩
        · exact absurd k hk0
        · rw [k]; exact kt.real.1
      refine ifT (by rw [decide_eq_false k'] <;> rfl) ?_
      refine ⟨_, rfl, b, z, t0, rfl, el, hzl, hL0, ?_⟩
      have en : namesM z = namesT (t0 ++ [endTk z]) := by
        unfold namesM
        rw [el]
      rw [← en]
      rcases en2 : namesM z with c | ns
      · rw [en2] at e6
        simp only at e6 ⊢
        intro p' b' xs H10 s10 hb' sq'
        refine ⟨p', _, rfl, sq', rfl, _, _, rfl, _, _, rfl, rfl, ?_⟩
        refine ⟨_, rfl, rfl, _, rfl, ifT rfl ?_⟩
        exact fin i c H10 _ e6.symm ((sb.trans s69).trans s10) rfl rfl
      · rw [en2] at e6
        simp only at e6 ⊢
        intro p' b' H10 s10 nb' hb' sq'
        refine ⟨p', _, rfl, sq', rfl, _, _, rfl, _, _, rfl, rfl, ?_⟩
        refine ⟨_, rfl, rfl, _, rfl, ifF rfl ?_⟩
        obtain ⟨bl, as, ils, X9⟩ := L9
        have nbb : Hb b' = none := none_same s69 nb'
        refine ⟨some (ns, PS0), upd Hb b' (.lst (ns.map V.str)), .ref b', _, _, _, _, rfl, sb.trans (same_new nbb), fun b u e => ?_, ⟨b', rfl, .of upd_same, namesM_ok en2, ⟨bl, as, ils, (X9.rebase nb').same s10⟩, PS0_ok⟩, e6⟩
        by_cases c : b = b'
        · rw [c, upd_same] at e
          rw [c, hb']
          exact e
        · rw [upd_ne c] at e
          exact (s69.trans s10) _ _ e
    · obtain ⟨nm, rfl, hn, nl, L8, pok⟩ := L8
      simp only at e6
      refine ifT rfl ?_
      refine ⟨_, rfl, _, rfl, _, rfl, z, nm, p5, ns, S, Hb, rfl, s68, hn, nl, hzl, h10, hcc, L8, pok, ?_⟩
      rcases er : readM ns S z with c | S'
      · rw [er] at e6
        simp only at e6 ⊢
        intro H9 s9
        refine ⟨_, rfl, rfl, _, rfl, ifT rfl ?_⟩
        exact fin i c H9 _ e6.symm (sb.trans s9) rfl rfl
      · rw [er] at e6
        simp only at e6 ⊢
        intro H9 s9 L9
        refine ⟨_, rfl, rfl, _, rfl, ifF rfl ?_⟩
        exact ⟨some (ns, S'), Hb, .ref nm, _, _, _, _, rfl, sb, s9, ⟨nm, rfl, hn, nl, L9, readM_ok pok er⟩, e6⟩
  · rintro σ H6 ⟨st, Hb, nv, v3, v4, v5, v6, rfl, sb, s6, L6, e6⟩
    rw [List.length_map, List.drop_eq_nil_of_le (by rw [List.length_map]; exact Nat.le_refl _)] at e6
    have e6 : (.ok st : Except (Nat × Nat) (Option (List Str × PS))) = R := by
      rw [← e6]
      cases st <;> rfl
    rw [← e6] at q
    have s06 := sb.trans s6
    have ha6 := s06.seq ha
    have badEnd : (∀ v H', Same H H' → Dp K H' v (.tuple [.none, .int ((raw.length + 1 : Nat) : Int), .int ((1 : Nat) : Int)]) → Q v H') → ∀ (σ : L2.St), σ[0]? = some (some (.ref a)) → tTup (tCons (tC .non) (tCons (tOp (rI0 fun i j => .int (i + j)) (tCB (rLenQ K) (tCons (tVar 0) tNil)) (tC (.int 1))) (tCons (tC (.int 1)) tNil))) σ H6 Q := by
      intro k σ hσ
      refine ⟨_, hσ, a, _, rfl, .inl ha6, ?_⟩
      rw [List.length_map]
      refine ⟨_, _, rfl, rfl, sz 3, ?_⟩
      walk_at "new 9"
      exact k _ H9 (s06.trans s9) (.tup (.of h9) (.cons .non (.cons (.int _) (.cons (.int _) .nil))))
    refine ⟨_, rfl, rfl, _, rfl, ?_⟩
    rcases st with _ | ⟨ns, S⟩
    · obtain ⟨rfl, _⟩ := L6
      refine ifT rfl (ifT rfl ?_)
      exact badEnd q _ rfl
    obtain ⟨nm, rfl, hn, nl, ⟨bl, as, ils, X⟩, pok⟩ := L6
    refine ifF rfl ?_
    refine ⟨_, rfl, p5, _, _, _, rfl, rfl, .of X.hs, atI_nat (j := 0) rfl, bl, _, rfl, .inl (.of X.hb), ?_⟩
    have bl5 : (as.map V.ref).reverse.length = S.blks.length := by rw [List.length_reverse, List.length_map, (LBlks.len X.bs).1]
    rw [bl5]
    refine ⟨_, _, rfl, rfl, _, rfl, ?_⟩
    unfold finR finM at q
    simp only at q
    by_cases c1 : 1 < S.blks.length
    · rw [if_pos c1] at q
      refine ifT (decide_eq_true (show (1 : Int) < ((S.blks.length : Nat) : Int) by omega)) ?_
      exact badEnd q _ rfl
    rw [if_neg c1] at q
    refine ifF (decide_eq_false (show ¬ (1 : Int) < ((S.blks.length : Nat) : Int) by omega)) ?_
    obtain ⟨blks, cnt⟩ := S
    obtain ⟨B, Bs, a0, as, il0, ils, rfl, rfl, rfl⟩ := LBlks.cons pok.ne X.bs
    have eB : Bs = [] := by
      cases Bs with
      | nil => rfl
      | cons C Bs => exact absurd (by show 1 < Bs.length + 1 + 1; omega) c1
    subst eB
    have eA : as = [] := by
      have := (LBlks.len X.bs).1
      cases as with
      | nil => rfl
      | cons a as => simp at this
    subst eA
    obtain ⟨⟨hdb, hsb, vsb, b1, b2, b3, b4, b5, b6, b7⟩, nil0, _⟩ := X.bs
    refine ⟨_, rfl, nm, _, rfl, .inl ⟨s6.seq hn, ?_⟩⟩
    walk_at "new 7"
    refine ⟨_, rfl, p5, _, _, _, rfl, rfl, .of (s7 _ _ X.hs), atI_nat (j := 0) rfl, bl, _, _, .ref a0, rfl, rfl, .of (s7 _ _ X.hb), rfl, a0, _, _, _, rfl, rfl, .of (s7 _ _ b1), atI_nat (j := 2) rfl, il0, vsb, rfl, .inl ⟨.of (s7 _ _ b4), ?_⟩⟩
    walk_at "new 8"
    refine ⟨sz 2, ?_⟩
    walk_at "new 9"
    refine ⟨sz 3, ?_⟩
    walk_at "new 10"
    have ss := ((s7.trans s8).trans s9).trans s10
    refine q _ H10 (s06.trans ss) (.tup (.of h10) (.cons (.tup (.of (s10 _ _ h9)) (.cons (.tup (.of (s10 _ _ (s9 _ _ (s8 _ _ h7)))) (strs_dp ns)) (.cons (.tup (.of (s10 _ _ (s9 _ _ h8))) (dp_monoAll (Same.tups ss) _ _ b7 b5)) .nil))) (.cons .non (.cons .non .nil))))
end
end Kw

set_option Elab.async false
set_option linter.all false
set_option maxRecDepth 100000
set_option maxHeartbeats 4000000
namespace Kw
open PySem PySem.Spec PyProof.Rows L2
local macro_rules | `(tactic| walk_at $s:str) => do
  match s.getString.splitOn " " with
  | ["new", a] =>
    let p := Lean.mkIdent (Lean.Name.mkSimple ("p" ++ a))
    let n := Lean.mkIdent (Lean.Name.mkSimple ("n" ++ a))
    let H := Lean.mkIdent (Lean.Name.mkSimple ("H" ++ a))
    let s := Lean.mkIdent (Lean.Name.mkSimple ("s" ++ a))
    let h := Lean.mkIdent (Lean.Name.mkSimple ("h" ++ a))
    `(tactic| (intro $p $n; generalize e : upd _ $p _ = $H; have $s : Same _ $H := e ▸ same_new $n; have $h : $H $p = some _ := e ▸ upd_same; clear e))
  | _ => Lean.Macro.throwUnsupported
/-! ### a caught error that outlives its suite -/
/-- what is told of the error's object -/
def XOb (e : Addr) (cls : Value) (d : Option Addr) : HO := .ext fun h => ∃ ob fl, h.get? e = some ob ∧ Zc cls d ob ∧ ob.data = .fields fl
/-- an object that is there, new since the def began, is told of from now on -/
theorem tellX {X : Cx} {pins : List (Addr × Obj)} {σ : L2.St} {H : Hp} {s : Shared} {e : Addr} {ob : Obj} {fl : Array Value} {cls : Value} {d : Option Addr} (I : Inv X pins σ H s) (g : s.heap.get? e = some ob) (dt : ob.data = .fields fl) (z : Zc cls d ob)
    (ne : H e = none) (nw : X.s_0.heap.get? e = none) (nl : e ≠ X.env.locals) (np : ∀ q ∈ X.pn ++ pins, q.1 ≠ e) : Inv X pins σ (upd H e (XOb e cls d)) s := by
  have up : ∀ {b : Addr} {u : HO}, H b = some u → upd H e (XOb e cls d) b = some u := fun {b u} q => by rw [upd_ne (ne_of_none q ne)]; exact q
  have old : ∀ {b : Addr} {u : Obj}, X.s_0.heap.get? b = some u → b ≠ e := fun {b u} q y => by rw [y, nw] at q; cases q
  obtain ⟨u1, u2, u3, u4, u5, u6, u7⟩ := I.base
  refine ⟨I.ok, I.os, I.bare, ⟨u1, u2, fun b u q n x => by rw [upd_ne (old q)]; exact u3 b u q n x, u4, fun b xs q => up (u5 b xs q), fun b u v q => up (u6 b u v q), fun b ps q => ?_⟩, I.loc, I.cell, by rw [upd_ne nl.symm]; exact I.free, fun y c q => ?_, fun q m => ?_, fun b u q => ?_, I.len⟩
  · obtain ⟨more, y⟩ := u7 b ps q
    exact ⟨more, up y⟩
  · have nc : c ≠ e := fun y2 => by
      obtain ⟨v, o2, h1, h2⟩ := I.cell y c q
      rw [y2, g] at h1
      cases h1
      rw [dt] at h2
      cases h2
    rw [upd_ne nc]
    exact I.freeC y c q
  · obtain ⟨h1, h2, h3⟩ := I.pin q m
    exact ⟨h1, by rw [upd_ne (np q m)]; exact h2, h3⟩
  · by_cases y : b = e
    · subst y
      rw [upd_same] at q
      cases q
      refine ⟨⟨ob, fl, g, z, dt⟩, ⟨ob, g⟩, fun k1 k2 hk hs => ?_⟩
      obtain ⟨o2, f2, g2, z2, d2⟩ := hk
      exact ⟨o2, f2, hs _ g2, z2, d2⟩
    · rw [upd_ne y] at q
      exact (I.hok b u q).stay (fun _ _ _ k => k) (fun _ k => up k) fun _ _ k => up k
/-- the wish: the clause catches, its suite goes on to the statement behind; the error stays told of -/
def wKeep (K : PySem.W.Frag) (c : Value) (i : Nat) (ts : Addr → Value → Option Addr → TS) (D : Ends) : WX := fun cls d σ H => PySem.W.exmOne K cls c = some true ∧
  ∀ e, H e = none → ts e cls d { nx := fun σ' H' => D.nx (σ'.set i none) (upd H' e (XOb e cls d)), rt := fun _ _ => False, bk := fun _ _ => False, ct := fun _ _ => False } (σ.set i (some (.ref e))) H
section
variable {X : Cx} {x n : Str} {c : Value} {i : Nat} {body more : List Stmt} {st0 : Stmt} {p1 p2 p3 : Pos} {tb : WX → TS} {ts : Addr → Value → Option Addr → TS}
theorem ps_try_keep (kst : X.stack = X.env :: X.outer) (kfr : X.env.frame = some X.env.locals) (kex : X.ex = []) (knd : X.N.Nodup) (kin : X.N[i]? = some n) (klo : X.env.kindOf n = some .local) (knm : Names X x c)
    (kb : ∀ (W : WX) (pn : List (Addr × Obj)) (xe : Value → Shared → Prop), Takes (X.tr pn xe) W → PassesOwn (model X.prog X.w) X.A X.env xe → PSs (X.tr pn xe) body (tb W)) (ks : ∀ (e : Addr) (ob : Obj) (cls : Value) (d : Option Addr) (pn : List (Addr × Obj)), Zc cls d ob → (∃ fl, ob.data = .fields fl) → PSs (X.suite e ((e, ob) :: pn)) (st0 :: more) (ts e cls d)) :
    L2.PS X (.Try body [.ExceptHandler (some (.Name x p1)) (some n) (st0 :: more) p2] [] [] p3) (fun D σ H => tb (wKeep X.K c i ts D) D σ H) := by
  constructor
  intro pins s σ H D I h
  have ok := I.ok
  have frs0 : X.A.frames = some (X.env :: X.outer) := by rw [ok.frames, kst]
  refine wpAny_Try_except (wpAny_mono ((kb (wKeep X.K c i ts D) (X.pn ++ pins) (fun u sA => wpAny (model X.prog X.w) X.A (noteFrame u X.env) (fun _ sB => wpAny (model X.prog X.w) X.A (setFlight u none) (fun _ sC => wpAny (model X.prog X.w) X.A (handleBy u X.env [.ExceptHandler (some (.Name x p1)) (some n) (st0 :: more) p2]) (SP X pins D) X.xe sC) X.xe sB) X.xe sA) (fun u sE hx => ?_) PassesOwn.looking).run [] s σ H D (I.toTry _) h) (fun f sF hsp => ?_) (fun u sF hu => hu))
  · obtain ⟨e, B, sI, pinsI, σI, HI, cls, d, rfl, JI, nb, up, sky, na, os, ag, yes, go⟩ := hx
    have J : Inv X pins σI HI sI := JI.ofTry ok
    have sky2 : Sky B (X.env :: X.outer) e (Zc cls d) X.env.locals sE.heap := by rw [← kst]; exact sky
    show wpAny (model X.prog X.w) X.A (noteFrame (.ref e) X.env) _ _ _
    refine Sky.land Zc.steady frs0 kfr sky2 fun hA flA upA => ?_
    have JA : Inv X pins σI HI { sE with heap := hA } := J.landed nb flA.1 (up.trans upA) os ag
    obtain ⟨obA, flsA, gA, zA, dA⟩ := flA.there
    have away : e ∉ frs (X.env :: X.outer) := fun hm => by
      obtain ⟨_, o2, g2, bad⟩ := flA.2.2.1.mem hm
      rw [gA] at g2; cases g2
      exact bad _ dA
    have nl : e ≠ X.env.locals := fun y => away (List.mem_filterMap.mpr ⟨X.env, List.mem_cons_self, by rw [kfr, y]⟩)
    have nf : e ∉ X.fs := fun hm => by
      obtain ⟨en, hen, q⟩ := List.mem_filterMap.mp hm
      exact away (List.mem_filterMap.mpr ⟨en, List.mem_cons_of_mem _ hen, q⟩)
    have nB : B.get? e = none := flA.2.1
    have nI : sI.heap.get? e = none := by
      cases q : sI.heap.get? e with
      | none => rfl
      | some o2 =>
        have := nb e o2 q (by rw [kst]; exact away)
        rw [nB] at this; cases this
    have n0 : X.s_0.heap.get? e = none := by
      cases q : X.s_0.heap.get? e with
      | none => rfl
      | some o2 =>
        obtain ⟨o3, g3⟩ := J.base.there e o2 q (by rw [kex]; exact fun m => by cases m)
        rw [nI] at g3; cases g3
    have npins : ∀ q ∈ X.pn ++ pins, q.1 ≠ e := fun q m y => by
      obtain ⟨g3, _⟩ := J.pin q m
      rw [y, nI] at g3; cases g3
    have SA := JA.suite gA dA na nl nf
    refine wpAny_handleBy_cons (codeAny_handlers_test ?_) (by intro q; cases q)
    have LT : PySem.W.Looks (model X.prog X.w) hA (typeOf (.ref e)) cls := fun A Q E s k q => wpAny_typeOf_ref (k _ _ gA) (by rw [zA.1]; exact q)
    have LM := PySem.W.exm_one (M := model X.prog X.w) (JA.kIn) LT yes
    have tst : ∀ {Q : Value → Shared → Prop} {E : Value → Shared → Prop}, Q c { sE with heap := hA } → wpAny (model X.prog X.w) (X.A.mark (some (.ref e))) (eval (.Name x p1) X.env) Q E { sE with heap := hA } := fun {Q E} q => by
      obtain ⟨y1, y2, y3 | ⟨y3, y4, y5⟩⟩ := knm
      · exact ld_glob (X := X.suite e ((e, obA) :: (X.pn ++ pins))) SA y1 y3 q y2
      · exact ld_blt (X := X.suite e ((e, obA) :: (X.pn ++ pins))) SA y1 y3 y4 q y5 y2
    refine tst (LM.here (codeAny_handlers_suite_as (HandSPX.lands_againZ flA fun hB flB upB => ?_)))
    have JB : Inv X pins σI HI { sE with heap := hB } := J.landed nb flB.1 ((up.trans upA).trans upB) os ag
    obtain ⟨obB, flsB, gB, zB, dB⟩ := flB.there
    have SB := JB.suite gB dB na nl nf
    refine store_ok (X := X.suite e ((e, obB) :: (X.pn ++ pins))) (v := .ref e) SB knd kin (.inl klo) rfl (fun sG SG => ?_) (.inr klo)
    refine wpAny_mono ((ks e obB cls d (X.pn ++ pins) zB ⟨_, dB⟩).run [] sG _ HI _ SG (go e na)) (fun f sK hK => ?_) (fun _ _ y => False.elim y)
    cases f with
    | next =>
      obtain ⟨σK, HK, SK, qK⟩ := hK
      obtain ⟨gK, nK, _⟩ := SK.pin (e, obB) (List.mem_append_left _ List.mem_cons_self)
      exact gone_ok (tellX (SK.unsuite ok) gK dB zB nK n0 nl npins) knd kin klo fun sL JL => ⟨_, _, JL, qK⟩
    | brk => obtain ⟨_, _, _, y⟩ := hK; exact y.elim
    | cont => obtain ⟨_, _, _, y⟩ := hK; exact y.elim
    | ret u => obtain ⟨_, _, _, _, _, y⟩ := hK; exact y.elim
  · cases f with
    | next =>
      obtain ⟨σK, HK, JK, q⟩ := hsp
      exact wpAny_execs_nil ⟨σK, HK, JK.ofTry ok, q⟩
    | brk =>
      obtain ⟨σK, HK, JK, q⟩ := hsp
      exact ⟨σK, HK, JK.ofTry ok, q⟩
    | cont =>
      obtain ⟨σK, HK, JK, q⟩ := hsp
      exact ⟨σK, HK, JK.ofTry ok, q⟩
    | ret u =>
      obtain ⟨v, σK, HK, JK, r, q⟩ := hsp
      exact ⟨v, σK, HK, JK.ofTry ok, r, q⟩
end
/-- the error's class and its own dict, as instances are told of -/
theorem inst_of {X : Cx} {pins : List (Addr × Obj)} {σ : L2.St} {H : Hp} {s : Shared} {e C dd : Addr} {fs : List (Str × V)} (I : Inv X pins σ H s) (h : H e = some (XOb e (.ref C) (some dd))) (hd : H dd = some (.xd fs)) :
    ∃ ob od, PySem.W.InstAt s.heap e ob C (some od) ∧ ∀ (f : Str) (v : V), fs.lookup f = some v → ∃ u, PySem.W.lookIn f od = some (some u) ∧ RelV v u := by
  obtain ⟨⟨ob, fl, g, z, dt⟩, _⟩ := (show ObjOk X.prog X.w H s.heap e (XOb e (.ref C) (some dd)) from I.hok e _ h)
  obtain ⟨mA, hns, hr⟩ := (show ObjOk X.prog X.w H s.heap dd (.xd fs) from I.hok dd _ hd)
  obtain ⟨od, ho, hl⟩ := lookIn_ns hns
  refine ⟨ob, od, ⟨g, z.1, by unfold PySem.W.notCls; rw [dt] <;> rfl, by rw [z.2]; exact ho⟩, fun f v q => ?_⟩
  obtain ⟨u, hu, ru⟩ := RelO.some_of (v := v) (o := mA f) (by rw [← q]; exact hr f)
  exact ⟨u, by rw [hl, hu], ru⟩
/-- e.f, e told of -/
def tXo (K : PySem.W.Frag) (C : Addr) (f : Str) (te : TE) : TE := fun σ H Q => te σ H fun x H1 => ∃ (e dd : Addr) (fs : List (Str × V)) (v : V), x = .ref e ∧ H1 e = some (XOb e (.ref C) (some dd)) ∧ H1 dd = some (.xd fs) ∧ fs.lookup f = some v ∧ Q v H1
theorem pe_xo {X : Cx} {C : Addr} {ex : Expr} {te : TE} {pos : Pos} {f : Str} (c : XfC X.K C) (no : PySem.W.findIn X.K (.ref C) f = some none) (he : PE X ex te) (hb : attributeBase ex f X.env (eval ex X.env) = eval ex X.env := by rfl) :
    PE X (.Attribute ex f pos) (tXo X.K C f te) := by
  constructor
  intro pins s σ H Q I h
  refine attr_of hb (thn (he.run pins s σ H _ I h) fun u sA ⟨x, H1, I1, rx, e, dd, fs, v, ee, h1, h2, l, q⟩ => ?_)
  subst ee
  cases rx
  obtain ⟨ob, od, J, hf⟩ := inst_of I1 h1 h2
  obtain ⟨u, hu, ru⟩ := hf f v l
  exact HandSPX.exc_get I1.kIn J c.ga c.gg c.exC (PySem.W.findObj_own c.hdC no rfl hu) (handed_of ru) ⟨v, H1, I1.tok _, ru, q⟩
section
variable {K : PySem.W.Frag} {mg : Str → Option Value}
/-- isinstance(e, c); isinstance(e, (c1, c2, ..)) -/
def rIsX (K : PySem.W.Frag) : List V → Hp → VK → Prop := fun xs H Q => ∃ (e dd : Addr) (fs : List (Str × V)) (c : V) (u : Value) (b : Bool), xs = [.ref e, c] ∧ ClsV c u ∧ H e = some (XOb e (.ref (cSyn K)) (some dd)) ∧ H dd = some (.xd fs) ∧ PySem.W.kitOne K (.ref (cSyn K)) u = some b ∧ Q (.bl b) H
def rIsXT (K : PySem.W.Frag) : List V → Hp → VK → Prop := fun xs H Q => ∃ (e dd tp : Addr) (fs : List (Str × V)) (cs : List V) (us : List Value) (b : Bool), xs = [.ref e, .ref tp] ∧ H tp = some (.tup cs) ∧ Paired ClsV cs us ∧ H e = some (XOb e (.ref (cSyn K)) (some dd)) ∧ H dd = some (.xd fs) ∧ PySem.W.kitAny K (.ref (cSyn K)) us = some b ∧ Q (.bl b) H
theorem cls_some (T : Tx K mg) : (PySem.W.clsIn K (cSyn K)).isSome = true := by
  have h := T.xf.hdC
  unfold PySem.W.hasDictIn at h
  cases q : PySem.W.clsIn K (cSyn K) with
  | none => rw [q] at h; cases h
  | some _ => rfl
theorem call_isX {X : Cx} (T : Tx K mg) (hK : X.K = K) : CallR X (.builtin "isinstance") (rIsX K) := by
  subst hK
  intro pins s σ H xs us Q I r h
  obtain ⟨e, dd, fs, c, u, b, rfl, k, h1, h2, hb, q⟩ := h
  obtain ⟨v1, v2, rfl, r1, r2⟩ := vals2 r
  have e2 := k.eq r2
  subst e2
  cases (show v1 = Value.ref e from r1)
  obtain ⟨ob, od, J, _⟩ := inst_of I h1 h2
  exact PySem.W.kia_one (PySem.W.kitx_exc (cls_some T) T.xf.ga T.xf.gg T.xf.exC T.k5 T.k6 T.k7 T.k8) I.kIn J hb (fun y => nomatch y) fun tk => ⟨.bl b, H, I.tok tk, rfl, q⟩
theorem call_isXT {X : Cx} (T : Tx K mg) (hK : X.K = K) : CallR X (.builtin "isinstance") (rIsXT K) := by
  subst hK
  intro pins s σ H xs us Q I r h
  obtain ⟨e, dd, tp, fs, cs, ws, b, rfl, hT, k, h1, h2, hb, q⟩ := h
  obtain ⟨v1, v2, rfl, r1, r2⟩ := vals2 r
  cases (show v1 = Value.ref e from r1)
  cases (show v2 = Value.ref tp from r2)
  obtain ⟨ob, od, J, _⟩ := inst_of I h1 h2
  obtain ⟨_, its, rv, o, g1, g2, m, g3⟩ := (show ObjOk X.prog X.w H s.heap tp (.tup cs) from I.hok tp _ hT)
  have e3 := ClsV.all k rv
  subst e3
  obtain ⟨oc, odi, dt, sl⟩ := o
  simp only at g2 g3
  subst g2 g3
  exact PySem.W.kia_tup (PySem.W.kitx_exc (cls_some T) T.xf.ga T.xf.gg T.xf.exC T.k5 T.k6 T.k7 T.k8) I.kIn J g1 hb (fun y => nomatch y) fun tk => ⟨.bl b, H, I.tok tk, rfl, q⟩
end
end Kw

set_option Elab.async false
set_option linter.all false
set_option maxRecDepth 100000
set_option maxHeartbeats 4000000
namespace Kw
open PySem PySem.Spec PyProof.Rows L2
local macro_rules | `(tactic| walk_at $s:str) => do
  match s.getString.splitOn " " with
  | ["new", a] =>
    let p := Lean.mkIdent (Lean.Name.mkSimple ("p" ++ a))
    let n := Lean.mkIdent (Lean.Name.mkSimple ("n" ++ a))
    let H := Lean.mkIdent (Lean.Name.mkSimple ("H" ++ a))
    let s := Lean.mkIdent (Lean.Name.mkSimple ("s" ++ a))
    let h := Lean.mkIdent (Lean.Name.mkSimple ("h" ++ a))
    `(tactic| (intro $p $n; generalize e : upd _ $p _ = $H; have $s : Same _ $H := e ▸ same_new $n; have $h : $H $p = some _ := e ▸ upd_same; clear e))
  | _ => Lean.Macro.throwUnsupported
def spIsP (K : PySem.W.Frag) : Sp := fun vs H Q _ => ∃ (e dd : Addr) (fs : List (Str × V)), vs = [.ref e] ∧ H e = some (XOb e (.ref (cSyn K)) (some dd)) ∧ H dd = some (.xd fs) ∧ ∀ H', Same H H' → Q (.bl true) H'
/-- the names: none, a text, a list of texts -/
def xyN : List Str := ["x", "y"]
inductive NmSrc where
  | prog
  | ses
  | xy
def NmSrc.at (K : PySem.W.Frag) (H : Hp) (v : V) : NmSrc → Prop
  | .prog => v = .non
  | .ses => v = .str "session"
  | .xy => ∃ a, v = .ref a ∧ SqL K H a (xyN.map V.str)
def NmSrc.on : NmSrc → Option (List Str)
  | .xy => some xyN
  | _ => none
def spOut (K : PySem.W.Frag) : Sp := fun vs H Q _ => ∃ (text : Str) (nv : V) (raw : List Str) (n : NmSrc), vs = [.str text, nv] ∧ TxOk text raw ∧ n.at K H nv ∧
  ∀ v H', Same H H' → Dp K H' v (outD (resM n.on (raw.map cutM))) → Q v H'
theorem cls_refs {K : PySem.W.Frag} : ∀ l : List Str, Paired ClsV (l.map fun x => V.ref (He.ga K x)) (refs K l)
  | [] => .nil
  | _ :: l => .cons (.own _) (cls_refs l)
section
variable {P : Program} {w : World} {K : PySem.W.Frag} {mg : Str → Option Value} {base : Heap}
abbrev N_law_is_problem : List Str := ["_law_caught"]
theorem sc_law_is_problem : FnScope N_law_is_problem ["_law_caught"] (defScope s_law_is_problem) := ⟨rfl, rfl, rfl, by decide +kernel, rfl, by decide +kernel, by decide +kernel⟩
theorem b_law_is_problem (T : Tx K mg) : Binds K T.fd_law_is_problem ["_law_caught"] [] := T.F_law_is_problem.bindsN fun _ _ _ _ _ _ us hl => match us, hl with | [_], _ => rfl
theorem ok_law_is_problem (T : Tx K mg) : FnOk P w K mg base CX0 2 (He.ga K "_law_is_problem") T.fd_law_is_problem ["_law_caught"] (spIsP K) := by
  refine T.F_law_is_problem.ok sc_law_is_problem (fun vs H Q E h => ?_) (fun cdv A outer s H vs Q E hr h => ?_)
  · obtain ⟨e, dd, fs, rfl, _⟩ := h
    rfl
  obtain ⟨e, dd, fs, rfl, he, hd, q⟩ := h
  refine ⟨_, PSs.nox (pss_cons (ps_if (pt_val (pe_callB (call_isXT T rfl) rfl T.z_isinstance (by decide +kernel) (pa_cons (pv 0) (pa_cons (pe_tup (pa_cons (pe_gr rfl T.g_BadCertificate) (pa_cons (pe_gr rfl T.g_InvalidCommand) (pa_cons (pe_gr rfl T.g_InvalidNumber) (pa_cons (pe_gr rfl T.g_NoLimit) (pa_cons (pe_gr rfl T.g_NoMark) (pa_cons (pe_gr rfl T.g_NoStatement) (pa_cons (pe_gr rfl T.g_NotOneToOne) pa_nil)))))))) pa_nil)))) (pss_one (ps_ret pe_bl)) pss_nil)
      (pss_cons (ps_if (pt_val (pe_callB (call_isXT T rfl) rfl T.z_isinstance (by decide +kernel) (pa_cons (pv 0) (pa_cons (pe_tup (pa_cons (pe_gr rfl T.g_TooLarge) (pa_cons (pe_gr rfl T.g_TooMany) (pa_cons (pe_gr rfl T.g_ZeroDivisor) pa_nil)))) pa_nil)))) (pss_one (ps_ret pe_bl)) pss_nil)
      (pss_one (ps_ret (pe_and (pe_callB (call_isX T rfl) rfl T.z_isinstance (by decide +kernel) (pa_cons (pv 0) (pa_cons (pe_gr rfl T.g_SyntaxProblem) pa_nil))) (pe_one (pe_callB (call_isX T rfl) rfl T.z_isinstance (by decide +kernel) (pa_cons (pv 0) (pa_cons (pe_bltn (v := .ty "ValueError") rfl T.z_ValueError (by decide +kernel) rfl) pa_nil))))))))), ?_⟩
  refine ⟨_, rfl, sz 7, ?_⟩
  walk_at "new 1"
  refine ⟨e, dd, p1, fs, _, _, false, rfl, h1, cls_refs err1, s1 _ _ he, s1 _ _ hd, T.k1, _, rfl, iteF ?_⟩
  refine ⟨_, rfl, sz 3, ?_⟩
  walk_at "new 2"
  have s12 := s1.trans s2
  refine ⟨e, dd, p2, fs, _, _, false, rfl, h2, cls_refs err2, s12 _ _ he, s12 _ _ hd, T.k2, _, rfl, iteF ?_⟩
  refine ⟨_, rfl, e, dd, fs, _, _, true, rfl, .own _, s12 _ _ he, s12 _ _ hd, T.k3, _, rfl, iteT ?_⟩
  exact ⟨_, rfl, e, dd, fs, _, _, true, rfl, .ty _, s12 _ _ he, s12 _ _ hd, T.k4, q _ s12⟩
theorem make_atS {X : Cx} {CX : CXT} {k : Nat} {f C : Addr} {fd : FuncData} {ps : List Str} {sp : Sp} {E : L2.St → XK} {pins : List (Addr × Obj)} {σ : L2.St} {H : Hp} {s : Shared} {Q : VK} {us : List Value} {vs : List V} (mk : Mk X.K C f) (fo : FnOk X.prog X.w X.K X.mg X.base CX k f fd ps sp) (rm : Room (k + 1) X.A) (bi : Binds X.K fd ps [])
    (pa : PassesAt CX X σ (E σ)) (I : Inv X pins σ H s) (rv : Vals vs us) (go : ∀ x dx, H x = none → H dx = none → dx ≠ x → sp (.ref x :: (vs ++ [])) (upd (upd H dx (.own x)) x (.ins C dx [])) (fun v H2 => v = .non ∧ Q (.ref x) H2) (E σ)) :
    wpAny (model X.prog X.w) X.A (call (.ref C) us) (EP X pins σ Q) X.xe s := by
  have q := go (s.heap.objs.size + 1) s.heap.objs.size (I.hok.fresh (Nat.le_succ _)) (I.hok.fresh (Nat.le_refl _)) (Nat.ne_of_lt (Nat.lt_succ_self _))
  have J := Inv.made (C := C) I
  have rr : Vals (V.ref (s.heap.objs.size + 1) :: (vs ++ [])) (Value.ref (s.heap.objs.size + 1) :: (us ++ [])) := .cons rfl (rv.append .nil)
  have ln : (Value.ref (s.heap.objs.size + 1) :: us ++ []).length = ps.length := by
    have y := rr.length
    rw [fo.len _ _ _ _ q] at y
    exact y.symm
  have run := fo.run _ X.stack _ _ ⟨Value.ref (s.heap.objs.size + 1) :: us, []⟩ (Value.ref (s.heap.objs.size + 1) :: (us ++ [])) _ _ (E σ) (rm.make C us []) (J.env0.make C us []) (by exact bi _ (Value.ref (s.heap.objs.size + 1) :: us) J.kIn ln) rr q
  refine wpAny_call (make_map (f := f) I.kIn mk.makes mk.init (beq_iff_eq.mp mk.fn) (codeAny_mono run fun r sB hB => ?_))
  rcases r with u | fl
  · exact pa pins _ _ u sB J hB
  · cases fl with
    | ret u =>
      obtain ⟨v, HB, IB, r1, r2, r3⟩ := J.after hB
      subst r2
      exact ⟨r1, ⟨V.ref (s.heap.objs.size + 1), HB, IB, rfl, r3⟩⟩
    | next => exact hB.elim
    | brk => exact hB.elim
    | cont => exact hB.elim
def tMkS (C : Addr) (sp : Sp) (E : L2.St → XK) (t : TA) : TE := fun σ H Q => t σ H fun vs H1 => ∀ x dx, H1 x = none → H1 dx = none → dx ≠ x → sp (.ref x :: (vs ++ [])) (upd (upd H1 dx (.own x)) x (.ins C dx [])) (fun v H2 => v = .non ∧ Q (.ref x) H2) (E σ)
/-- an object is made; the wish about exceptions knows the slots -/
theorem pe_makeS {X : Cx} {CX : CXT} {k : Nat} {f C : Addr} {fd : FuncData} {ps : List Str} {sp : Sp} {E : L2.St → XK} {x : Str} {p pos : Pos} {e : Expr} {es : List Expr} {t : TA} (mk : Mk X.K C f) (fo : FnOk X.prog X.w X.K X.mg X.base CX k f fd ps sp) (rm : Room (k + 1) X.A) (g : Gl X x) (gm : X.mg x = some (.ref C)) (bi : Binds X.K fd ps [])
    (pa : ∀ σ, PassesAt CX X σ (E σ)) (ha : PA X (e :: es) t) (nd : (x == ("__debug__" : Str)) = false := by decide) (q1 : starEach (e :: es) X.env = (false, eval e X.env) :: starEach es X.env := by rfl) (q2 : (backTo pos (starEach es X.env)).any (·.1) = false := by rfl) :
    PE X (.Call (.Name x p) (e :: es) [] pos) (tMkS C sp E t) := by
  constructor
  intro pins s σ H Q I h
  refine wpAny_Call_Name_kw (ld_glob I g gm ?_ nd)
  exact PySem.W.callWith_K (h₀ := X.base) I.ok.mod.kin mk.kp (thn (ha.run pos pins s σ H _ I h) fun us sA ⟨vs, HA, IA, r, q⟩ => ⟨IA.kIn, make_atS mk fo rm bi (pa σ) IA r q⟩) q1 q2
theorem shaped_xy : SeqAt.shaped (.list (xyN.map PyData.str)) = true := by decide +kernel
theorem out_tup {on : Option (List Str)} {ls : List Str} {ns : List Str} {ds : List PyData} (e : resM on ls = .ok (ns, ds)) : tupled (.tuple [namesD ns, .tuple ds]) = true := by
  cases on with
  | none => exact prog_tup (by rw [← res_none]; exact e)
  | some ms =>
    unfold resM finR st0 at e
    cases q : progGo (some (ms, PS0)) 0 ls with
    | error c => rw [q] at e; cases e
    | ok st =>
      rw [q] at e
      have key : ∀ (zs : List Str) (i : Nat) (S : PS) (out : Option (List Str × PS)), PSok S → progGo (some (ms, S)) i zs = .ok out → ∃ S', out = some (ms, S') ∧ PSok S' := by
        intro zs
        induction zs with
        | nil =>
          intro i S out h e
          have e : (.ok (some (ms, S)) : Except (Nat × Nat) (Option (List Str × PS))) = .ok out := e
          cases e
          exact ⟨S, rfl, h⟩
        | cons z zs ih =>
          intro i S out h e
          unfold progGo at e
          by_cases c1 : i = 80
          · rw [if_pos c1] at e; cases e
          rw [if_neg c1] at e
          simp only at e
          cases q1 : readM ms S z with
          | error c => rw [q1] at e; cases e
          | ok S' => rw [q1] at e; exact ih _ _ _ (readM_ok h q1) e
      obtain ⟨S', rfl, pok⟩ := key _ _ _ _ PS0_ok q
      simp only at e
      unfold finM at e
      by_cases c : 1 < S'.blks.length
      · rw [if_pos c] at e; cases e
      · rw [if_neg c] at e
        cases e
        have h1 := fin_tup pok
        show (tupled (namesD ns) && (tupled _ && true)) = true
        rw [show tupled (namesD ns) = true from strs_tup ns, h1] <;> rfl
theorem make_ses {H : Hp} {E : XK} {text : Str} {raw : List Str} {G : Addr → Hp → Prop} (tx : TxOk text raw) (q : match progM (raw.map cutM) with
      | .error (l, c) => BadS K H E l c
      | .ok (ns, ds) => ∀ a dx ml v H', Same H H' → Dp K H' v (.tuple [namesD ns, .tuple ds]) → H' a = some (.ins (He.ga K "Session") dx [("present", v), ("marks", .ref ml)]) → G a H') :
    ∀ x dx, H x = none → H dx = none → dx ≠ x → spSesInit K (.ref x :: ([.str text] ++ [])) (upd (upd H dx (.own x)) x (.ins (He.ga K "Session") dx [])) (fun v H2 => v = .non ∧ G x H2) E := by
  intro x dx nx ndx ne
  have s1 : Same H (upd (upd H dx (.own x)) x (.ins (He.ga K "Session") dx [])) := fun b o z => by
    rw [upd_ne (ne_of_none z nx), upd_ne (ne_of_none z ndx)]
    exact z
  refine ⟨x, dx, text, raw, rfl, upd_same, tx, ?_⟩
  rcases e : progM (raw.map cutM) with lc | nd
  · rw [e] at q
    exact BadS.to q s1
  · obtain ⟨ns, ds⟩ := nd
    rw [e] at q
    exact fun v H' ml k d h => ⟨rfl, q x dx ml v H' (fun b o z => k _ _ (ne_of_none z nx) (s1 _ _ z)) d h⟩
abbrev N_law_outcome : List Str := ["_law_text", "_law_names", "_law_caught", "_law_found", "e"]
theorem sc_law_outcome : FnScope N_law_outcome ["_law_text", "_law_names"] (defScope s_law_outcome) := ⟨rfl, rfl, rfl, by decide +kernel, rfl, by decide +kernel, by decide +kernel⟩
theorem b_law_outcome (T : Tx K mg) : Binds K T.fd_law_outcome ["_law_text", "_law_names"] [] := T.F_law_outcome.bindsN fun _ _ _ _ _ _ us hl => match us, hl with | [_, _], _ => rfl
def tb_out (K : PySem.W.Frag) : WX → TS := fun W => tIfS (tTest (tOp (rEqD K) (tVar 1) (tC (.str "session")))) (tAsg (tMeth (He.ga K "Session") "program" (spSesProg K) [] (fun _ _ _ => False) (tMkS (He.ga K "Session") (spSesInit K) (WE W) (tCons (tVar 0) tNil)) tNil) (gName 3))
  (tIfS (tTest (tOp (fun x y H Q => y = .non ∧ Q (.bl (decide (x = .non))) H) (tVar 1) (tC .non))) (tAsg (tCallS (spProg K) (WE W) (tCons (tVar 0) tNil)) (gName 3))
    (tAsg (tTup (tCons (tCB (fun xs H Q => ∃ p ys, xs = [.ref p] ∧ ((SqL K H p ys ∧ ∀ l, H l = none → Q (.ref l) (upd H l (.tup ys))) ∨ (SqT K H p ys ∧ Q (.ref p) H))) (tCons (tVar 1) tNil)) (tCons (tCallS (spStmts K) (WE W) (tCons (tVar 0) (tCons (tVar 1) tNil))) tNil))) (gName 3)))
def ts_out : Addr → Value → Option Addr → TS := fun _ _ _ => tAsg (tVar 4) (gName 2)
theorem ok_law_outcome (T : Tx K mg) : FnOk P w K mg base CX0 86 (He.ga K "_law_outcome") T.fd_law_outcome ["_law_text", "_law_names"] (spOut K) := by
  refine T.F_law_outcome.ok sc_law_outcome (fun vs H Q E h => ?_) (fun cdv A outer s H vs Q E hr h => ?_)
  · obtain ⟨text, nv, raw, n, rfl, _⟩ := h
    rfl
  obtain ⟨text, nv, raw, n, rfl, tx, hn, q⟩ := h
  have hr1 : Room 84 _ := hr.mono (by decide)
  have hr2 : Room 80 _ := hr.mono (by decide)
  refine ⟨_, pss_cons (ps_set (i := 2) sc_law_outcome.nd rfl (Or.inl rfl) pe_non) (pss_cons (ps_set (i := 3) sc_law_outcome.nd rfl (Or.inl rfl) pe_non)
    (pss_cons (ps_try_keep (i := 4) (tb := tb_out K) (ts := ts_out) rfl rfl rfl sc_law_outcome.nd rfl rfl ⟨rfl, by decide, Or.inl T.g_ToLimitError⟩
      (fun W pn xe tk po => pss_one (ps_if (pt_cmpR (r := rEqD K) (op_eqD hr.units) (pv 1) pe_str (nomark _))
        (pss_one (ps_set (i := 3) sc_law_outcome.nd rfl (Or.inl rfl) (pe_meth0 (by exact (pe_makeS T.mk_Session (ok_Session_init T) (hr1.mono (by decide)) rfl T.g_Session (b_Session_init T) (fun σ => passAt tk σ) (by exact (pa_cons (pv 0) pa_nil)))) T.cl_Session T.me_Session_program (ok_Session_program T) (hr1.mono (by decide)) (b_Session_program T) .nil pass0)))
        (pss_one (ps_if (pt_cmpR op_isN (pv 1) pe_non (nomark _)) (pss_one (ps_set (i := 3) sc_law_outcome.nd rfl (Or.inl rfl) (by exact (pe_callS (ok_parse_program T) hr2 rfl T.g_parse_program T.F_parse_program.kp (b_parse_program T) (fun σ => passAt tk σ) (by exact (pa_cons (pv 0) pa_nil))))))
          (pss_one (ps_set (i := 3) sc_law_outcome.nd rfl (Or.inl rfl) (pe_tup (pa_cons (pe_callTy call_tuple_of rfl T.z_tuple (by decide +kernel) (pa_cons (pv 1) pa_nil)) (pa_cons (by exact (pe_callS (ok_parse_statements T) hr2 rfl T.g_parse_statements T.F_parse_statements.kp (b_parse_statements T) (fun σ => passAt tk σ) (by exact (pa_cons (pv 0) (pa_cons (pv 1) pa_nil))))) pa_nil)))))))))
      (fun e ob cls d pn hz hf => pss_one (ps_set (i := 2) sc_law_outcome.nd rfl (Or.inl rfl) (pv 4))))
    (pss_cons (ps_if (pt_cmpR op_isN (pv 2) pe_non (nomark _)) (pss_one (ps_ret (pe_tup (pa_cons (pv 3) (pa_cons pe_non (pa_cons pe_non pa_nil)))))) pss_nil)
    (pss_one (ps_ret (pe_ifExp (pt_val (pe_call (ok_law_is_problem T) (hr.mono (by decide)) rfl T.g_law_is_problem T.F_law_is_problem.kp (b_law_is_problem T) .nil pass0 (pa_cons (pv 2) pa_nil))) (pe_tup (pa_cons pe_non (pa_cons (pe_xo T.xf T.nl (pv 2)) (pa_cons (pe_xo T.xf T.nc (pv 2)) pa_nil)))) pe_str)))))), ?_⟩
  have bad : ∀ (l c : Nat) (d e : Addr) (H2 H3 : Hp) (v3 : Option V), Same H H2 → H2 d = some (.xd (synF l c)) → H2 e = none → Same (upd H2 e (XOb e (.ref (cSyn K)) (some d))) H3 → outD (resM n.on (raw.map cutM)) = .tuple [.none, .int (l : Int), .int (c : Int)] →
      tTup (tCons (tC .non) (tCons (tXo K (cSyn K) "line" (tVar 2)) (tCons (tXo K (cSyn K) "column" (tVar 2)) tNil))) [some (.str text), some nv, some (.ref e), v3, none] H3 Q := by
    intro l c d e H2 H3 v3 s2 hd ne s3 eo
    have ude : H3 d = some (.xd (synF l c)) := s3 _ _ (by rw [upd_ne (ne_of_none hd ne)]; exact hd)
    have ue := s3 _ _ (upd_same (H := H2) (a := e) (o := XOb e (.ref (cSyn K)) (some d)))
    refine ⟨_, rfl, e, d, _, _, rfl, ue, ude, rfl, _, rfl, e, d, _, _, rfl, ue, ude, rfl, sz 3, ?_⟩
    walk_at "new 9"
    refine q _ H9 (((s2.trans (same_new ne)).trans s3).trans s9) ?_
    rw [eo]
    exact .tup (.of h9) (.cons .non (.cons (.int _) (.cons (.int _) .nil)))
  have good : ∀ (ns : List Str) (ds : List PyData) (v : V) (H2 : Hp), Same H H2 → resM n.on (raw.map cutM) = .ok (ns, ds) → Dp K H2 v (.tuple [namesD ns, .tuple ds]) → tTup (tCons (tVar 3) (tCons (tC .non) (tCons (tC .non) tNil))) [some (.str text), some nv, some .non, some v, none] H2 Q := by
    intro ns ds v H2 s2 eo d2
    refine ⟨_, rfl, sz 3, ?_⟩
    walk_at "new 9"
    refine q _ H9 (s2.trans s9) ?_
    rw [eo]
    exact .tup (.of h9) (.cons (dp_mono (Same.tups s9) _ _ (out_tup eo) d2) (.cons .non (.cons .non .nil)))
  cases n with
  | prog =>
    have hn : nv = .non := hn
    subst hn
    have eo : resM NmSrc.prog.on (raw.map cutM) = progM (raw.map cutM) := res_none _
    refine ⟨_, rfl, .none, .str "session", .non, .str _, by decide +kernel, by decide +kernel, _, rfl, ifF rfl ?_⟩
    refine ⟨_, rfl, rfl, _, rfl, ifT rfl ?_⟩
    refine ⟨_, rfl, text, raw, rfl, tx, ?_⟩
    rcases e1 : progM (raw.map cutM) with ⟨l, c⟩ | ⟨ns, ds⟩
    · rw [e1] at eo
      intro d H2 s2 hd
      refine ⟨T.ex_ToLimitError, fun e ne => ⟨_, rfl, ?_⟩⟩
      refine ⟨_, rfl, rfl, _, rfl, ifF rfl ?_⟩
      refine ⟨_, rfl, e, d, _, rfl, upd_same, by rw [upd_ne (ne_of_none hd ne)]; exact hd, fun H3 s3 => ⟨_, rfl, ifT rfl ?_⟩⟩
      exact bad l c d e H2 H3 _ s2 hd ne s3 (by rw [eo] <;> rfl)
    · rw [e1] at eo
      intro v H2 s2 d2
      refine ⟨_, rfl, rfl, _, rfl, ifT rfl ?_⟩
      exact good ns ds v H2 s2 eo d2
  | ses =>
    have hn : nv = .str "session" := hn
    subst hn
    have eo : resM NmSrc.ses.on (raw.map cutM) = progM (raw.map cutM) := res_none _
    refine ⟨_, rfl, .str "session", .str "session", .str _, .str _, by decide +kernel, by decide +kernel, _, rfl, ifT (by decide +kernel) ?_⟩
    refine ⟨_, rfl, ?_⟩
    refine make_ses tx ?_
    rcases e1 : progM (raw.map cutM) with ⟨l, c⟩ | ⟨ns, ds⟩
    · rw [e1] at eo
      intro d H2 s2 hd
      refine ⟨T.ex_ToLimitError, fun e ne => ⟨_, rfl, ?_⟩⟩
      refine ⟨_, rfl, rfl, _, rfl, ifF rfl ?_⟩
      refine ⟨_, rfl, e, d, _, rfl, upd_same, by rw [upd_ne (ne_of_none hd ne)]; exact hd, fun H3 s3 => ⟨_, rfl, ifT rfl ?_⟩⟩
      exact bad l c d e H2 H3 _ s2 hd ne s3 (by rw [eo] <;> rfl)
    · rw [e1] at eo
      intro a dx ml v H2 s2 d2 ha
      refine ⟨a, dx, _, rfl, ha, rfl, a, dx, ml, v, rfl, ha, ?_⟩
      refine ⟨_, rfl, rfl, _, rfl, ifT rfl ?_⟩
      exact good ns ds v H2 s2 eo d2
  | xy =>
    obtain ⟨a, rfl, ha⟩ := hn
    have eo : resM NmSrc.xy.on (raw.map cutM) = _ := res_some xyN (raw.map cutM)
    refine ⟨_, rfl, .list (xyN.map PyData.str), .str "session", .lst ha (strs_dp xyN), .str _, shaped_xy, by decide +kernel, _, rfl, ifF (by decide +kernel) ?_⟩
    refine ⟨_, rfl, rfl, _, rfl, ifF rfl ?_⟩
    refine ⟨_, rfl, a, _, rfl, .inl ⟨ha, ?_⟩⟩
    walk_at "new 1"
    refine ⟨_, rfl, _, rfl, text, raw, xyN, a, rfl, tx, s1.seq ha, by decide, ?_⟩
    rcases e1 : stmtsM xyN (raw.map cutM) with ⟨l, c⟩ | ds
    · rw [e1] at eo
      intro d H2 s2 hd
      refine ⟨T.ex_ToLimitError, fun e ne => ⟨_, rfl, ?_⟩⟩
      refine ⟨_, rfl, rfl, _, rfl, ifF rfl ?_⟩
      refine ⟨_, rfl, e, d, _, rfl, upd_same, by rw [upd_ne (ne_of_none hd ne)]; exact hd, fun H3 s3 => ⟨_, rfl, ifT rfl ?_⟩⟩
      exact bad l c d e H2 H3 _ (s1.trans s2) hd ne s3 (by rw [eo] <;> rfl)
    · rw [e1] at eo
      intro v H2 s2 d2
      refine ⟨sz 2, ?_⟩
      walk_at "new 3"
      refine ⟨_, rfl, rfl, _, rfl, ifT rfl ?_⟩
      have ot := out_tup eo
      have t2 : tupled (.tuple ds) = true := by
        have : (tupled (namesD xyN) && (tupled (.tuple ds) && true)) = true := ot
        rw [Bool.and_eq_true, Bool.and_true] at this
        exact this.2
      exact good xyN ds _ H3 ((s1.trans s2).trans s3) eo (.tup (.of h3) (.cons (.tup (.of (s3 _ _ (s2 _ _ h1))) (strs_dp xyN)) (.cons (dp_mono (Same.tups s3) _ _ t2 d2) .nil)))
end
end Kw

set_option Elab.async false
set_option linter.all false
set_option maxRecDepth 100000
set_option maxHeartbeats 4000000
namespace Kw
open PySem PySem.Spec PyProof.Rows L2
/-! ### the data is small: its depth, its weight, its leaves -/
/-- leaves that are short, data that is shown -/
def Fine (d : PyData) : Prop := d.leavesShort 13 = true ∧ d.showable = true
def FineAll (ds : List PyData) : Prop := PyData.leavesShortAll 13 ds = true ∧ PyData.showableAll ds = true
theorem fine_nil : FineAll [] := ⟨rfl, rfl⟩
theorem fine_cons {d : PyData} {ds : List PyData} (h : Fine d) (t : FineAll ds) : FineAll (d :: ds) :=
  ⟨by simp only [PyData.leavesShortAll, h.1, t.1, Bool.and_self], by simp only [PyData.showableAll, h.2, t.2, Bool.and_self]⟩
theorem fine_head {d : PyData} {ds : List PyData} (h : FineAll (d :: ds)) : Fine d ∧ FineAll ds := by
  obtain ⟨h1, h2⟩ := h
  simp only [PyData.leavesShortAll, Bool.and_eq_true] at h1
  simp only [PyData.showableAll, Bool.and_eq_true] at h2
  exact ⟨⟨h1.1, h2.1⟩, ⟨h1.2, h2.2⟩⟩
theorem fine_app : ∀ {ds es : List PyData}, FineAll ds → FineAll es → FineAll (ds ++ es)
  | [], _, _, h => h
  | _ :: _, _, a, h => fine_cons (fine_head a).1 (fine_app (fine_head a).2 h)
theorem fine_tup {ds : List PyData} (h : FineAll ds) : Fine (.tuple ds) := ⟨by simp only [PyData.leavesShort, h.1], by simp only [PyData.showable, h.2]⟩
theorem fine_map {α : Type} {f : α → PyData} : ∀ {l : List α}, (∀ a ∈ l, Fine (f a)) → FineAll (l.map f)
  | [], _ => fine_nil
  | a :: l, h => fine_cons (h a (List.mem_cons_self ..)) (fine_map fun b m => h b (List.mem_cons_of_mem _ m))
theorem fine_int {i : Int} (h : i.natAbs < 1000001) : Fine (.int i) := by
  refine ⟨?_, ?_⟩
  · have e := int_text_length_le10 (a := i) (k := 7) (by decide) (by omega)
    simp only [PyData.leavesShort]
    refine decide_eq_true ?_
    show (Str.ofString (toString i)).length ≤ 13
    rw [PySem.ofString_length]
    omega
  · simp only [PyData.showable, decide_eq_true_eq]
    by_cases z : i.natAbs = 0
    · rw [z]; decide
    · have := (Nat.log2_lt z (k := 20)).mpr (by omega)
      omega
theorem wt_app : ∀ (ds es : List PyData), PyData.weightAll (ds ++ es) = PyData.weightAll ds + PyData.weightAll es
  | [], es => by simp [PyData.weightAll]
  | d :: ds, es => by
    have := wt_app ds es
    simp only [List.cons_append, PyData.weightAll, this]
    omega
theorem dp_app : ∀ (ds es : List PyData), PyData.depthAll (ds ++ es) = max (PyData.depthAll ds) (PyData.depthAll es)
  | [], es => by simp [PyData.depthAll]
  | d :: ds, es => by
    have := dp_app ds es
    simp only [List.cons_append, PyData.depthAll, this, Nat.max_assoc]
theorem wt_map {α : Type} {f : α → PyData} {w : Nat} : ∀ {l : List α}, (∀ a ∈ l, (f a).weight ≤ w) → PyData.weightAll (l.map f) ≤ l.length * (w + 1)
  | [], _ => by simp [PyData.weightAll]
  | a :: l, h => by
    have h1 := h a (List.mem_cons_self ..)
    have h2 := wt_map (f := f) (w := w) (l := l) fun b m => h b (List.mem_cons_of_mem _ m)
    simp only [List.map_cons, PyData.weightAll, List.length_cons, Nat.add_mul, Nat.one_mul]
    omega
theorem dp_map {α : Type} {f : α → PyData} {w : Nat} : ∀ {l : List α}, (∀ a ∈ l, (f a).depth ≤ w) → PyData.depthAll (l.map f) ≤ w
  | [], _ => by simp [PyData.depthAll]
  | a :: l, h => by
    have h1 := h a (List.mem_cons_self ..)
    have h2 := dp_map (f := f) (w := w) (l := l) fun b m => h b (List.mem_cons_of_mem _ m)
    simp only [List.map_cons, PyData.depthAll]
    omega
theorem wt_int {i : Int} (h : i.natAbs < 1000001) : (PyData.int i).weight ≤ 20 := by
  simp only [PyData.weight]
  split
  · omega
  · by_cases z : i.natAbs = 0
    · rw [z]; decide
    · have := (Nat.log2_lt z (k := 20)).mpr (by omega)
      omega
/-! ### rows of an assignment -/
structure RowS (n : Nat) (r : Row) : Prop where
  len : r.length = n + 1
  short : ∀ f ∈ r, f.1.natAbs < 1000000 ∧ f.2.natAbs < 1000000
theorem short_of {n b : Nat} {r : Row} (g : RowG n b r) (h : isShortM r = true) : RowS n r := by
  refine ⟨g.len, fun f m => ?_⟩
  have h1 := List.all_eq_true.mp h f m
  have h2 := (g.ok f m).p
  unfold shortF at h1
  have h1 := of_decide_eq_true h1
  split at h1 <;> split at h1 <;> omega
theorem unit_s {p n : Nat} (h : p ≤ n) : RowS n (unitM p n) := by
  refine ⟨unit_len h, fun f m => ?_⟩
  unfold unitM at m
  rcases List.mem_append.mp m with m | m
  · rcases List.mem_append.mp m with m | m
    · rw [List.eq_of_mem_replicate m]; decide
    · rw [List.mem_singleton.mp m]; decide
  · rw [List.eq_of_mem_replicate m]; decide
theorem rowsM_s {names : List Str} {ts : List Tk} (tok : TsOk ts) : ∀ (pls : List Nat) (c : Nat) (rows : List Row) (i : Nat) (out : List Row) (k : Nat), (∀ r ∈ rows, RowS names.length r) → rowsM names ts pls c rows i = .ok (out, k) → out.length = rows.length ∧ ∀ r ∈ out, RowS names.length r
  | [], _, rows, i, out, k, h, e => by
    cases e
    exact ⟨rfl, h⟩
  | pl :: ps, c, rows, i, out, k, h, e => by
    unfold rowsM at e
    cases q1 : (if c = 0 then .ok i else takeM ts "symbol" (some ",") i : Except Nat Nat) with
    | error x => rw [q1] at e; cases e
    | ok j =>
      rw [q1] at e
      simp only at e
      cases q2 : exprM names ts 20 j with
      | error x => rw [q2] at e; cases e
      | ok rk =>
        obtain ⟨r, k'⟩ := rk
        rw [q2] at e
        simp only at e
        by_cases q3 : isShortM r = true
        · rw [if_pos q3] at e
          have g := (exprM_g tok names 20 j r k' q2).2.2
          obtain ⟨h1, h2⟩ := rowsM_s tok ps (c + 1) (rows.set pl r) k' out k (fun x m => by
            rcases List.mem_or_eq_of_mem_set m with m | m
            · exact h x m
            · rw [m]; exact short_of g q3) e
          exact ⟨by rw [h1, List.length_set], h2⟩
        · rw [if_neg q3] at e; cases e
theorem assignM_s {names : List Str} {ts : List Tk} {rows : List Row} (tok : TsOk ts) (e : assignM names ts = .ok rows) : rows.length = names.length ∧ ∀ r ∈ rows, RowS names.length r := by
  unfold assignM at e
  cases q1 : placesM names ts (ts.length + 1) [] 0 with
  | error x => rw [q1] at e; cases e
  | ok pi =>
    obtain ⟨pls, i⟩ := pi
    rw [q1] at e
    simp only at e
    cases q2 : takeM ts "symbol" (some ":=") i with
    | error x => rw [q2] at e; cases e
    | ok j =>
      rw [q2] at e
      simp only at e
      cases q3 : rowsM names ts pls 0 (unitsM names.length) j with
      | error x => rw [q3] at e; cases e
      | ok rk =>
        obtain ⟨r, k⟩ := rk
        rw [q3] at e
        simp only at e
        cases q4 : takeM ts "end of line" none k with
        | error x => rw [q4] at e; cases e
        | ok _ =>
          rw [q4] at e
          cases e
          obtain ⟨h1, h2⟩ := rowsM_s tok _ _ _ _ _ _ (fun x m => by
            unfold unitsM at m
            obtain ⟨p, hp, rfl⟩ := List.mem_map.mp m
            exact unit_s (Nat.le_of_lt (List.mem_range.mp hp))) q3
          exact ⟨by rw [h1]; unfold unitsM; rw [List.length_map, List.length_range], h2⟩
theorem fr_fine {f : Int × Int} (h : f.1.natAbs < 1000000 ∧ f.2.natAbs < 1000000) : Fine (frD f) ∧ (frD f).weight ≤ 42 ∧ (frD f).depth ≤ 1 := by
  refine ⟨fine_tup (fine_cons (fine_int (by omega)) (fine_cons (fine_int (by omega)) fine_nil)), ?_, ?_⟩
  · have h1 := wt_int (i := f.1) (by omega)
    have h2 := wt_int (i := f.2) (by omega)
    show PyData.weightAll [.int f.1, .int f.2] ≤ 42
    simp only [PyData.weightAll]
    omega
  · show PyData.depthAll [.int f.1, .int f.2] + 1 ≤ 1
    simp only [PyData.depthAll, PyData.depth]
    decide
theorem row_fine {n : Nat} {r : Row} (h : RowS n r) (hn : n ≤ 4) : Fine (rowD r) ∧ (rowD r).weight ≤ 215 ∧ (rowD r).depth ≤ 2 := by
  refine ⟨fine_tup (fine_map fun f m => (fr_fine (h.short f m)).1), ?_, ?_⟩
  · have := wt_map (f := frD) (w := 42) (l := r) fun f m => (fr_fine (h.short f m)).2.1
    show PyData.weightAll (r.map frD) ≤ 215
    rw [h.len] at this
    omega
  · have := dp_map (f := frD) (w := 1) (l := r) fun f m => (fr_fine (h.short f m)).2.2
    show PyData.depthAll (r.map frD) + 1 ≤ 2
    omega
theorem asg_fine {names : List Str} {ts : List Tk} {rows : List Row} (tok : TsOk ts) (hn : names.length ≤ 4) (e : assignM names ts = .ok rows) : Fine (asgD rows) ∧ (asgD rows).weight ≤ 900 ∧ (asgD rows).depth ≤ 4 := by
  obtain ⟨l, h⟩ := assignM_s tok e
  refine ⟨fine_tup (fine_cons ⟨by decide +kernel, by decide +kernel⟩ (fine_cons (fine_tup (fine_map fun r m => (row_fine (h r m) hn).1)) fine_nil)), ?_, ?_⟩
  · have := wt_map (f := rowD) (w := 215) (l := rows) fun r m => (row_fine (h r m) hn).2.1
    rw [l] at this
    have h2 : names.length * 216 ≤ 4 * 216 := Nat.mul_le_mul_right _ hn
    have h3 : (PyData.str "assign").weight = 6 := by decide +kernel
    show PyData.weightAll [.str "assign", .tuple (rows.map rowD)] ≤ 900
    simp only [PyData.weightAll]
    rw [h3]
    have h4 : (PyData.tuple (rows.map rowD)).weight = PyData.weightAll (rows.map rowD) := by simp only [PyData.weight]
    omega
  · have := dp_map (f := rowD) (w := 2) (l := rows) fun r m => (row_fine (h r m) hn).2.2
    show PyData.depthAll [.str "assign", .tuple (rows.map rowD)] + 1 ≤ 4
    simp only [PyData.depthAll, PyData.depth]
    omega
end Kw

set_option Elab.async false
set_option linter.all false
set_option maxRecDepth 100000
set_option maxHeartbeats 4000000
namespace Kw
open PySem PySem.Spec PyProof.Rows L2
local macro_rules | `(tactic| walk_at $s:str) => do
  match s.getString.splitOn " " with
  | ["new", a] =>
    let p := Lean.mkIdent (Lean.Name.mkSimple ("p" ++ a))
    let n := Lean.mkIdent (Lean.Name.mkSimple ("n" ++ a))
    let H := Lean.mkIdent (Lean.Name.mkSimple ("H" ++ a))
    let s := Lean.mkIdent (Lean.Name.mkSimple ("s" ++ a))
    let h := Lean.mkIdent (Lean.Name.mkSimple ("h" ++ a))
    `(tactic| (intro $p $n; generalize e : upd _ $p _ = $H; have $s : Same _ $H := e ▸ same_new $n; have $h : $H $p = some _ := e ▸ upd_same; clear e))
  | _ => Lean.Macro.throwUnsupported
/-! ### the source of the law's choices -/
/-- a list of numbers, a place in it, a rest -/
def SupAt (K : PySem.W.Frag) (H0 H : Hp) (p : Addr) (n : Nat) : Prop := ∃ (q : Addr) (ns : List Int) (i : Nat) (r : Int), H p = some (.lst [.ref q, .int (i : Int), .int r]) ∧ q ≠ p ∧ SqL K H0 q (ns.map V.int) ∧ ns.length ≤ 18 ∧ i ≤ n ∧ Kp p H0 H
theorem SupAt.same {K : PySem.W.Frag} {H0 H H' : Hp} {p : Addr} {n : Nat} (h : SupAt K H0 H p n) (s : Same H H') : SupAt K H0 H' p n :=
  let ⟨q, ns, i, r, h1, h3, h4, h5, h6, h7⟩ := h; ⟨q, ns, i, r, s _ _ h1, h3, h4, h5, h6, h7.trans (Kf.of s)⟩
theorem SupAt.more {K : PySem.W.Frag} {H0 H : Hp} {p : Addr} {n m : Nat} (h : SupAt K H0 H p n) (l : n ≤ m) : SupAt K H0 H p m :=
  let ⟨q, ns, i, r, h1, h3, h4, h5, h6, h7⟩ := h; ⟨q, ns, i, r, h1, h3, h4, h5, Nat.le_trans h6 l, h7⟩
theorem SupAt.some {K : PySem.W.Frag} {H0 H : Hp} {p : Addr} {n : Nat} (h : SupAt K H0 H p n) : ∃ o, H p = some o := let ⟨_, _, _, _, h1, _⟩ := h; ⟨_, h1⟩
theorem SupAt.apart {K : PySem.W.Frag} {H0 H : Hp} {p q : Addr} {n : Nat} (h : SupAt K H0 H p n) (f : H q = none) : q ≠ p := fun e => by
  obtain ⟨o, h1⟩ := h.some
  rw [e, h1] at f
  cases f
theorem SupAt.free {K : PySem.W.Frag} {H0 H : Hp} {p q : Addr} {n : Nat} (h : SupAt K H0 H p n) (f : H q = none) : H0 q = none := by
  have np := h.apart f
  obtain ⟨_, _, _, _, _, _, _, _, _, k⟩ := h
  cases e : H0 q with
  | none => rfl
  | some o =>
    rw [k _ _ np e] at f
    cases f
theorem SupAt.upd {K : PySem.W.Frag} {H0 H : Hp} {p q : Addr} {n : Nat} {u : HO} (h : SupAt K H0 H p n) (f : H0 q = none) (np : q ≠ p) : SupAt K H0 (upd H q u) p n := by
  obtain ⟨q', ns, i, r, h1, h3, h4, h5, h6, h7⟩ := h
  refine ⟨q', ns, i, r, by rw [upd_ne np.symm]; exact h1, h3, h4, h5, h6, fun a o m e => ?_⟩
  rw [upd_ne (fun z => by rw [z, f] at e; cases e)]
  exact h7 a o m e
abbrev topN : Nat := 1152921504606846976
theorem tN : topN = 1152921504606846976 := rfl
def spBlend (K : PySem.W.Frag) : Sp := fun vs H Q _ => ∃ a b : Int, vs = [.int a, .int b] ∧ a.natAbs < 2 ^ 70 ∧ b.natAbs < 2 ^ 70 ∧ ∀ r : Int, Q (.int r) H
theorem mz : (1000000000000000009 : Int) ≠ 0 := by decide
theorem modM (x : Int) : (x.fmod 1000000000000000009).natAbs < 2 ^ 60 := by
  have h := Int.fmod_eq_emod_of_nonneg x (b := 1000000000000000009) (by decide)
  rw [h]
  have h1 := Int.emod_nonneg x (b := 1000000000000000009) (by decide)
  have h2 := Int.emod_lt_of_pos x (b := 1000000000000000009) (by decide)
  have h3 : (2 : Nat) ^ 60 = 1152921504606846976 := by decide
  omega
section
variable {P : Program} {w : World} {K : PySem.W.Frag} {mg : Str → Option Value} {base : Heap}
abbrev N_law_blended : List Str := ["_law_number", "_law_index", "_law_modulus", "_law_found", "_law_turn"]
theorem sc_law_blended : FnScope N_law_blended ["_law_number", "_law_index"] (defScope s_law_blended) := ⟨rfl, rfl, rfl, by decide +kernel, rfl, by decide +kernel, by decide +kernel⟩
theorem b_law_blended (T : Tx K mg) : Binds K T.fd_law_blended ["_law_number", "_law_index"] [] := T.F_law_blended.bindsN fun _ _ _ _ _ _ us hl => match us, hl with | [_, _], _ => rfl
theorem ok_law_blended (T : Tx K mg) : FnOk P w K mg base CX0 1 (He.ga K "_law_blended") T.fd_law_blended ["_law_number", "_law_index"] (spBlend K) := by
  refine T.F_law_blended.ok sc_law_blended (fun vs H Q E h => ?_) (fun cdv A outer s H vs Q E hr h => ?_)
  · obtain ⟨a, b, rfl, _⟩ := h
    rfl
  obtain ⟨a, b, rfl, ha, hb, q⟩ := h
  refine ⟨_, PSs.nox (pss_cons (ps_set (i := 2) sc_law_blended.nd rfl (Or.inl rfl) pe_int)
      (pss_cons (ps_set (i := 3) sc_law_blended.nd rfl (Or.inl rfl) (pe_op op_modN (pe_op op_add (pe_op op_add (pe_op op_mulW (pv 0) pe_int) (pe_op op_mulW pe_int (pv 1))) pe_int) (pv 2)))
      (pss_cons (ps_for PassesOwn.never rfl (pi_range1 rfl T.z_range (pa_cons pe_int pa_nil)) (pg_name (i := 4) sc_law_blended.nd rfl (Or.inl rfl)) (pss_one (ps_set (i := 3) sc_law_blended.nd rfl (Or.inl rfl) (pe_op op_modN (pe_op op_add (pe_op op_add (pe_op op_add (pe_op op_mulW (pv 3) (pv 3)) (pe_op op_mulW pe_int (pv 3))) (pe_op op_mulW pe_int (pv 4))) (pv 1)) (pv 2)))))
      (pss_one (ps_ret (pe_op op_add (pe_op op_mulW (pv 3) (pv 2)) (pe_op op_modN (pe_op op_add (pe_op op_mulW (pv 3) pe_int) (pv 1)) (pv 2)))))))), ?_⟩
  have m1 : ∀ {x y : Int} {m n : Nat}, x.natAbs < 2 ^ m → y.natAbs < 2 ^ n → 0 < m → 0 < n → m + n ≤ 1000000 → CMulW x y := fun h1 h2 h3 h4 h5 => wide_mul h1 h2 h3 h4 h5
  refine ⟨_, rfl, _, _, rfl, rfl, m1 ha (n := 62) (by decide) (by decide) (by decide) (by decide), ?_⟩
  refine ⟨_, rfl, _, _, rfl, rfl, m1 (m := 32) (by decide) hb (by decide) (by decide) (by decide), _, _, rfl, rfl, _, _, rfl, rfl, _, rfl, _, _, rfl, rfl, mz, ?_⟩
  refine ⟨4, rfl, by decide, by decide, ?_⟩
  refine for_it (walk_range (lo := 0) (n := 4)) (fun i σ H' => ∃ (f : Int) (v4 : Option V), σ = [some (.int a), some (.int b), some (.int 1000000000000000009), some (.int f), v4] ∧ H' = H ∧ f.natAbs < 2 ^ 60) ⟨_, _, rfl, rfl, modM _⟩ (fun _ _ _ _ _ => trivial) ?_ ?_
  · rintro i x σ H1 H2 hi ⟨f, v4, rfl, rfl, hf⟩ ⟨rfl, rfl⟩
    have hi' : ((0 : Int) + (i : Nat)).natAbs < 2 ^ 3 := by show _ < 8; omega
    refine ⟨_, rfl, _, rfl, _, _, rfl, rfl, m1 hf hf (by decide) (by decide) (by decide), ?_⟩
    refine ⟨_, rfl, _, _, rfl, rfl, m1 (m := 3) (by decide) hf (by decide) (by decide) (by decide), _, _, rfl, rfl, ?_⟩
    refine ⟨_, rfl, _, _, rfl, rfl, m1 (m := 8) (by decide) hi' (by decide) (by decide) (by decide), _, _, rfl, rfl, ?_⟩
    refine ⟨_, rfl, _, _, rfl, rfl, _, rfl, _, _, rfl, rfl, mz, ?_⟩
    exact ⟨_, _, rfl, rfl, modM _⟩
  · rintro σ H1 ⟨f, v4, rfl, rfl, hf⟩
    refine ⟨_, rfl, _, rfl, _, _, rfl, rfl, m1 hf (n := 60) (by decide) (by decide) (by decide) (by decide), ?_⟩
    refine ⟨_, rfl, _, _, rfl, rfl, m1 hf (n := 17) (by decide) (by decide) (by decide) (by decide), ?_⟩
    exact ⟨_, rfl, _, _, rfl, rfl, _, rfl, _, _, rfl, rfl, mz, _, _, rfl, rfl, q _⟩

theorem cut_map {α : Type} (f : α → V) (l : List α) (lo hi : Option Int) : ∃ l' : List α, cutV (l.map f) lo hi = l'.map f ∧ l' = (l.drop (HT.sIx l.length 0 lo)).take (HT.sIx l.length l.length hi - HT.sIx l.length 0 lo) :=
  ⟨_, by unfold cutV; rw [List.length_map, ← List.map_drop, ← List.map_take], rfl⟩
theorem ints_of : ∀ {ys : List V}, (∀ (i : Nat) y, ys[i]? = some y → ∃ k : Int, y = .int k) → ∃ ns : List Int, ys = ns.map V.int
  | [], _ => ⟨[], rfl⟩
  | y :: ys, h => by
    obtain ⟨k, rfl⟩ := h 0 y rfl
    obtain ⟨ns, rfl⟩ := ints_of (ys := ys) fun i z e => h (i + 1) z e
    exact ⟨k :: ns, rfl⟩
theorem sq_kp {H H' : Hp} {a p : Addr} {xs : List V} (h : SqL K H a xs) (k : Kp p H H') (n : a ≠ p) : SqL K H' a xs := by
  rcases h with (h | ⟨o, h⟩) | h
  · exact .inl (.inl (k _ _ n h))
  · exact .inl (.inr ⟨o, k _ _ n h⟩)
  · exact .inr h
theorem dp_ints (H : Hp) : ∀ ns : List Int, DpAll K H (ns.map V.int) (ns.map PyData.int)
  | [] => .nil
  | i :: ns => .cons (.int i) (dp_ints H ns)
theorem lay_ints : ∀ ns : List Int, PyData.canLayAll0 (ns.map PyData.int) = true ∧ PyData.depthAll (ns.map PyData.int) = 0
  | [] => ⟨rfl, rfl⟩
  | i :: ns => by
    obtain ⟨h1, h2⟩ := lay_ints ns
    refine ⟨?_, ?_⟩
    · simp only [List.map_cons, PyData.canLayAll0, PyData.canLay0, h1, Bool.and_self]
    · simp only [List.map_cons, PyData.depthAll, PyData.depth, h2, Nat.max_self]
theorem shaped_ints (ns : List Int) : SeqAt.shaped (.list (ns.map PyData.int)) = true := by
  obtain ⟨h1, h2⟩ := lay_ints ns
  unfold SeqAt.shaped
  simp only [PyData.canLay0, PyData.depth, h1, h2, Bool.true_and]
  decide
theorem ixn_nat {n j : Nat} (h : j < n) : ixN n (j : Int) = some j := by unfold ixN; rw [if_pos (by omega), if_pos (by omega), Int.toNat_natCast]
def spSupply (K : PySem.W.Frag) : Sp := fun vs H Q _ => ∃ (a : Addr) (ns : List Int), vs = [.ref a] ∧ SqL K H a (ns.map V.int) ∧ ns.length ≤ 63 ∧ ∀ p H', Same H H' → H p = none → SupAt K H' H' p 0 → Q (.ref p) H'
abbrev N_law_supply : List Str := ["_law_script", "_law_numbers", "_law_index", "_law_number"]
theorem sc_law_supply : FnScope N_law_supply ["_law_script"] (defScope s_law_supply) := ⟨rfl, rfl, rfl, by decide +kernel, rfl, by decide +kernel, by decide +kernel⟩
theorem b_law_supply (T : Tx K mg) : Binds K T.fd_law_supply ["_law_script"] [] := T.F_law_supply.bindsN fun _ _ _ _ _ _ us hl => match us, hl with | [_], _ => rfl
theorem ok_law_supply (T : Tx K mg) : FnOk P w K mg base CX0 1 (He.ga K "_law_supply") T.fd_law_supply ["_law_script"] (spSupply K) := by
  refine T.F_law_supply.ok sc_law_supply (fun vs H Q E h => ?_) (fun cdv A outer s H vs Q E hr h => ?_)
  · obtain ⟨a, ns, rfl, _⟩ := h
    rfl
  obtain ⟨a, ns, rfl, hS, hn, q⟩ := h
  refine ⟨_, PSs.nox (pss_cons (ps_setLc (i := 1) (own := [("_law_number", 3)]) (g := (gName 3)) (tt := tYes) (by rfl) sc_law_supply.nd rfl rfl (sw_true rfl rfl rfl (by decide +kernel)) (pi_list (pe_slice (r := rSlL K) sl_list (pv 0) po_none (po_some pe_int))) (blkOk_by (own := [("_law_number", 3)]) (N := N_law_supply) (sc := (defScope s_law_supply)) (by decide +kernel)) (fun _ _ _ _ _ => (pg_name (i := 3) sc_law_supply.nd rfl (Or.inl rfl))) (fun _ _ _ _ _ => pts_nil) (fun _ _ _ _ _ => (pe_callB call_abs rfl T.z_abs (by decide +kernel) (pa_cons (pv 3) pa_nil))))
      (pss_cons (ps_for PassesOwn.never rfl (pi_enum (by rfl) T.z_enumerate (pa_cons (pe_slice (r := rSlL K) sl_list (pv 0) (po_some pe_int) (po_some pe_int)) pa_nil)) (pg_tup rfl (pgs_cons (pg_name (i := 2) sc_law_supply.nd rfl (Or.inl rfl)) (pgs_cons (pg_name (i := 3) sc_law_supply.nd rfl (Or.inl rfl)) pgs_nil))) (pss_one (ps_asg (pe_op op_add (pe_ix (r := rIxL K) ix_list (pv 1) (pe_op op_modN (pv 2) pe_int) (fun _ _ => rfl)) (pe_callB call_abs rfl T.z_abs (by decide +kernel) (pa_cons (pv 3) pa_nil))) (pg_sub (pv 1) (pe_op op_modN (pv 2) pe_int) set_list))))
      (pss_one (ps_ret (pe_lst (pa_cons (pv 1) (pa_cons pe_int (pa_cons pe_int pa_nil)))))))), ?_⟩
  refine ⟨_, rfl, _, rfl, a, _, rfl, hS, ?_⟩
  walk_at "new 0"
  obtain ⟨m0, e0, l0⟩ := cut_map V.int ns none (some 18)
  rw [HT.sIx_none, List.drop_zero, Nat.sub_zero] at l0
  have g0 : m0.length = min 18 ns.length := by
    rw [l0, List.length_take]
    show min (HT.sIx ns.length ns.length (some ((18 : Nat) : Int))) ns.length = _
    rw [HT.sIx_nat]
    omega
  have h0 : H0 p0 = some (.lst (m0.map V.int)) := by rw [h0]; exact congrArg (fun l => some (HO.lst l)) e0
  refine ⟨p0, rfl, ⟨_, .of h0⟩, fun D hD => ?_⟩
  refine lc_pure (walk_list (K := K) (a := p0) (xs := m0.map V.int)) hD (fun i y _ => ∃ k : Int, y = .int k) (fun _ _ _ _ _ h => h) (by rw [List.length_map]; omega) (fun H2 s2 => .of (s2 _ _ h0)) (fun i x H2 H3 _ ⟨e, _⟩ => by rw [e]; exact Same.refl _) ?_ (fun x H A B m h => m _ _ h) ?_
  · rintro i x H2 _ hi s2 ⟨rfl, hx⟩
    obtain ⟨z, hz, rfl⟩ := map_get hx
    exact ⟨rfl, Same.refl _, fun Q' h => ⟨_, rfl, z, rfl, h _ _ (Same.refl _) ⟨_, rfl⟩⟩⟩
  intro ys H1 s1 h1 hl hy
  obtain ⟨ms, rfl⟩ := ints_of hy
  rw [List.length_map, List.length_map, g0] at hl
  have nD : H D = none := s0.free hD
  have s01 := s0.trans s1
  refine ⟨_, rfl, _, rfl, _, rfl, a, _, rfl, s01.seq hS, ?_⟩
  walk_at "new 2"
  obtain ⟨m2, e2, l2⟩ := cut_map V.int ns (some 18) (some 63)
  have g2 : m2.length ≤ ns.length - 18 := by
    rw [l2, List.length_take, List.length_drop]
    have : HT.sIx ns.length 0 (some ((18 : Nat) : Int)) = min 18 ns.length := by rw [HT.sIx_nat]
    have : HT.sIx ns.length 0 (some (18 : Int)) = min 18 ns.length := this
    omega
  have h2 : H2 p2 = some (.lst (m2.map V.int)) := by rw [h2]; exact congrArg (fun l => some (HO.lst l)) e2
  refine ⟨p2, _, rfl, .of h2, ?_⟩
  have Dp2 : D ≠ p2 := fun y => by rw [← y, h1] at n2; cases n2
  refine for_it (walk_enum (K := K) (a := p2) (xs := m2.map V.int)) (fun i σ H' => ∃ (ks : List Int) (v2 v3 : Option V), σ = [some (.ref a), some (.ref D), v2, v3] ∧ Same H H' ∧ H' D = some (.lst (ks.map V.int)) ∧ ks.length = ms.length ∧ H' p2 = some (.lst (m2.map V.int)))
    ⟨ms, _, _, rfl, s01.trans s2, s2 _ _ h1, rfl, h2⟩ ?_ ?_ ?_
  · rintro i σ H' _ ⟨_, _, _, _, _, _, _, h⟩
    exact .of h
  · rintro i x σ H4 H5 hi ⟨ks, v2, v3, rfl, s4, h4, k4, g4⟩ ⟨tt, x1, y1, rfl, nt, rfl, f1, f2⟩
    have f1 := Option.some.inj f1
    subst f1
    obtain ⟨z, hz, rfl⟩ := map_get f2
    rw [List.length_map] at hi
    have k18 : ks.length = 18 := by omega
    have s5 := same_new (o := .tup [.int (i : Int), .int z]) nt
    have s45 := s4.trans s5
    have h5 := s5 _ _ h4
    have g5 := s5 _ _ g4
    refine ⟨tt, _, rfl, .of upd_same, rfl, _, _, rfl, _, _, rfl, rfl, ?_⟩
    generalize upd H4 tt (.tup [.int (i : Int), .int z]) = H5 at s5 s45 h5 g5
    have fm : (i : Int).fmod 18 = ((i % 18 : Nat) : Int) := by rw [Int.fmod_eq_emod_of_nonneg _ (by decide)]; omega
    have li : i % 18 < ks.length := by omega
    refine ⟨_, rfl, _, rfl, _, _, rfl, rfl, (by show (18 : Int) ≠ 0; decide), ?_⟩
    refine ⟨D, _, _, _, rfl, rfl, .of h5, (show atI (ks.map V.int) ((i : Int).fmod 18) = some (.int ks[i % 18]) by rw [fm]; exact atI_nat (by rw [List.getElem?_map, List.getElem?_eq_getElem li] <;> rfl)), ?_⟩
    refine ⟨_, rfl, z, rfl, _, _, rfl, rfl, ?_⟩
    refine ⟨_, rfl, _, rfl, _, _, rfl, rfl, (by show (18 : Int) ≠ 0; decide), ?_⟩
    refine ⟨D, _, _, i % 18, rfl, rfl, h5, (show ixN (ks.map V.int).length ((i : Int).fmod 18) = some (i % 18) by rw [fm]; exact ixn_nat (by rw [List.length_map]; exact li)), ?_⟩
    refine ⟨_, _, _, rfl, same_updN s45 nD, upd_same.trans (by rw [List.map_set]), by rw [List.length_set]; exact k4, by rw [upd_ne Dp2.symm]; exact g5⟩
  · rintro σ H4 ⟨ks, v2, v3, rfl, s4, h4, k4, g4⟩
    refine ⟨_, rfl, sz 3, ?_⟩
    walk_at "new 5"
    exact q p5 _ (s4.trans s5) (s4.free n5) ⟨D, ks, 0, 0, h5, (fun y => by rw [← y, h4] at n5; cases n5), .of (s5 _ _ h4), by omega, Nat.le_refl _, Kf.refl _⟩
def spBelow (K : PySem.W.Frag) : Sp := fun vs H Q _ => ∃ (H0 : Hp) (p : Addr) (size n : Nat), vs = [.ref p, .int (size : Int)] ∧ SupAt K H0 H p n ∧ n < topN ∧ 0 < size ∧ size < topN ∧ ∀ (r : Nat) H', r < size → Kp p H H' → SupAt K H0 H' p (n + 1) → Q (.int (r : Int)) H'
abbrev N_law_below : List Str := ["_law_supply_here", "_law_size", "_law_numbers", "_law_index", "_law_number", "_law_found"]
theorem sc_law_below : FnScope N_law_below ["_law_supply_here", "_law_size"] (defScope s_law_below) := ⟨rfl, rfl, rfl, by decide +kernel, rfl, by decide +kernel, by decide +kernel⟩
theorem b_law_below (T : Tx K mg) : Binds K T.fd_law_below ["_law_supply_here", "_law_size"] [] := T.F_law_below.bindsN fun _ _ _ _ _ _ us hl => match us, hl with | [_, _], _ => rfl
theorem ok_law_below (T : Tx K mg) : FnOk P w K mg base CX0 2 (He.ga K "_law_below") T.fd_law_below ["_law_supply_here", "_law_size"] (spBelow K) := by
  refine T.F_law_below.ok sc_law_below (fun vs H Q E h => ?_) (fun cdv A outer s H vs Q E hr h => ?_)
  · obtain ⟨_, p, size, n, rfl, _⟩ := h
    rfl
  obtain ⟨H0, p, size, n, rfl, ⟨qn, ns, i, r, hp, hq, hS0, hn, hi, k0⟩, nn, sp0, sp1, q⟩ := h
  have hS := sq_kp hS0 k0 hq
  refine ⟨_, PSs.nox (pss_cons (ps_if (pt_cmpR (op_lt) (pe_ix (r := rIxL K) ix_list (pv 0) pe_int (fun _ _ => rfl)) (pv 1) (nomark _)) (pss_cons (ps_par (i := 2) (j := 3) (by rfl) sc_law_below.nd rfl rfl (by decide) rfl rfl (pa_cons (pe_ix (r := rIxL K) ix_list (pv 0) pe_int (fun _ _ => rfl)) (pa_cons (pe_ix (r := rIxL K) ix_list (pv 0) pe_int (fun _ _ => rfl)) pa_nil)) (by rfl))
      (pss_cons (ps_set (i := 4) sc_law_below.nd rfl (Or.inl rfl) (pe_ifExp (pt_cmpR (r := rNeD K) (op_neD hr.units) (pv 2) (pe_lst pa_nil) (nomark _)) (pe_ix (r := rIxL K) ix_list (pv 2) (pe_op op_modN (pv 3) (pe_callB (call_lenQ (K := K) rfl) rfl T.z_len PySem.boot_len (pa_cons (pv 2) pa_nil))) (fun _ _ => rfl)) pe_int))
      (pss_cons (ps_if (PW.pt (pw_or (pt_cmpR (op_lt) (pv 4) (pe_op op_pow pe_int pe_int) (nomark _)) (pw_or1 (pt_cmpR (op_ge) (pv 3) (pe_callB (call_lenQ (K := K) rfl) rfl T.z_len PySem.boot_len (pa_cons (pv 2) pa_nil)) (nomark _))))) (pss_one (ps_set (i := 4) sc_law_below.nd rfl (Or.inl rfl) (pe_call (ok_law_blended T) (hr.mono (by decide)) rfl T.g_law_blended T.F_law_blended.kp (b_law_blended T) .nil pass0 (pa_cons (pe_op op_add (pe_op op_modN (pv 4) (pe_op op_pow pe_int pe_int)) (pe_op op_fdivW (pv 3) (pe_op op_add (pe_callB (call_lenQ (K := K) rfl) rfl T.z_len PySem.boot_len (pa_cons (pv 2) pa_nil)) pe_int))) (pa_cons (pv 3) pa_nil))))) pss_nil)
      (pss_cons (ps_asg (pe_op op_add (pv 3) pe_int) (pg_sub (pv 0) pe_int set_list))
      (pss_one (ps_asg (pv 4) (pg_sub (pv 0) pe_int set_list))))))) pss_nil)
      (pss_cons (ps_set (i := 5) sc_law_below.nd rfl (Or.inl rfl) (pe_op op_modN (pe_ix (r := rIxL K) ix_list (pv 0) pe_int (fun _ _ => rfl)) (pv 1)))
      (pss_cons (ps_asg (pe_op op_fdivW (pe_ix (r := rIxL K) ix_list (pv 0) pe_int (fun _ _ => rfl)) (pv 1)) (pg_sub (pv 0) pe_int set_list))
      (pss_one (ps_ret (pv 5)))))), ?_⟩
  refine seq_join (fun σ' H' => ∃ (r' : Int) (i' : Nat) (v2 v3 v4 : Option V), σ' = [some (.ref p), some (.int (size : Int)), v2, v3, v4, none] ∧ Kp p H H' ∧ H' p = some (.lst [.ref qn, .int (i' : Int), .int r']) ∧ i' ≤ n + 1) ?_ ?_
  · rintro σ1 H1 ⟨r', i', v2, v3, v4, rfl, k1, h1, hi'⟩
    have tN := tN
    have zp : ((size : Int)) ≠ 0 := by omega
    refine ⟨_, rfl, p, _, _, _, rfl, rfl, .of h1, atI_nat (j := 2) rfl, _, rfl, _, _, rfl, rfl, zp, ?_⟩
    refine ⟨_, rfl, p, _, _, _, rfl, rfl, .of h1, atI_nat (j := 2) rfl, _, rfl, _, _, rfl, rfl, wide_div (b := 60) (by omega) (by show _ < topN; omega) (by decide) (by decide), ?_⟩
    refine ⟨_, rfl, p, _, _, 2, rfl, rfl, h1, rfl, ?_⟩
    have fe : r'.fmod (size : Int) = ((r'.emod (size : Int)).toNat : Int) := by
      rw [Int.fmod_eq_emod_of_nonneg _ (by omega)]
      have := Int.emod_nonneg r' zp
      exact (Int.toNat_of_nonneg this).symm
    have q2 := q (r'.emod (size : Int)).toNat (upd H1 p (.lst [.ref qn, .int (i' : Int), .int (r' / (size : Int))])) ?_ (k1.trans (Kf.upd rfl)) ⟨qn, ns, i', _, upd_same, hq, hS0, hn, hi', k0.trans (k1.trans (Kf.upd rfl))⟩
    · rw [← fe] at q2
      exact ⟨_, rfl, q2⟩
    have h2 := Int.emod_lt_of_pos r' (b := (size : Int)) (by omega)
    have h3 := Int.emod_nonneg r' zp
    show (r' % (size : Int)).toNat < size
    omega
  · intro nx hnx
    refine ⟨_, rfl, p, _, _, _, rfl, rfl, .of hp, atI_nat (j := 2) rfl, _, rfl, _, _, rfl, rfl, _, rfl, ?_⟩
    by_cases c : r < (size : Int)
    case neg =>
      refine ifF (decide_eq_false c) ?_
      exact hnx _ _ ⟨r, i, none, none, none, rfl, Kf.refl _, hp, by omega⟩
    refine ifT (decide_eq_true c) ?_
    refine ⟨_, rfl, p, _, _, _, rfl, rfl, .of hp, atI_nat (j := 0) rfl, _, rfl, p, _, _, _, rfl, rfl, .of hp, atI_nat (j := 1) rfl, _, _, rfl, ?_⟩
    dsimp only
    refine seq_join (fun σ' H' => ∃ m : Int, σ' = [some (.ref p), some (.int (size : Int)), some (.ref qn), some (.int (i : Int)), some (.int m), none] ∧ Same H H') ?_ ?_
    case refine_2 =>
      intro nx2 hn2
      refine ⟨_, rfl, sz 0, ?_⟩
      walk_at "new 0"
      refine ⟨.list (ns.map PyData.int), .list [], .lst (s0.seq hS) (dp_ints _ ns), .lst (.of h0) .nil, shaped_ints ns, by decide, _, rfl, ?_⟩
      cases ns with
      | nil => exact ifF rfl (hn2 _ _ ⟨_, rfl, s0⟩)
      | cons k ks =>
        refine ifT rfl ?_
        refine ⟨_, rfl, _, rfl, _, rfl, qn, _, rfl, .inl (s0.seq hS), _, _, rfl, rfl, (by show ((((k :: ks).map V.int).length : Nat) : Int) ≠ 0; rw [List.length_map]; simp; omega), ?_⟩
        have fm : (i : Int).fmod ((((k :: ks).map V.int).length : Nat) : Int) = ((i % (k :: ks).length : Nat) : Int) := by rw [List.length_map, Int.fmod_eq_emod_of_nonneg _ (by omega)]; omega
        have li : i % (k :: ks).length < (k :: ks).length := Nat.mod_lt _ (by simp)
        exact ⟨qn, _, _, _, rfl, rfl, s0.seq hS, (show atI ((k :: ks).map V.int) ((i : Int).fmod ((((k :: ks).map V.int).length : Nat) : Int)) = some (.int (k :: ks)[i % (k :: ks).length]) by rw [fm]; exact atI_nat (by rw [List.getElem?_map, List.getElem?_eq_getElem li] <;> rfl)), hn2 _ _ ⟨_, rfl, s0⟩⟩
    rintro σ1 H1 ⟨m, rfl, s1⟩
    try dsimp only
    refine seq_join (fun σ' H' => ∃ m : Int, σ' = [some (.ref p), some (.int (size : Int)), some (.ref qn), some (.int (i : Int)), some (.int m), none] ∧ H' = H1) ?_ ?_
    · rintro σ1 H2 ⟨m, rfl, rfl⟩
      refine ⟨_, rfl, _, _, rfl, rfl, _, rfl, p, _, _, 1, rfl, rfl, s1 _ _ hp, rfl, ?_⟩
      refine ⟨_, rfl, _, rfl, p, _, _, 2, rfl, rfl, upd_same, rfl, ?_⟩
      exact hnx _ _ ⟨m, i + 1, _, _, _, rfl, ((Kf.of s1).trans (Kf.upd (F := fun a => a = p) rfl)).trans (Kf.upd (F := fun a => a = p) rfl), upd_same, by omega⟩
    · intro nx2 hn2
      have cp : ∀ j : Nat, j ≤ 1000000 → CPow 10 (j : Int) := fun j h => ⟨by omega, by omega, by decide⟩
      have hl : (ns.map V.int).length ≤ 18 := by rw [List.length_map]; exact hn
      have tN := tN
      have p15 : (10 : Int) ^ (15 : Int).toNat = 1000000000000000 := by decide
      refine ⟨_, rfl, _, _, rfl, rfl, cp 18 (by decide), _, _, rfl, rfl, _, rfl, ?_⟩
      by_cases c1 : m < (10 : Int) ^ (18 : Int).toNat
      case' pos => refine ifT (decide_eq_true c1) (ifT rfl ?_)
      case' neg =>
        refine ifF (decide_eq_false c1) ?_
        refine ⟨_, rfl, _, rfl, qn, _, rfl, .inl (s1.seq hS), _, _, rfl, rfl, _, rfl, ?_⟩
        by_cases c2 : (((ns.map V.int).length : Nat) : Int) ≤ (i : Int)
        case neg => exact ifF (decide_eq_false c2) (hn2 _ _ ⟨_, rfl, rfl⟩)
        refine ifT (decide_eq_true c2) ?_
      all_goals
        refine ⟨_, rfl, _, _, rfl, rfl, cp 15 (by decide), _, _, rfl, rfl, (show (10 : Int) ^ (15 : Int).toNat ≠ 0 by rw [p15]; decide), ?_⟩
        refine ⟨_, rfl, _, rfl, qn, _, rfl, .inl (s1.seq hS), _, _, rfl, rfl, ?_⟩
        refine ⟨_, _, rfl, rfl, wide_div (b := 60) (by omega) (by show _ < topN; omega) (by decide) (by decide), _, _, rfl, rfl, _, rfl, ?_⟩
        refine ⟨_, _, rfl, ?_, by show _ < 1180591620717411303424; omega, fun r => hn2 _ _ ⟨r, rfl, rfl⟩⟩
        show (m.fmod ((10 : Int) ^ (15 : Int).toNat) + (i : Int) / ((((ns.map V.int).length : Nat) : Int) + 1)).natAbs < 1180591620717411303424
        rw [p15, Int.fmod_eq_emod_of_nonneg _ (by decide)]
        have h1 := Int.emod_nonneg m (b := 1000000000000000) (by decide)
        have h2 := Int.emod_lt_of_pos m (b := 1000000000000000) (by decide)
        have h3 : (i : Int) / ((((ns.map V.int).length : Nat) : Int) + 1) ≤ i := Int.ediv_le_self _ (by omega)
        have h4 : 0 ≤ (i : Int) / ((((ns.map V.int).length : Nat) : Int) + 1) := Int.ediv_nonneg (by omega) (by omega)
        omega
def spOne (K : PySem.W.Frag) : Sp := fun vs H Q _ => ∃ (H0 : Hp) (p o : Addr) (xs : List V) (n : Nat), vs = [.ref p, .ref o] ∧ SupAt K H0 H p n ∧ n < topN ∧ H o = some (.lst xs) ∧ o ≠ p ∧ 0 < xs.length ∧ xs.length < topN ∧ ∀ x H', x ∈ xs → Kp p H H' → SupAt K H0 H' p (n + 1) → Q x H'
abbrev N_law_one_of : List Str := ["_law_supply_here", "_law_options"]
theorem sc_law_one_of : FnScope N_law_one_of ["_law_supply_here", "_law_options"] (defScope s_law_one_of) := ⟨rfl, rfl, rfl, by decide +kernel, rfl, by decide +kernel, by decide +kernel⟩
theorem b_law_one_of (T : Tx K mg) : Binds K T.fd_law_one_of ["_law_supply_here", "_law_options"] [] := T.F_law_one_of.bindsN fun _ _ _ _ _ _ us hl => match us, hl with | [_, _], _ => rfl
theorem ok_law_one_of (T : Tx K mg) : FnOk P w K mg base CX0 3 (He.ga K "_law_one_of") T.fd_law_one_of ["_law_supply_here", "_law_options"] (spOne K) := by
  refine T.F_law_one_of.ok sc_law_one_of (fun vs H Q E h => ?_) (fun cdv A outer s H vs Q E hr h => ?_)
  · obtain ⟨_, p, o, xs, n, rfl, _⟩ := h
    rfl
  obtain ⟨H0, p, o, xs, n, rfl, hs, hn, ho, op, l0, l1, q⟩ := h
  refine ⟨_, PSs.nox (pss_one (ps_ret (pe_ix (r := rIxL K) ix_list (pv 1) (pe_call (ok_law_below T) (hr.mono (by decide)) rfl T.g_law_below T.F_law_below.kp (b_law_below T) .nil pass0 (pa_cons (pv 0) (pa_cons (pe_callB (call_lenQ (K := K) rfl) rfl T.z_len PySem.boot_len (pa_cons (pv 1) pa_nil)) pa_nil))) (fun _ _ => rfl)))), ?_⟩
  refine ⟨_, rfl, _, rfl, _, rfl, o, _, rfl, .inl (.of ho), H0, p, xs.length, n, rfl, hs, hn, l0, l1, fun r H' hr k h => ?_⟩
  exact ⟨o, _, _, _, rfl, rfl, .of (k _ _ op ho), atI_nat (List.getElem?_eq_getElem hr), q _ _ (List.getElem_mem hr) k h⟩
end
end Kw

set_option Elab.async false
set_option linter.all false
set_option maxRecDepth 100000
set_option maxHeartbeats 4000000
namespace Kw
open PySem PySem.Spec PyProof.Rows L2
local macro_rules | `(tactic| walk_at $s:str) => do
  match s.getString.splitOn " " with
  | ["new", a] =>
    let p := Lean.mkIdent (Lean.Name.mkSimple ("p" ++ a))
    let n := Lean.mkIdent (Lean.Name.mkSimple ("n" ++ a))
    let H := Lean.mkIdent (Lean.Name.mkSimple ("H" ++ a))
    let s := Lean.mkIdent (Lean.Name.mkSimple ("s" ++ a))
    let h := Lean.mkIdent (Lean.Name.mkSimple ("h" ++ a))
    `(tactic| (intro $p $n; generalize e : upd _ $p _ = $H; have $s : Same _ $H := e ▸ same_new $n; have $h : $H $p = some _ := e ▸ upd_same; clear e))
  | _ => Lean.Macro.throwUnsupported
/-! ### how long lines are -/
structure Ln (b : Nat) (z : Str) : Prop where
  len : (tl z).length ≤ b
  no : 10 ∉ tl z
theorem Ln.more {a b : Nat} {z : Str} (h : Ln a z) (l : a ≤ b) : Ln b z := ⟨Nat.le_trans h.len l, h.no⟩
theorem Ln.app {a b : Nat} {x y : Str} (h : Ln a x) (g : Ln b y) : Ln (a + b) (x ++ y) := by
  refine ⟨?_, ?_⟩
  · show (TL.tl (x ++ y)).length ≤ _
    rw [TL.tl_append, List.length_append]
    exact Nat.add_le_add h.len g.len
  · show 10 ∉ TL.tl (x ++ y)
    rw [TL.tl_append, List.mem_append]
    exact fun m => m.elim h.no g.no
theorem tl_rep (z : Str) (k : Nat) : tl (repS z k) = (List.replicate k (tl z)).flatten := rfl
theorem ln_rep {a : Nat} {z : Str} (h : Ln a z) (k : Nat) : Ln (k * a) (repS z k) := by
  refine ⟨?_, ?_⟩
  · rw [tl_rep, List.length_flatten, List.map_replicate, List.sum_replicate_nat]
    exact Nat.mul_le_mul_left _ h.len
  · rw [tl_rep]
    intro m
    obtain ⟨l, h1, h2⟩ := List.mem_flatten.mp m
    rw [List.eq_of_mem_replicate h1] at h2
    exact h.no h2
def sumL (ls : List Str) : Nat := (ls.map (·.length)).sum
structure Wd (n s : Nat) (ls : List Str) : Prop where
  cnt : ls.length ≤ n
  sum : sumL ls ≤ s
  no : ∀ z ∈ ls, 10 ∉ tl z
theorem sumL_app (a b : List Str) : sumL (a ++ b) = sumL a + sumL b := by unfold sumL; rw [List.map_append, List.sum_append]
theorem Wd.app {n s m t : Nat} {a b : List Str} (h : Wd n s a) (g : Wd m t b) : Wd (n + m) (s + t) (a ++ b) :=
  ⟨by rw [List.length_append]; exact Nat.add_le_add h.cnt g.cnt, by rw [sumL_app]; exact Nat.add_le_add h.sum g.sum, fun z m => (List.mem_append.mp m).elim (h.no z) (g.no z)⟩
theorem sum_sub {l' l : List Str} (h : l'.Sublist l) : sumL l' ≤ sumL l := by
  induction h with
  | slnil => exact Nat.le_refl _
  | cons a _ ih => unfold sumL at *; rw [List.map_cons, List.sum_cons]; omega
  | cons_cons a _ ih => unfold sumL at *; rw [List.map_cons, List.sum_cons, List.map_cons, List.sum_cons]; omega
theorem Wd.sub {n s : Nat} {l' l : List Str} (h : Wd n s l) (u : l'.Sublist l) : Wd n s l' :=
  ⟨Nat.le_trans u.length_le h.cnt, Nat.le_trans (sum_sub u) h.sum, fun z m => h.no z (u.subset m)⟩
theorem Wd.rev {n s : Nat} {l : List Str} (h : Wd n s l) : Wd n s l.reverse := by
  refine ⟨by rw [List.length_reverse]; exact h.cnt, ?_, fun z m => h.no z (List.mem_reverse.mp m)⟩
  have : sumL l.reverse = sumL l := by unfold sumL; rw [List.map_reverse, List.sum_reverse]
  rw [this]; exact h.sum
theorem joinL_mem {c : Nat} {S : List Nat} : ∀ {ps : List (List Nat)}, c ∈ TL.joinL S ps → c ∈ S ∨ ∃ p ∈ ps, c ∈ p
  | [], h => absurd h (List.not_mem_nil)
  | [p], h => .inr ⟨p, List.mem_singleton.mpr rfl, h⟩
  | p :: q :: r, h => by
    rcases List.mem_append.mp h with h | h
    · exact .inr ⟨p, List.mem_cons_self .., h⟩
    rcases List.mem_append.mp h with h | h
    · exact .inl h
    rcases joinL_mem h with h | ⟨x, hx, h⟩
    · exact .inl h
    · exact .inr ⟨x, List.mem_cons_of_mem _ hx, h⟩
theorem mem_joinL {c : Nat} {S : List Nat} : ∀ {ps : List (List Nat)} {p : List Nat}, p ∈ ps → c ∈ p → c ∈ TL.joinL S ps
  | [p], q, h, m => by rw [List.mem_singleton.mp h] at m; exact m
  | p :: q :: r, x, h, m => by
    rcases List.mem_cons.mp h with rfl | h
    · exact List.mem_append_left _ m
    · exact List.mem_append_right _ (List.mem_append_right _ (mem_joinL h m))
theorem len_joinL {S : List Nat} (hS : S.length = 1) : ∀ {ps : List (List Nat)}, ps ≠ [] → (TL.joinL S ps).length + 1 = (ps.map List.length).sum + ps.length
  | [], h => absurd rfl h
  | [p], _ => by show p.length + 1 = (p.length + 0) + 1; omega
  | p :: q :: r, _ => by
    have := len_joinL hS (ps := q :: r) (List.cons_ne_nil _ _)
    show (p ++ (S ++ TL.joinL S (q :: r))).length + 1 = _
    rw [List.length_append, List.length_append, hS]
    simp only [List.map_cons, List.sum_cons, List.length_cons] at this ⊢
    omega
theorem tl_join' (y : Str) (ls : List Str) : tl (Txt.join y ls) = TL.joinL (tl y) (ls.map tl) := by
  show TL.tl (Txt.join y ls) = _
  rw [TL.join_eq, TL.tl_join]
theorem sum_tl (ls : List Str) : ((ls.map tl).map List.length).sum = sumL ls := by unfold sumL; rw [List.map_map]; rfl
theorem wd_join {n s : Nat} {ls : List Str} (h : Wd n s ls) : Ln (s + n) (Txt.join " " ls) := by
  refine ⟨?_, ?_⟩
  · rw [tl_join']
    cases ls with
    | nil => exact Nat.zero_le _
    | cons x xs =>
      have := len_joinL (S := tl " ") (by decide +kernel) (ps := (x :: xs).map tl) (by simp)
      rw [sum_tl, List.length_map] at this
      have h1 := h.cnt
      have h2 := h.sum
      omega
  · rw [tl_join']
    intro m
    rcases joinL_mem m with m | ⟨p, hp, m⟩
    · exact absurd m (by decide +kernel)
    · obtain ⟨z, hz, rfl⟩ := List.mem_map.mp hp
      exact h.no z hz m
theorem wd_split {b : Nat} {z : Str} (h : Ln b z) : Wd (b + 1) b (Txt.split z " ") ∧ Txt.split z " " ≠ [] := by
  have e := congrArg tl (StrLaws.join_split z " ")
  rw [show Str.join " " (Txt.split z " ") = Txt.join " " (Txt.split z " ") from (TL.join_eq _ _).symm, tl_join'] at e
  have ne : Txt.split z " " ≠ [] := by
    have e2 := TL.split_spl z " " (by decide +kernel) (TL.kind_ok (by decide +kernel))
    intro y
    rw [y] at e2
    have key : ∀ (l acc : List Nat) (k : Nat), TL.spl (tl " ") k acc l ≠ [] := by
      intro l
      induction l with
      | nil => intro acc k; simp [TL.spl]
      | cons c cs ih =>
        intro acc k
        cases k with
        | zero => unfold TL.spl; split <;> simp_all
        | succ k => unfold TL.spl; exact ih _ _
    exact key _ _ _ e2.symm
  have l := len_joinL (S := tl " ") (by decide +kernel) (ps := (Txt.split z " ").map tl) (fun y => ne (List.map_eq_nil_iff.mp y))
  rw [e, sum_tl, List.length_map] at l
  have hl := h.len
  have n1 : 0 < (Txt.split z " ").length := Nat.pos_of_ne_zero fun y => ne (List.eq_nil_of_length_eq_zero y)
  refine ⟨⟨by omega, by omega, fun x m => fun c => h.no ?_⟩, ne⟩
  rw [← e]
  exact mem_joinL (List.mem_map_of_mem m) c
theorem sz_app {x y : Str} {a b : Nat} (h : Ln a x) (g : Ln b y) (l : a + b ≤ 1000000) : x.length + y.length ≤ sizeLine := by
  have h1 : x.length ≤ a := h.len
  have h2 : y.length ≤ b := g.len
  have : (1000000 : Nat) ≤ sizeLine := by decide
  omega
theorem ln_sp (k : Nat) : Ln k (repS " " k) := by
  have := ln_rep (a := 1) (z := " ") ⟨by decide +kernel, by decide +kernel⟩ k
  rwa [Nat.mul_one] at this
theorem ln_dec {b : Nat} {z : Str} (h : decide ((tl z).length ≤ b ∧ 10 ∉ tl z) = true) : Ln b z := ⟨(of_decide_eq_true h).1, (of_decide_eq_true h).2⟩
theorem ln_all {b : Nat} {ls : List Str} (h : (ls.all fun z => decide ((tl z).length ≤ b ∧ 10 ∉ tl z)) = true) : ∀ t ∈ ls, Ln b t := fun t m => ln_dec (List.all_eq_true.mp h t m)
theorem sup_in {K : PySem.W.Frag} {H0 H H' : Hp} {p a : Addr} {n : Nat} {u : HO} (h : SupAt K H0 H p n) (f : H a = none) (k : Kp p H H') (e : H' a = some u) : H0 a = none ∧ a ≠ p := ⟨h.free f, h.apart f⟩
theorem kp_updN {H H' : Hp} {p D : Addr} {u : HO} (k : Kp p H H') (n : H D = none) : Kp p H (upd H' D u) := fun a o m e => by
  rw [upd_ne (fun z => by rw [z, n] at e; cases e)]
  exact k a o m e
def spSpaced (K : PySem.W.Frag) : Sp := fun vs H Q _ => ∃ (H0 : Hp) (p : Addr) (z : Str) (n b : Nat), vs = [.ref p, .str z] ∧ SupAt K H0 H p n ∧ n + b + 10 < topN ∧ Ln b z ∧ b ≤ 100000 ∧ ∀ z' H', Ln (4 * b + 20) z' → Kp p H H' → SupAt K H0 H' p (n + b + 5) → Q (.str z') H'
section
variable {P : Program} {w : World} {K : PySem.W.Frag} {mg : Str → Option Value} {base : Heap}
abbrev N_law_spaced : List Str := ["_law_supply_here", "_law_line_here", "_law_words", "_law_word"]
theorem sc_law_spaced : FnScope N_law_spaced ["_law_supply_here", "_law_line_here"] (defScope s_law_spaced) := ⟨rfl, rfl, rfl, by decide +kernel, rfl, by decide +kernel, by decide +kernel⟩
theorem b_law_spaced (T : Tx K mg) : Binds K T.fd_law_spaced ["_law_supply_here", "_law_line_here"] [] := T.F_law_spaced.bindsN fun _ _ _ _ _ _ us hl => match us, hl with | [_, _], _ => rfl
theorem ok_law_spaced (T : Tx K mg) : FnOk P w K mg base CX0 4 (He.ga K "_law_spaced") T.fd_law_spaced ["_law_supply_here", "_law_line_here"] (spSpaced K) := by
  refine T.F_law_spaced.ok sc_law_spaced (fun vs H Q E h => ?_) (fun cdv A outer s H vs Q E hr h => ?_)
  · obtain ⟨_, p, z, n, b, rfl, _⟩ := h
    rfl
  obtain ⟨Hb, p, z, n, b, rfl, hs, hn, hz, hb, q⟩ := h
  refine ⟨_, PSs.nox (pss_cons (ps_setLc (i := 2) (own := [("_law_word", 3)]) (g := (gName 3)) (tt := tYes) (by rfl) sc_law_spaced.nd rfl rfl (sw_true rfl rfl rfl (by decide +kernel)) (pi_list (pe_split (pv 1) pe_str)) (blkOk_by (own := [("_law_word", 3)]) (N := N_law_spaced) (sc := (defScope s_law_spaced)) (by decide +kernel)) (fun _ _ _ _ _ => (pg_name (i := 3) sc_law_spaced.nd rfl (Or.inl rfl))) (fun _ _ _ _ _ => pts_nil) (fun _ _ _ _ _ => (pe_op op_add_str (pv 3) (pe_op op_repS pe_str (pe_call (ok_law_below T) (hr.mono (by decide)) rfl T.g_law_below T.F_law_below.kp (b_law_below T) .nil pass0 (pa_cons (pv 0) (pa_cons pe_int pa_nil)))))))
      (pss_one (ps_ret (pe_op op_add_str (pe_op op_add_str (pe_op op_repS pe_str (pe_call (ok_law_below T) (hr.mono (by decide)) rfl T.g_law_below T.F_law_below.kp (b_law_below T) .nil pass0 (pa_cons (pv 0) (pa_cons pe_int pa_nil)))) (pe_join pe_str (pv 2))) (pe_call (ok_law_one_of T) (hr.mono (by decide)) rfl T.g_law_one_of T.F_law_one_of.kp (b_law_one_of T) .nil pass0 (pa_cons (pv 0) (pa_cons (pe_lst (pa_cons pe_str (pa_cons pe_str (pa_cons pe_str pa_nil)))) pa_nil))))))), ?_⟩
  have tN := tN
  have zl : z.length ≤ 100000 := Nat.le_trans hz.len hb
  refine ⟨_, rfl, ⟨_, rfl⟩, z, _, rfl, rfl, by decide +kernel, Nat.le_trans (Nat.add_le_add_right zl 2) (by decide), ?_⟩
  walk_at "new 0"
  obtain ⟨wd, ne⟩ := wd_split hz
  generalize Txt.split z " " = raw at h0 wd ne
  refine ⟨p0, rfl, ⟨_, .of h0⟩, fun D hD => ?_⟩
  have hs0 := hs.same s0
  have D0 : Hb D = none := hs0.free hD
  have Dnp := hs0.apart hD
  have Hp0 : p0 ≠ p := hs.apart n0
  have D01 : D ≠ p0 := fun y => by rw [← y, hD] at h0; cases h0
  have nD : H D = none := s0.free hD
  refine lc_it (walk_list (K := K) (a := p0) (xs := raw.map V.str)) (fun i H' => ∃ ws : List Str, H' D = some (.lst (ws.map V.str)) ∧ ws.length = i ∧ sumL ws ≤ sumL (raw.take i) + 2 * i ∧ (∀ x ∈ ws, 10 ∉ tl x) ∧ Kp p H H' ∧ SupAt K Hb H' p (n + i) ∧ H' p0 = some (.lst (raw.map V.str)))
    ⟨[], upd_same, rfl, Nat.zero_le _, fun _ m => absurd m (List.not_mem_nil), (Kf.of (same_updN s0 nD)), hs0.upd D0 Dnp, by rw [upd_ne D01.symm]; exact h0⟩ (fun i H' _ h => let ⟨_, _, _, _, _, _, _, e⟩ := h; .of e) ?_ ?_
  · rintro i x H2 _ hi ⟨ws, e1, e2, e3, e4, e5, e6, e7⟩ ⟨rfl, hx⟩
    obtain ⟨y, hy, rfl⟩ := map_get hx
    have iy : i < raw.length := (List.getElem?_eq_some_iff.mp hy).1
    have ym := List.mem_of_getElem? hy
    have rc := wd.cnt
    have ylen : (tl y).length ≤ 100000 := by
      have h1 := sum_sub (l' := [y]) (l := raw) (List.singleton_sublist.mpr ym)
      have h2 : sumL [y] = (tl y).length := Nat.add_zero _
      have h3 := wd.sum
      omega
    refine ⟨rfl, ?_⟩
    dsimp only [tYes]
    rw [if_pos rfl]
    refine ⟨_, rfl, _, rfl, Hb, p, 3, n + i, rfl, e6, by omega, by decide, by rw [tN]; decide, fun r H3 hr k3 s3 => ?_⟩
    have lw : Ln (r * 1) (repS " " r) := ln_rep ⟨by decide +kernel, by decide +kernel⟩ r
    refine ⟨_, _, rfl, rfl, by omega, by omega, by decide +kernel, _, _, rfl, rfl, sz_app (a := 100000) (b := r * 1) ⟨ylen, wd.no y ym⟩ lw (by omega), ?_⟩
    refine ⟨_, k3 _ _ Dnp e1, by rw [List.length_map, e2]; exact Nat.lt_of_lt_of_le (m := 200000) (by omega) (by decide), ws ++ [y ++ repS " " r], ?_⟩
    refine ⟨by rw [upd_same, List.map_append] <;> rfl, by rw [List.length_append, e2] <;> rfl, ?_, ?_, kp_updN (e5.trans k3) nD, s3.upd D0 Dnp, by rw [upd_ne D01.symm]; exact k3 _ _ Hp0 e7⟩
    · have h1 : raw.take (i + 1) = raw.take i ++ [y] := by rw [List.take_add_one, hy] <;> rfl
      have h2 : sumL [y ++ repS " " r] = (tl (y ++ repS " " r)).length := Nat.add_zero _
      have h3 : sumL [y] = (tl y).length := Nat.add_zero _
      have h4 : (tl (y ++ repS " " r)).length = (tl y).length + (tl (repS " " r)).length := by
        show (TL.tl _).length = _
        rw [TL.tl_append, List.length_append]
      have h5 := lw.len
      rw [h1, sumL_app, sumL_app, h2, h3, h4]
      omega
    · intro x m
      rcases List.mem_append.mp m with m | m
      · exact e4 x m
      · rw [List.mem_singleton.mp m]
        exact (Ln.app (a := 100000) ⟨ylen, wd.no y ym⟩ lw).no
  · rintro H2 ⟨ws, e1, e2, e3, e4, e5, e6, e7⟩
    rw [List.length_map] at e2 e6
    have wj := wd_join (ls := ws) (n := b + 1) (s := b + 2 * (b + 1)) ⟨by rw [e2]; exact wd.cnt, by
      have h1 := sum_sub (List.take_sublist raw.length raw)
      rw [List.length_map] at e3
      have := wd.sum
      have := wd.cnt
      omega, e4⟩
    have rc := wd.cnt
    refine ⟨_, rfl, Hb, p, 6, n + raw.length, rfl, e6, by omega, by decide, by rw [tN]; decide, fun r H3 hr k3 s3 => ?_⟩
    refine ⟨_, _, rfl, rfl, by omega, by omega, by decide +kernel, ?_⟩
    have l1 := ln_sp r
    have jb : sumL ws + ws.length * 1 ≤ 16777216 := by
      have h1 := sum_sub (List.take_sublist raw.length raw)
      rw [List.length_map] at e3
      have := wd.sum
      omega
    refine ⟨⟨_, rfl⟩, _, rfl, " ", D, ws, rfl, rfl, .inl (.of (k3 _ _ Dnp e1)), jb, ?_⟩
    have l2 := l1.app wj
    refine ⟨_, _, rfl, rfl, sz_app l1 wj (by omega), ?_⟩
    refine ⟨_, rfl, sz 3, ?_⟩
    walk_at "new 5"
    refine ⟨Hb, p, p5, _, n + raw.length + 1, rfl, s3.same s5, by omega, h5, s3.apart n5, by decide, by rw [tN]; decide, fun x H6 m k6 s6 => ?_⟩
    obtain ⟨t, ht, rfl⟩ := List.mem_map.mp (show x ∈ ([("" : Str), "", "# end"]).map V.str from m)
    have lt := ln_all (b := 5) (by decide +kernel) t ht
    refine ⟨_, _, rfl, rfl, sz_app l2 lt (by omega), q _ _ ((l2.app lt).more (by omega)) (e5.trans (k3.trans ((Kf.of s5).trans k6))) (s6.more (by omega))⟩
end
end Kw

set_option Elab.async false
set_option linter.all false
set_option maxRecDepth 100000
set_option maxHeartbeats 4000000
namespace Kw
open PySem PySem.Spec PyProof.Rows L2
local macro_rules | `(tactic| walk_at $s:str) => do
  match s.getString.splitOn " " with
  | ["new", a] =>
    let p := Lean.mkIdent (Lean.Name.mkSimple ("p" ++ a))
    let n := Lean.mkIdent (Lean.Name.mkSimple ("n" ++ a))
    let H := Lean.mkIdent (Lean.Name.mkSimple ("H" ++ a))
    let s := Lean.mkIdent (Lean.Name.mkSimple ("s" ++ a))
    let h := Lean.mkIdent (Lean.Name.mkSimple ("h" ++ a))
    `(tactic| (intro $p $n; generalize e : upd _ $p _ = $H; have $s : Same _ $H := e ▸ same_new $n; have $h : $H $p = some _ := e ▸ upd_same; clear e))
  | _ => Lean.Macro.throwUnsupported
/-! ### some lines -/
theorem rep_flat {α : Type} (k : Nat) (v : α) : (List.replicate k [v]).flatten = List.replicate k v := by
  induction k with
  | zero => rfl
  | succ k ih => rw [List.replicate_succ, List.flatten_cons, ih] <;> rfl
theorem kp_free {H H' : Hp} {p a : Addr} (k : Kp p H H') (n : H' a = none) (ne : a ≠ p) : H a = none := by
  cases e : H a with
  | none => rfl
  | some o => rw [k _ _ ne e] at n; cases n
structure Lns (b : Nat) (ls : List Str) : Prop where
  ok : ∀ z ∈ ls, Ln b z
theorem Lns.app {b : Nat} {l m : List Str} (h : Lns b l) (g : Lns b m) : Lns b (l ++ m) := ⟨fun z y => (List.mem_append.mp y).elim (h.ok z) (g.ok z)⟩
theorem Lns.more {a b : Nat} {l : List Str} (h : Lns a l) (y : a ≤ b) : Lns b l := ⟨fun z m => (h.ok z m).more y⟩
theorem Lns.sub {a : Nat} {l' l : List Str} (h : Lns a l) (y : l' ⊆ l) : Lns a l' := ⟨fun z m => h.ok z (y m)⟩
theorem lns_all {b : Nat} {ls : List Str} (h : (ls.all fun z => decide ((tl z).length ≤ b ∧ 10 ∉ tl z)) = true) : Lns b ls := ⟨ln_all h⟩
theorem lns_one {b : Nat} {z : Str} (h : Ln b z) : Lns b [z] := ⟨fun y m => by rw [List.mem_singleton.mp m]; exact h⟩
def spSome (K : PySem.W.Frag) : Sp := fun vs H Q _ => ∃ (Hb : Hp) (p : Addr) (n : Nat), vs = [.ref p] ∧ SupAt K Hb H p n ∧ n + 200 < topN ∧ ∀ q ls H', H q = none → H' q = some (.lst (ls.map V.str)) → ls.length ≤ 68 → Lns 100 ls → Kp p H H' → SupAt K Hb H' p (n + 100) → Q (.ref q) H'
def SmI (K : PySem.W.Frag) (Hb H : Hp) (p p0 : Addr) (n i : Nat) (σ : L2.St) (H' : Hp) : Prop := ∃ (o : Nat) (ls : List Str) (v3 v4 v5 v6 : Option V), σ = [some (.ref p), some (.ref p0), some (.int (o : Int)), v3, v4, v5, v6] ∧ o ≤ i ∧ H' p0 = some (.lst (ls.map V.str)) ∧ ls.length = i ∧ Lns 100 ls ∧ Kp p H H' ∧ SupAt K Hb H' p (n + 1 + 2 * i)
theorem SmI.add {K : PySem.W.Frag} {Hb H H' : Hp} {p p0 : Addr} {n i m o : Nat} {ls : List Str} {t : Str} {v3 v4 v5 v6 : Option V} (l : ls.length = i) (g : Lns 100 ls) (k : Kp p H H') (s : SupAt K Hb H' p m) (lt : Ln 100 t) (f : H p0 = none) (fb : Hb p0 = none) (np : p0 ≠ p) (oi : o ≤ i + 1 := by omega) (mi : m ≤ n + 1 + 2 * (i + 1) := by omega) :
    SmI K Hb H p p0 n (i + 1) [some (.ref p), some (.ref p0), some (.int (o : Int)), v3, v4, v5, v6] (upd H' p0 (.lst (ls.map V.str ++ [.str t]))) :=
  ⟨o, ls ++ [t], _, _, _, _, rfl, oi, by rw [upd_same, List.map_append] <;> rfl, by rw [List.length_append, l] <;> rfl, g.app (lns_one lt), kp_updN k f, (s.more mi).upd fb np⟩
section
variable {P : Program} {w : World} {K : PySem.W.Frag} {mg : Str → Option Value} {base : Heap}
abbrev N_law_some_lines : List Str := ["_law_supply_here", "_law_found", "_law_open_loops", "_law_k", "_law_way", "_law_space", "_law_loops"]
theorem sc_law_some_lines : FnScope N_law_some_lines ["_law_supply_here"] (defScope s_law_some_lines) := ⟨rfl, rfl, rfl, by decide +kernel, rfl, by decide +kernel, by decide +kernel⟩
theorem b_law_some_lines (T : Tx K mg) : Binds K T.fd_law_some_lines ["_law_supply_here"] [] := T.F_law_some_lines.bindsN fun _ _ _ _ _ _ us hl => match us, hl with | [_], _ => rfl
theorem ok_law_some_lines (T : Tx K mg) : FnOk P w K mg base CX0 4 (He.ga K "_law_some_lines") T.fd_law_some_lines ["_law_supply_here"] (spSome K) := by
  refine T.F_law_some_lines.ok sc_law_some_lines (fun vs H Q E h => ?_) (fun cdv A outer s H vs Q E hr h => ?_)
  · obtain ⟨_, p, n, rfl, _⟩ := h
    rfl
  obtain ⟨Hb, p, n, rfl, hs, hn, q⟩ := h
  refine ⟨_, PSs.nox (pss_cons (ps_set (i := 1) sc_law_some_lines.nd rfl (Or.inl rfl) (pe_lst pa_nil))
      (pss_cons (ps_set (i := 2) sc_law_some_lines.nd rfl (Or.inl rfl) pe_int)
      (pss_cons (ps_for PassesOwn.never rfl (pi_range1 rfl T.z_range (pa_cons (pe_call (ok_law_one_of T) (hr.mono (by decide)) rfl T.g_law_one_of T.F_law_one_of.kp (b_law_one_of T) .nil pass0 (pa_cons (pv 0) (pa_cons (pe_lst (pa_cons pe_int (pa_cons pe_int (pa_cons pe_int (pa_cons pe_int (pa_cons pe_int pa_nil)))))) pa_nil))) pa_nil)) (pg_name (i := 3) sc_law_some_lines.nd rfl (Or.inl rfl)) (pss_cons (ps_set (i := 4) sc_law_some_lines.nd rfl (Or.inl rfl) (pe_call (ok_law_below T) (hr.mono (by decide)) rfl T.g_law_below T.F_law_below.kp (b_law_below T) .nil pass0 (pa_cons (pv 0) (pa_cons pe_int pa_nil))))
      (pss_cons (ps_set (i := 5) sc_law_some_lines.nd rfl (Or.inl rfl) (pe_op op_repS pe_str (pe_op op_mulW pe_int (pv 2))))
      (pss_one (ps_if (pt_cmpR (op_eq) (pv 4) pe_int (nomark _)) (pss_cons (ps_set (i := 6) sc_law_some_lines.nd rfl (Or.inl rfl) (pe_lst (pa_cons pe_str (pa_cons pe_str (pa_cons pe_str (pa_cons pe_str (pa_cons pe_str (pa_cons pe_str (pa_cons pe_str pa_nil)))))))))
      (pss_cons (ps_expr (pe_bm PySem.F.plainAttrs_list PySem.F.slot_list_append PySem.F.type_list_append mt_append (pv 1) (pa_cons (pe_op op_add_str (pv 5) (pe_call (ok_law_one_of T) (hr.mono (by decide)) rfl T.g_law_one_of T.F_law_one_of.kp (b_law_one_of T) .nil pass0 (pa_cons (pv 0) (pa_cons (pv 6) pa_nil)))) pa_nil)))
      (pss_one (ps_set (i := 2) sc_law_some_lines.nd rfl (Or.inl rfl) (pe_op op_add (pv 2) pe_int))))) (pss_one (ps_if (PW.pt (pw_and (pt_cmpR (op_lt) (pv 4) pe_int (nomark _)) (pw_and1 (pt_cmpR (op_gt) (pv 2) pe_int (nomark _))))) (pss_cons (ps_expr (pe_bm PySem.F.plainAttrs_list PySem.F.slot_list_append PySem.F.type_list_append mt_append (pv 1) (pa_cons pe_str pa_nil)))
      (pss_one (ps_set (i := 2) sc_law_some_lines.nd rfl (Or.inl rfl) (pe_op op_sub (pv 2) pe_int)))) (pss_one (ps_expr (pe_bm PySem.F.plainAttrs_list PySem.F.slot_list_append PySem.F.type_list_append mt_append (pv 1) (pa_cons (pe_op op_add_str (pv 5) (pe_call (ok_law_one_of T) (hr.mono (by decide)) rfl T.g_law_one_of T.F_law_one_of.kp (b_law_one_of T) .nil pass0 (pa_cons (pv 0) (pa_cons (pe_lst (pa_cons pe_str (pa_cons pe_str (pa_cons pe_str (pa_cons pe_str (pa_cons pe_str pa_nil)))))) pa_nil)))) pa_nil)))))))))))
      (pss_one (ps_ret (pe_op op_cat (pv 1) (pe_op op_rep (pe_lst (pa_cons pe_str pa_nil)) (pv 2)))))))), ?_⟩
  have tN := tN
  refine ⟨sz 0, ?_⟩
  walk_at "new 0"
  have hs0 := hs.same s0
  have p0p := hs.apart n0
  have p0b := hs.free n0
  refine ⟨_, rfl, sz 5, ?_⟩
  walk_at "new 1"
  refine ⟨Hb, p, p1, _, n, rfl, hs0.same s1, by omega, h1, hs0.apart n1, by decide, by rw [tN]; decide, fun x H2 m k2 s2 => ?_⟩
  obtain ⟨j, hj, rfl⟩ : ∃ j : Nat, j ≤ 34 ∧ x = .int (j : Int) := by
    have m : x ∈ ([4, 8, 29, 31, 34] : List Int).map V.int := m
    obtain ⟨j, hj, rfl⟩ := List.mem_map.mp m
    have := (List.all_eq_true.mp (show ([4, 8, 29, 31, 34] : List Int).all (fun j => decide (0 ≤ j ∧ j ≤ 34)) = true from rfl)) j hj
    have := of_decide_eq_true this
    exact ⟨j.toNat, by omega, by rw [Int.toNat_of_nonneg this.1]⟩
  refine ⟨(j : Int), rfl, by omega, by omega, ?_⟩
  have K2 : Kp p H H2 := (Kf.of (s0.trans s1)).trans k2
  have h02 : H2 p0 = some (.lst []) := k2 _ _ p0p (s1 _ _ h0)
  refine for_it (walk_range (lo := 0) (n := (j : Int).toNat)) (fun i σ H' => SmI K Hb H p p0 n i σ H')
    ⟨0, [], none, none, none, none, rfl, Nat.le_refl _, h02, rfl, ⟨fun _ m => absurd m (List.not_mem_nil)⟩, K2, s2⟩ (fun _ _ _ _ _ => trivial) ?_ ?_
  · rintro i x σ H3 H4 hi ⟨o, ls, v3, v4, v5, v6, rfl, oi, e1, e2, e3, e4, e5⟩ ⟨rfl, rfl⟩
    rw [Int.toNat_natCast] at hi
    refine ⟨_, rfl, Hb, p, 8, n + 1 + 2 * i, rfl, e5, by omega, by decide, by rw [tN]; decide, fun r H5 hr k5 s5 => ?_⟩
    have cm : CMulW 2 (o : Int) := wide_mul (a := 2) (b := 10) (by decide) (by show _ < 1024; omega) (by decide) (by decide) (by decide)
    refine ⟨_, rfl, _, _, rfl, rfl, cm, _, _, rfl, rfl, by omega, by omega, by decide +kernel, ?_⟩
    have ls0 := ln_sp (2 * (o : Int)).toNat
    have e15 := k5 _ _ p0p e1
    have k35 := e4.trans k5
    generalize repS " " (2 * (o : Int)).toNat = sp at ls0
    refine ⟨_, rfl, rfl, _, rfl, ?_⟩
    by_cases c1 : r = 0
    · refine ifT (decide_eq_true (by rw [c1] <;> rfl)) ?_
      refine ⟨sz 7, ?_⟩
      walk_at "new 6"
      refine ⟨_, rfl, .inl ⟨rfl, _, .inl (.inl (s6 _ _ e15))⟩, _, rfl, _, rfl, _, rfl, Hb, p, p6, _, n + 1 + 2 * i + 1, rfl, s5.same s6, by omega, h6, s5.apart n6, by decide, by rw [tN]; decide, fun x H7 m k7 s7 => ?_⟩
      have lt : ∃ t, x = .str t ∧ Ln 12 t := by
        obtain ⟨t, ht, rfl⟩ := List.mem_map.mp (show x ∈ ([("forever" : Str), "mean", "repeat 2", "repeat 3", "repeat 0", "repeat 7", "repeat 50"]).map V.str from m)
        exact ⟨t, rfl, ln_all (by decide +kernel) t ht⟩
      obtain ⟨t, rfl, lt⟩ := lt
      have e17 := k7 _ _ p0p (s6 _ _ e15)
      refine ⟨_, _, rfl, rfl, sz_app ls0 lt (by omega), p0, _, _, rfl, rfl, e17, by rw [List.length_map]; exact Nat.lt_of_lt_of_le (m := 100) (by omega) (by decide), ?_⟩
      refine ⟨_, rfl, _, _, rfl, rfl, ?_⟩
      exact SmI.add (o := o + 1) e2 e3 (k35.trans ((Kf.of s6).trans k7)) s7 ((ls0.app lt).more (by omega)) n0 p0b p0p
    · refine ifF (decide_eq_false fun y => c1 (by have := V.int.inj y; omega)) ?_
      refine ⟨_, rfl, _, _, rfl, rfl, _, rfl, ?_⟩
      by_cases c2 : (r : Int) < 3
      case' pos =>
        refine ifT (decide_eq_true c2) ?_
        refine ⟨_, rfl, _, _, rfl, rfl, _, rfl, ?_⟩
        by_cases c3 : (o : Int) > 0
        case pos =>
          refine ifT (decide_eq_true c3) ?_
          refine ⟨_, rfl, .inl ⟨rfl, _, .inl (.inl e15)⟩, p0, _, _, rfl, rfl, e15, by rw [List.length_map]; exact Nat.lt_of_lt_of_le (m := 100) (by omega) (by decide), ?_⟩
          refine ⟨_, rfl, _, _, rfl, rfl, ?_⟩
          have oe : (o : Int) - 1 = ((o - 1 : Nat) : Int) := by omega
          have := SmI.add (K := K) (Hb := Hb) (H := H) (p := p) (n := n) (t := "end") (o := o - 1) (v3 := some (.int (0 + (i : Int)))) (v4 := some (.int (r : Int))) (v5 := some (.str sp)) (v6 := v6) e2 e3 k35 s5 (ln_dec (by decide +kernel)) n0 p0b p0p
          rw [← oe] at this
          exact this
        refine ifF (decide_eq_false c3) ?_
      case' neg => refine ifF (decide_eq_false c2) (ifF rfl ?_)
      all_goals
        refine ⟨_, rfl, .inl ⟨rfl, _, .inl (.inl e15)⟩, _, rfl, _, rfl, sz 5, ?_⟩
        walk_at "new 7"
        refine ⟨Hb, p, p7, _, n + 1 + 2 * i + 1, rfl, s5.same s7, by omega, h7, s5.apart n7, by decide, by rw [tN]; decide, fun x H8 m k8 s8 => ?_⟩
        have lt : ∃ t, x = .str t ∧ Ln 12 t := by
          obtain ⟨t, ht, rfl⟩ := List.mem_map.mp (show x ∈ ([("x := x/2" : Str), "x, y := y, x", "y := 0 # end", "", "x := 1"]).map V.str from m)
          exact ⟨t, rfl, ln_all (by decide +kernel) t ht⟩
        obtain ⟨t, rfl, lt⟩ := lt
        have e17 := k8 _ _ p0p (s7 _ _ e15)
        refine ⟨_, _, rfl, rfl, sz_app ls0 lt (by omega), p0, _, _, rfl, rfl, e17, by rw [List.length_map]; exact Nat.lt_of_lt_of_le (m := 100) (by omega) (by decide), ?_⟩
        exact SmI.add (o := o) e2 e3 (k35.trans ((Kf.of s7).trans k8)) s8 ((ls0.app lt).more (by omega)) n0 p0b p0p
  · rintro σ H3 ⟨o, ls, v3, v4, v5, v6, rfl, oi, e1, e2, e3, e4, e5⟩
    rw [Int.toNat_natCast] at oi e2 e5
    refine ⟨_, rfl, sz 1, ?_⟩
    walk_at "new 7"
    refine ⟨_, rfl, p7, (o : Int), _, rfl, rfl, h7, by omega, by omega, ?_, ?_⟩
    · show 1 * (o : Int).toNat ≤ _
      rw [Int.toNat_natCast, Nat.one_mul]
      exact Nat.le_trans (m := 100) (by omega) (by decide)
    walk_at "new 8"
    rw [rep_flat] at h8
    refine ⟨p0, p8, _, _, rfl, rfl, s8 _ _ (s7 _ _ e1), h8, ?_, ?_⟩
    · rw [List.length_map, List.length_replicate]
      exact Nat.le_trans (m := 100) (by omega) (by decide)
    walk_at "new 9"
    have s79 := s7.trans (s8.trans s9)
    have e59 := (e5.same s7).same s8
    refine q p9 (ls ++ List.replicate o ("end" : Str)) _ (kp_free (e4.trans (Kf.of (s7.trans s8))) n9 (e59.apart n9)) ?_ ?_ (e3.app ⟨fun z m => by rw [List.eq_of_mem_replicate m]; exact ln_dec (by decide +kernel)⟩) (e4.trans (Kf.of s79)) ((e59.same s9).more (by omega))
    · rw [h9, List.map_append, List.map_replicate, Int.toNat_natCast] <;> rfl
    · rw [List.length_append, List.length_replicate]; omega
end
end Kw

set_option Elab.async false
set_option linter.all false
set_option maxRecDepth 100000
set_option maxHeartbeats 4000000
namespace Kw
open PySem PySem.Spec PyProof.Rows L2
local macro_rules | `(tactic| walk_at $s:str) => do
  match s.getString.splitOn " " with
  | ["new", a] =>
    let p := Lean.mkIdent (Lean.Name.mkSimple ("p" ++ a))
    let n := Lean.mkIdent (Lean.Name.mkSimple ("n" ++ a))
    let H := Lean.mkIdent (Lean.Name.mkSimple ("H" ++ a))
    let s := Lean.mkIdent (Lean.Name.mkSimple ("s" ++ a))
    let h := Lean.mkIdent (Lean.Name.mkSimple ("h" ++ a))
    `(tactic| (intro $p $n; generalize e : upd _ $p _ = $H; have $s : Same _ $H := e ▸ same_new $n; have $h : $H $p = some _ := e ▸ upd_same; clear e))
  | _ => Lean.Macro.throwUnsupported
/-! ### lines, changed -/
theorem cut_take {α : Type} (f : α → V) (l : List α) (a : Nat) : cutV (l.map f) none (some (a : Int)) = (l.take a).map f := by
  unfold cutV
  rw [HT.sIx_none, HT.sIx_nat, List.drop_zero, Nat.sub_zero, List.length_map, ← List.map_take]
  congr 1
  by_cases h : a ≤ l.length
  · rw [Nat.min_eq_left h]
  · rw [Nat.min_eq_right (by omega), List.take_length, List.take_of_length_le (by omega)]
theorem cut_drop {α : Type} (f : α → V) (l : List α) (a : Nat) : cutV (l.map f) (some (a : Int)) none = (l.drop a).map f := by
  unfold cutV
  rw [HT.sIx_none, HT.sIx_nat, List.length_map, ← List.map_drop, ← List.map_take]
  congr 1
  rw [List.take_of_length_le (by rw [List.length_drop]; omega)]
  by_cases h : a ≤ l.length
  · rw [Nat.min_eq_left h]
  · rw [Nat.min_eq_right (by omega), List.drop_length, List.drop_eq_nil_of_le (by omega)]
theorem cut_mid {α : Type} (f : α → V) (l : List α) (a d : Nat) : cutV (l.map f) (some (a : Int)) (some ((a : Int) + (d : Int))) = ((l.drop a).take d).map f := by
  unfold cutV
  rw [show (a : Int) + (d : Int) = ((a + d : Nat) : Int) from rfl, HT.sIx_nat, HT.sIx_nat, List.length_map, ← List.map_drop, ← List.map_take]
  congr 1
  by_cases h : a ≤ l.length
  · rw [Nat.min_eq_left h]
    by_cases g : a + d ≤ l.length
    · rw [Nat.min_eq_left g, Nat.add_sub_cancel_left]
    · rw [Nat.min_eq_right (by omega), List.take_of_length_le (by rw [List.length_drop]; omega), List.take_of_length_le (by rw [List.length_drop]; omega)]
  · rw [List.drop_eq_nil_of_le (i := min a l.length) (by omega), List.drop_eq_nil_of_le (i := a) (by omega), List.take_nil, List.take_nil]
theorem strs_of {b : Nat} : ∀ {ys : List V}, (∀ (i : Nat) y, ys[i]? = some y → ∃ z : Str, y = .str z ∧ Ln b z) → ∃ zs : List Str, ys = zs.map V.str ∧ Lns b zs
  | [], _ => ⟨[], rfl, ⟨fun _ m => absurd m List.not_mem_nil⟩⟩
  | y :: ys, h => by
    obtain ⟨z, rfl, hz⟩ := h 0 y rfl
    obtain ⟨zs, rfl, g⟩ := strs_of (b := b) (ys := ys) fun i z e => h (i + 1) z e
    exact ⟨z :: zs, rfl, (lns_one hz).app g⟩
def spChanged (K : PySem.W.Frag) : Sp := fun vs H Q _ => ∃ (Hb : Hp) (p l : Addr) (ls : List Str) (n b : Nat), vs = [.ref p, .ref l] ∧ SupAt K Hb H p n ∧ n + b + 20 < topN ∧ H l = some (.lst (ls.map V.str)) ∧ l ≠ p ∧ ls ≠ [] ∧ ls.length ≤ 1000 ∧ Lns b ls ∧ b ≤ 100000 ∧
  ∀ q ls' H', H q = none → H' q = some (.lst (ls'.map V.str)) → ls'.length ≤ ls.length + 1 → Lns (6 * b + 500) ls' → Kp p H H' → SupAt K Hb H' p (n + 10) → Q (.ref q) H'
section
variable {P : Program} {w : World} {K : PySem.W.Frag} {mg : Str → Option Value} {base : Heap}
abbrev N_law_changed : List Str := ["_law_supply_here", "_law_lines", "_law_at", "_law_way", "_law_odd", "_law_tail", "_law_one", "_law_words", "_law_k", "_law_fresh"]
theorem sc_law_changed : FnScope N_law_changed ["_law_supply_here", "_law_lines"] (defScope s_law_changed) := ⟨rfl, rfl, rfl, by decide +kernel, rfl, by decide +kernel, by decide +kernel⟩
theorem b_law_changed (T : Tx K mg) : Binds K T.fd_law_changed ["_law_supply_here", "_law_lines"] [] := T.F_law_changed.bindsN fun _ _ _ _ _ _ us hl => match us, hl with | [_, _], _ => rfl
theorem ok_law_changed (T : Tx K mg) : FnOk P w K mg base CX0 4 (He.ga K "_law_changed") T.fd_law_changed ["_law_supply_here", "_law_lines"] (spChanged K) := by
  refine T.F_law_changed.ok sc_law_changed (fun vs H Q E h => ?_) (fun cdv A outer s H vs Q E hr h => ?_)
  · obtain ⟨_, p, l, ls, n, b, rfl, _⟩ := h
    rfl
  obtain ⟨Hb, p, l, ls, n, b, rfl, hs, hn, hl, lp, ne, l1000, lb, hb, q⟩ := h
  refine ⟨_, PSs.nox (pss_cons (ps_set (i := 2) sc_law_changed.nd rfl (Or.inl rfl) (pe_call (ok_law_below T) (hr.mono (by decide)) rfl T.g_law_below T.F_law_below.kp (b_law_below T) .nil pass0 (pa_cons (pv 0) (pa_cons (pe_op op_add (pe_callB (call_lenQ (K := K) rfl) rfl T.z_len PySem.boot_len (pa_cons (pv 1) pa_nil)) pe_int) pa_nil))))
      (pss_cons (ps_set (i := 3) sc_law_changed.nd rfl (Or.inl rfl) (pe_call (ok_law_below T) (hr.mono (by decide)) rfl T.g_law_below T.F_law_below.kp (b_law_below T) .nil pass0 (pa_cons (pv 0) (pa_cons pe_int pa_nil))))
      (pss_cons (ps_set (i := 4) sc_law_changed.nd rfl (Or.inl rfl) (pe_lst (pa_cons pe_str (pa_cons pe_str (pa_cons pe_str (pa_cons pe_str (pa_cons pe_str (pa_cons pe_str (pa_cons pe_str (pa_cons pe_str (pa_cons pe_str (pa_cons pe_str (pa_cons pe_str (pa_cons pe_str pa_nil))))))))))))))
      (pss_cons (ps_set (i := 4) sc_law_changed.nd rfl (Or.inl rfl) (pe_op op_cat (pv 4) (pe_lst (pa_cons pe_str (pa_cons pe_str (pa_cons pe_str (pa_cons pe_str (pa_cons pe_str (pa_cons pe_str (pa_cons pe_str (pa_cons pe_str pa_nil)))))))))))
      (pss_cons (ps_set (i := 4) sc_law_changed.nd rfl (Or.inl rfl) (pe_op op_cat (pv 4) (pe_lst (pa_cons pe_str (pa_cons pe_str (pa_cons pe_str (pa_cons pe_str (pa_cons (pe_op op_add_str pe_str (pe_op op_repS pe_str pe_int)) (pa_cons pe_str (pa_cons pe_str (pa_cons pe_str pa_nil)))))))))))
      (pss_cons (ps_if (pt_cmpR (op_eq) (pv 3) pe_int (nomark _)) (pss_cons (ps_set (i := 5) sc_law_changed.nd rfl (Or.inr rfl) (pe_call (ok_law_one_of T) (hr.mono (by decide)) rfl T.g_law_one_of T.F_law_one_of.kp (b_law_one_of T) .nil pass0 (pa_cons (pv 0) (pa_cons (pe_lst (pa_cons pe_str (pa_cons pe_str (pa_cons pe_str (pa_cons pe_str (pa_cons pe_str (pa_cons pe_str pa_nil))))))) pa_nil))))
      (pss_one (ps_ret (pe_op op_cat (pe_op op_cat (pe_slice (r := rSlL K) sl_list (pv 1) po_none (po_some (pv 2))) (pe_lc (own := [("_law_one", 6)]) (g := (gName 6)) (tt := tYes) (by rfl) sc_law_changed.nd (pi_list (pe_slice (r := rSlL K) sl_list (pv 1) (po_some (pv 2)) (po_some (pe_op op_add (pv 2) pe_int)))) (blkOk_by (own := [("_law_one", 6)]) (N := N_law_changed) (sc := (defScope s_law_changed)) (by decide +kernel)) (fun _ _ _ _ _ => (pg_name (i := 6) sc_law_changed.nd rfl (Or.inl rfl))) (fun _ _ _ _ _ => pts_nil) (fun _ _ _ _ _ => (pe_op op_add_str (pv 6) (pv 5))))) (pe_slice (r := rSlL K) sl_list (pv 1) (po_some (pe_op op_add (pv 2) pe_int)) po_none))))) pss_nil)
      (pss_cons (ps_if (pt_cmpR (op_eq) (pv 3) pe_int (nomark _)) (pss_one (ps_ret (pe_op op_cat (pe_slice (r := rSlL K) sl_list (pv 1) po_none (po_some (pv 2))) (pe_slice (r := rSlL K) sl_list (pv 1) (po_some (pe_op op_add (pv 2) pe_int)) po_none)))) pss_nil)
      (pss_cons (ps_if (pt_cmpR (op_eq) (pv 3) pe_int (nomark _)) (pss_one (ps_ret (pe_op op_cat (pe_op op_cat (pe_slice (r := rSlL K) sl_list (pv 1) po_none (po_some (pv 2))) (pe_lst (pa_cons (pe_call (ok_law_one_of T) (hr.mono (by decide)) rfl T.g_law_one_of T.F_law_one_of.kp (b_law_one_of T) .nil pass0 (pa_cons (pv 0) (pa_cons (pv 4) pa_nil))) pa_nil))) (pe_slice (r := rSlL K) sl_list (pv 1) (po_some (pv 2)) po_none)))) pss_nil)
      (pss_cons (ps_if (pt_cmpR (op_eq) (pv 3) pe_int (nomark _)) (pss_one (ps_ret (pe_op op_cat (pe_op op_cat (pe_slice (r := rSlL K) sl_list (pv 1) po_none (po_some (pv 2))) (pe_revL (pe_slice (r := rSlL K) sl_list (pv 1) (po_some (pv 2)) (po_some (pe_op op_add (pv 2) pe_int))))) (pe_slice (r := rSlL K) sl_list (pv 1) (po_some (pe_op op_add (pv 2) pe_int)) po_none)))) pss_nil)
      (pss_cons (ps_set (i := 2) sc_law_changed.nd rfl (Or.inl rfl) (pe_op op_modN (pv 2) (pe_callB (call_lenQ (K := K) rfl) rfl T.z_len PySem.boot_len (pa_cons (pv 1) pa_nil))))
      (pss_cons (ps_set (i := 7) sc_law_changed.nd rfl (Or.inl rfl) (pe_split (pe_ix (r := rIxL K) ix_list (pv 1) (pv 2) (fun _ _ => rfl)) pe_str))
      (pss_cons (ps_set (i := 8) sc_law_changed.nd rfl (Or.inl rfl) (pe_call (ok_law_below T) (hr.mono (by decide)) rfl T.g_law_below T.F_law_below.kp (b_law_below T) .nil pass0 (pa_cons (pv 0) (pa_cons (pe_op op_add (pe_callB (call_lenQ (K := K) rfl) rfl T.z_len PySem.boot_len (pa_cons (pv 7) pa_nil)) pe_int) pa_nil))))
      (pss_cons (ps_set (i := 9) sc_law_changed.nd rfl (Or.inl rfl) (pe_lst (pa_cons (pe_op op_cat (pe_slice (r := rSlL K) sl_list (pv 7) po_none (po_some (pv 8))) (pe_slice (r := rSlL K) sl_list (pv 7) (po_some (pe_op op_add (pv 8) pe_int)) po_none)) (pa_cons (pe_op op_cat (pe_op op_cat (pe_slice (r := rSlL K) sl_list (pv 7) po_none (po_some (pv 8))) (pe_slice (r := rSlL K) sl_list (pv 7) (po_some (pv 8)) (po_some (pe_op op_add (pv 8) pe_int)))) (pe_slice (r := rSlL K) sl_list (pv 7) (po_some (pv 8)) po_none)) pa_nil))))
      (pss_cons (ps_expr (pe_bm PySem.F.plainAttrs_list PySem.F.slot_list_append PySem.F.type_list_append mt_append (pv 9) (pa_cons (pe_op op_cat (pe_op op_cat (pe_slice (r := rSlL K) sl_list (pv 7) po_none (po_some (pv 8))) (pe_revL (pe_slice (r := rSlL K) sl_list (pv 7) (po_some (pv 8)) (po_some (pe_op op_add (pv 8) pe_int))))) (pe_slice (r := rSlL K) sl_list (pv 7) (po_some (pe_op op_add (pv 8) pe_int)) po_none)) pa_nil)))
      (pss_one (ps_ret (pe_op op_cat (pe_op op_cat (pe_slice (r := rSlL K) sl_list (pv 1) po_none (po_some (pv 2))) (pe_lst (pa_cons (pe_join pe_str (pe_ix (r := rIxL K) ix_list (pv 9) (pe_op op_sub (pv 3) pe_int) (fun _ _ => rfl))) pa_nil))) (pe_slice (r := rSlL K) sl_list (pv 1) (po_some (pe_op op_add (pv 2) pe_int)) po_none)))))))))))))))))), ?_⟩
  have tN := tN
  have lpos : 0 < ls.length := Nat.pos_of_ne_zero fun y => ne (List.eq_nil_of_length_eq_zero y)
  have lm : (ls.map V.str).length = ls.length := List.length_map ..
  have sz1 : ∀ k : Nat, k ≤ 100000 → k ≤ sizeLine := fun k h => sz k h
  refine ⟨_, rfl, _, rfl, l, _, rfl, .inl (.of hl), _, _, rfl, rfl, Hb, p, (ls.map V.str).length + 1, n, rfl, hs, by omega, by omega, by omega, fun a H1 ha k1 s1 => ?_⟩
  rw [lm] at ha
  refine ⟨_, rfl, Hb, p, 7, n + 1, rfl, s1, by omega, by decide, by rw [tN]; decide, fun way H2 hw k2 s2 => ?_⟩
  have k02 := k1.trans k2
  have l2 := k02 _ _ lp hl
  refine ⟨sz 12, ?_⟩
  walk_at "new 3"
  refine ⟨_, rfl, sz 8, ?_⟩
  walk_at "new 4"
  refine ⟨_, _, _, _, rfl, rfl, s4 _ _ h3, h4, by decide, ?_⟩
  walk_at "new 5"
  refine ⟨_, rfl, _, _, rfl, rfl, by decide, by decide, by decide +kernel, _, _, rfl, rfl, by decide +kernel, sz 8, ?_⟩
  walk_at "new 6"
  refine ⟨_, _, _, _, rfl, rfl, s6 _ _ h5, h6, by decide, ?_⟩
  walk_at "new 7"
  obtain ⟨odds, eo, ol, ob⟩ : ∃ odds : List Str, H7 p7 = some (.lst (odds.map V.str)) ∧ odds.length = 28 ∧ Lns 310 odds := by
    refine ⟨["end", "mean", "forever x", "repeat", "repeat x", "repeat 51", "x := z", "vars x", "end end", "7", "Z", "x", "end $", "end 01", "repeat 51 $", "repeat x abcdefghi", "7 $", "vars x y Z", "  end", "  repeat  51", "\t", " \t", "\t# x", "\tx := 1", "end" ++ repS " x" 150, "   x := 2*x*x", "vars x Z", "forever x 01"], h7, rfl, lns_all (by decide +kernel)⟩
  have s27 := s3.trans (s4.trans (s5.trans (s6.trans s7)))
  have k07 := k02.trans (Kf.of s27)
  have l7 := s27 _ _ l2
  have sup7 := s2.same s27
  have p7p := (s2.same (s3.trans (s4.trans (s5.trans s6)))).apart n7
  clear h3 h4 h5 h6 h7 s3 s4 s5 s6
  have nw : ∀ k : Nat, decide (V.int (way : Int) = V.int (k : Int)) = decide (way = k) := fun k => by
    rw [Bool.eq_iff_iff]; simp; omega
  have fin : ∀ (x : Addr) (ls' : List Str) (G G' : Hp) (m : Nat), Kp p H7 G → SupAt K Hb G p m → Same G G' → G x = none → G' x = some (.lst (ls'.map V.str)) → ls'.length ≤ ls.length + 1 → Lns (6 * b + 500) ls' → m ≤ n + 10 → Q (.ref x) G' := fun x ls' G G' m kg sG sg nx hx lx bx mn =>
    q x ls' G' (kp_free (k07.trans kg) nx (sG.apart nx)) hx lx bx (k07.trans (kg.trans (Kf.of sg))) ((sG.same sg).more mn)
  refine ⟨_, rfl, rfl, _, rfl, ?_⟩
  by_cases c6 : way = 6
  · refine ifT ((nw 6).trans (decide_eq_true c6)) ?_
    refine ⟨_, rfl, sz 6, ?_⟩
    walk_at "new 10"
    have p10p := sup7.apart n10
    refine ⟨Hb, p, p10, _, n + 1 + 1, rfl, sup7.same s10, by omega, h10, p10p, by decide, by rw [tN]; decide, fun x H11 m k11 s11 => ?_⟩
    obtain ⟨t, rfl, lt⟩ : ∃ t, x = .str t ∧ Ln 12 t := by
      obtain ⟨t, ht, rfl⟩ := List.mem_map.mp (show x ∈ ([(" Z" : Str), " 01", " 1234567", " _", " x", "\t"]).map V.str from m)
      exact ⟨t, rfl, ln_all (by decide +kernel) t ht⟩
    have k711 := (Kf.of s10 : Kp p H7 _).trans k11
    refine ⟨_, rfl, _, rfl, _, rfl, l, _, rfl, .of (k711 _ _ lp l7), ?_⟩
    walk_at "new 12"
    rw [cut_take] at h12
    refine ⟨_, rfl, _, rfl, _, rfl, _, rfl, _, _, rfl, rfl, _, rfl, l, _, rfl, .of (s12 _ _ (k711 _ _ lp l7)), ?_⟩
    walk_at "new 13"
    rw [show ((a : Int) + 1) = ((a : Int) + (1 : Nat)) from rfl, cut_mid] at h13
    refine ⟨p13, rfl, ⟨_, .of h13⟩, fun D hD => ?_⟩
    have ml : ((ls.drop a).take 1).length ≤ 1 := by rw [List.length_take]; omega
    refine lc_pure (walk_list (K := K) (a := p13) (xs := ((ls.drop a).take 1).map V.str)) hD (fun i y _ => ∃ z : Str, y = .str z ∧ Ln (b + 12) z) (fun _ _ _ _ _ h => h) (by rw [List.length_map]; omega) (fun H2 s2 => .of (s2 _ _ h13)) (fun i x H2 H3 _ ⟨e, _⟩ => by rw [e]; exact Same.refl _) ?_ (fun x H A B m h => m _ _ h) ?_
    · rintro i x H2 _ hi s2 ⟨rfl, hx⟩
      obtain ⟨z, hz, rfl⟩ := map_get hx
      have zl := lb.ok z (List.mem_of_mem_drop (List.mem_of_mem_take (List.mem_of_getElem? hz)))
      exact ⟨rfl, Same.refl _, fun Q' h => ⟨_, rfl, _, rfl, _, _, rfl, rfl, sz_app zl lt (by omega), h _ _ (Same.refl _) ⟨_, rfl, zl.app lt⟩⟩⟩
    intro ys H14 s14 h14 hl hy
    obtain ⟨zs, rfl, zb⟩ := strs_of hy
    rw [List.length_map, List.length_map] at hl
    refine ⟨_, _, _, _, rfl, rfl, s14 _ _ (s13 _ _ h12), h14, ?_, ?_⟩
    · rw [List.length_map, List.length_map, List.length_take]; exact sz1 _ (by omega)
    walk_at "new 15"
    have k715 := k711.trans (Kf.of (s12.trans (s13.trans (s14.trans s15))))
    refine ⟨_, rfl, _, rfl, _, _, rfl, rfl, _, rfl, l, _, rfl, .of (k715 _ _ lp l7), ?_⟩
    walk_at "new 16"
    rw [show ((a : Int) + 1) = ((a + 1 : Nat) : Int) from rfl, cut_drop] at h16
    refine ⟨_, _, _, _, rfl, rfl, s16 _ _ h15, h16, ?_, ?_⟩
    · rw [List.length_append, List.length_map, List.length_map, List.length_map, List.length_take, List.length_drop]; exact sz1 _ (by omega)
    walk_at "new 17"
    refine fin p17 (ls.take a ++ zs ++ ls.drop (a + 1)) _ _ _ (k715.trans (Kf.of s16)) (s11.same (s12.trans (s13.trans (s14.trans (s15.trans s16))))) s17 n17 ?_ ?_ (((((lb.sub (List.take_subset _ _)).more (by omega)).app (zb.more (by omega))).app ((lb.sub (List.drop_subset _ _)).more (by omega)))) (by omega)
    · rw [h17, List.map_append, List.map_append] <;> rfl
    · rw [List.length_take, List.length_drop] at hl
      rw [List.length_append, List.length_append, List.length_take, List.length_drop]; omega
  refine ifF ((nw 6).trans (decide_eq_false c6)) ?_
  refine ⟨_, rfl, rfl, _, rfl, ?_⟩
  by_cases c0 : way = 0
  · refine ifT ((nw 0).trans (decide_eq_true c0)) ?_
    refine ⟨_, rfl, _, rfl, _, rfl, l, _, rfl, .of l7, ?_⟩
    walk_at "new 10"
    rw [cut_take] at h10
    refine ⟨_, rfl, _, rfl, _, _, rfl, rfl, _, rfl, l, _, rfl, .of (s10 _ _ l7), ?_⟩
    walk_at "new 11"
    rw [show ((a : Int) + 1) = ((a + 1 : Nat) : Int) from rfl, cut_drop] at h11
    refine ⟨_, _, _, _, rfl, rfl, s11 _ _ h10, h11, ?_, ?_⟩
    · rw [List.length_map, List.length_map, List.length_take, List.length_drop]; exact sz1 _ (by omega)
    walk_at "new 12"
    rw [← List.map_append] at h12
    refine fin p12 _ _ _ _ (Kf.of (s10.trans s11)) (sup7.same (s10.trans s11)) s12 n12 h12 ?_ (((lb.sub (List.take_subset _ _)).app (lb.sub (List.drop_subset _ _))).more (by omega)) (by omega)
    rw [List.length_append, List.length_take, List.length_drop]; omega
  refine ifF ((nw 0).trans (decide_eq_false c0)) ?_
  refine ⟨_, rfl, rfl, _, rfl, ?_⟩
  by_cases c1 : way = 1
  · refine ifT ((nw 1).trans (decide_eq_true c1)) ?_
    refine ⟨_, rfl, _, rfl, _, rfl, l, _, rfl, .of l7, ?_⟩
    walk_at "new 10"
    rw [cut_take] at h10
    have p10p := sup7.apart n10
    refine ⟨_, rfl, _, rfl, Hb, p, p7, _, n + 1 + 1, rfl, sup7.same s10, by omega, s10 _ _ eo, p7p, by rw [List.length_map, ol]; decide, by rw [List.length_map, ol, tN]; decide, fun x H11 m k11 s11 => ?_⟩
    obtain ⟨t, ht, rfl⟩ := List.mem_map.mp m
    refine ⟨sz 1, ?_⟩
    walk_at "new 12"
    refine ⟨_, _, _, _, rfl, rfl, s12 _ _ (k11 _ _ p10p h10), h12, ?_, ?_⟩
    · rw [List.length_map, List.length_take]; exact sz1 _ (by show _ + 1 ≤ _; omega)
    walk_at "new 13"
    have k713 := (Kf.of s10 : Kp p H7 _).trans (k11.trans (Kf.of (s12.trans s13)))
    refine ⟨_, rfl, _, rfl, _, rfl, l, _, rfl, .of (k713 _ _ lp l7), ?_⟩
    walk_at "new 14"
    rw [cut_drop] at h14
    refine ⟨_, _, _, _, rfl, rfl, s14 _ _ h13, h14, ?_, ?_⟩
    · rw [List.length_append, List.length_map, List.length_map, List.length_take, List.length_drop]; exact sz1 _ (by show _ + 1 + _ ≤ _; omega)
    walk_at "new 15"
    refine fin p15 (ls.take a ++ [t] ++ ls.drop a) _ _ _ (k713.trans (Kf.of s14)) (s11.same (s12.trans (s13.trans s14))) s15 n15 ?_ ?_ (((((lb.sub (List.take_subset _ _)).more (by omega)).app (lns_one ((ob.ok t ht).more (by omega)))).app ((lb.sub (List.drop_subset _ _)).more (by omega)))) (by omega)
    · rw [h15, List.map_append, List.map_append] <;> rfl
    · rw [List.length_append, List.length_append, List.length_take, List.length_drop]; show _ + 1 + _ ≤ _; omega
  refine ifF ((nw 1).trans (decide_eq_false c1)) ?_
  refine ⟨_, rfl, rfl, _, rfl, ?_⟩
  by_cases c2 : way = 2
  · refine ifT ((nw 2).trans (decide_eq_true c2)) ?_
    refine ⟨_, rfl, _, rfl, _, rfl, l, _, rfl, .of l7, ?_⟩
    walk_at "new 10"
    rw [cut_take] at h10
    refine ⟨_, rfl, _, rfl, _, rfl, _, rfl, _, _, rfl, rfl, _, rfl, l, _, rfl, .of (s10 _ _ l7), ?_⟩
    walk_at "new 11"
    rw [show ((a : Int) + 2) = ((a : Int) + (2 : Nat)) from rfl, cut_mid] at h11
    refine ⟨p11, _, rfl, .of h11, ?_⟩
    walk_at "new 12"
    refine ⟨_, _, _, _, rfl, rfl, s12 _ _ (s11 _ _ h10), h12, ?_, ?_⟩
    · rw [List.length_reverse, List.length_map, List.length_map, List.length_take, List.length_take, List.length_drop]; exact sz1 _ (by omega)
    walk_at "new 13"
    have s713 := s10.trans (s11.trans (s12.trans s13))
    refine ⟨_, rfl, _, rfl, _, _, rfl, rfl, _, rfl, l, _, rfl, .of (s713 _ _ l7), ?_⟩
    walk_at "new 14"
    rw [show ((a : Int) + 2) = ((a + 2 : Nat) : Int) from rfl, cut_drop] at h14
    refine ⟨_, _, _, _, rfl, rfl, s14 _ _ h13, h14, ?_, ?_⟩
    · rw [List.length_append, List.length_reverse, List.length_map, List.length_map, List.length_map, List.length_take, List.length_take, List.length_drop, List.length_drop]; exact sz1 _ (by omega)
    walk_at "new 15"
    refine fin p15 (ls.take a ++ ((ls.drop a).take 2).reverse ++ ls.drop (a + 2)) _ _ _ (Kf.of (s713.trans s14)) (sup7.same (s713.trans s14)) s15 n15 ?_ ?_ (((lb.sub fun z m => ?_).more (by omega))) (by omega)
    · rw [h15, List.map_append, List.map_append, List.map_reverse] <;> rfl
    · rw [List.length_append, List.length_append, List.length_reverse, List.length_take, List.length_take, List.length_drop, List.length_drop]; omega
    · rcases List.mem_append.mp m with m | m
      · rcases List.mem_append.mp m with m | m
        · exact List.mem_of_mem_take m
        · exact List.mem_of_mem_drop (List.mem_of_mem_take (List.mem_reverse.mp m))
      · exact List.mem_of_mem_drop m
  refine ifF ((nw 2).trans (decide_eq_false c2)) ?_
  have fe : (a : Int).fmod ((ls.map V.str).length : Int) = ((a % ls.length : Nat) : Int) := by rw [lm, Int.fmod_eq_emod_of_nonneg _ (by omega)]; omega
  have a2 : a % ls.length < ls.length := Nat.mod_lt _ lpos
  refine ⟨_, rfl, _, rfl, l, _, rfl, .inl (.of l7), _, _, rfl, rfl, (by show ((ls.map V.str).length : Int) ≠ 0; rw [lm]; omega), ?_⟩
  dsimp only
  rw [fe]
  generalize a % ls.length = a' at a2
  refine ⟨_, rfl, _, rfl, l, _, _, _, rfl, rfl, .of l7, atI_nat (j := a') (v := .str ls[a']) (by rw [List.getElem?_map, List.getElem?_eq_getElem a2] <;> rfl), ⟨_, rfl⟩, ls[a'], _, rfl, rfl, by decide +kernel, ?_, ?_⟩
  · exact Nat.le_trans (Nat.add_le_add_right (Nat.le_trans (lb.ok _ (List.getElem_mem a2)).len hb) 2) (by decide)
  walk_at "new 10"
  obtain ⟨wd, _⟩ := wd_split (lb.ok _ (List.getElem_mem a2))
  generalize Txt.split ls[a'] " " = ws at h10 wd
  have wl := wd.cnt
  have wm : (ws.map V.str).length = ws.length := List.length_map ..
  have p10p := sup7.apart n10
  refine ⟨_, rfl, _, rfl, p10, _, rfl, .inl (.of h10), _, _, rfl, rfl, Hb, p, (ws.map V.str).length + 1, n + 1 + 1, rfl, sup7.same s10, by omega, by omega, by omega, fun k H11 hk k11 s11 => ?_⟩
  have w11 := k11 _ _ p10p h10
  have k711 := (Kf.of s10 : Kp p H7 _).trans k11
  have l11 := k711 _ _ lp l7
  have e1 : ((k : Int) + 1) = ((k + 1 : Nat) : Int) := rfl
  -- the first
  refine ⟨_, rfl, _, rfl, _, rfl, p10, _, rfl, .of w11, ?_⟩
  walk_at "new 12"
  rw [cut_take] at h12
  refine ⟨_, rfl, _, rfl, _, _, rfl, rfl, _, rfl, p10, _, rfl, .of (s12 _ _ w11), ?_⟩
  walk_at "new 13"
  rw [e1, cut_drop] at h13
  refine ⟨_, _, _, _, rfl, rfl, s13 _ _ h12, h13, ?_, ?_⟩
  · simp only [List.length_map, List.length_append, List.length_reverse, List.length_take, List.length_drop]; exact Nat.le_trans (m := 200002) (by omega) (by decide)
  walk_at "new 14"
  rw [← List.map_append] at h14
  have s1114 := s12.trans (s13.trans s14)
  -- the second
  refine ⟨_, rfl, _, rfl, _, rfl, p10, _, rfl, .of (s1114 _ _ w11), ?_⟩
  walk_at "new 15"
  rw [cut_take] at h15
  refine ⟨_, rfl, _, rfl, _, rfl, _, rfl, _, _, rfl, rfl, _, rfl, p10, _, rfl, .of (s15 _ _ (s1114 _ _ w11)), ?_⟩
  walk_at "new 16"
  rw [show ((k : Int) + 1) = ((k : Int) + (1 : Nat)) from rfl, cut_mid] at h16
  refine ⟨_, _, _, _, rfl, rfl, s16 _ _ h15, h16, ?_, ?_⟩
  · simp only [List.length_map, List.length_append, List.length_reverse, List.length_take, List.length_drop]; exact Nat.le_trans (m := 200002) (by omega) (by decide)
  walk_at "new 17"
  rw [← List.map_append] at h17
  have s1117 := s1114.trans (s15.trans (s16.trans s17))
  refine ⟨_, rfl, _, rfl, _, rfl, p10, _, rfl, .of (s1117 _ _ w11), ?_⟩
  walk_at "new 18"
  rw [cut_drop] at h18
  refine ⟨_, _, _, _, rfl, rfl, s18 _ _ h17, h18, ?_, ?_⟩
  · simp only [List.length_map, List.length_append, List.length_reverse, List.length_take, List.length_drop]; exact Nat.le_trans (m := 400002) (by omega) (by decide)
  walk_at "new 19"
  rw [← List.map_append] at h19
  refine ⟨sz 2, ?_⟩
  walk_at "new 20"
  have s1120 := s1117.trans (s18.trans (s19.trans s20))
  -- the third
  refine ⟨_, rfl, .inl ⟨rfl, _, .inl (.inl h20)⟩, _, rfl, _, rfl, _, rfl, p10, _, rfl, .of (s1120 _ _ w11), ?_⟩
  walk_at "new 21"
  rw [cut_take] at h21
  refine ⟨_, rfl, _, rfl, _, rfl, _, rfl, _, _, rfl, rfl, _, rfl, p10, _, rfl, .of (s21 _ _ (s1120 _ _ w11)), ?_⟩
  walk_at "new 22"
  rw [show ((k : Int) + 2) = ((k : Int) + (2 : Nat)) from rfl, cut_mid] at h22
  refine ⟨p22, _, rfl, .of h22, ?_⟩
  walk_at "new 23"
  rw [← List.map_reverse] at h23
  refine ⟨_, _, _, _, rfl, rfl, s23 _ _ (s22 _ _ h21), h23, ?_, ?_⟩
  · simp only [List.length_map, List.length_append, List.length_reverse, List.length_take, List.length_drop]; exact Nat.le_trans (m := 200002) (by omega) (by decide)
  walk_at "new 24"
  rw [← List.map_append] at h24
  have s2024 := s21.trans (s22.trans (s23.trans s24))
  have s1124 := s1120.trans s2024
  refine ⟨_, rfl, _, rfl, _, _, rfl, rfl, _, rfl, p10, _, rfl, .of (s1124 _ _ w11), ?_⟩
  walk_at "new 25"
  rw [show ((k : Int) + 2) = ((k + 2 : Nat) : Int) from rfl, cut_drop] at h25
  refine ⟨_, _, _, _, rfl, rfl, s25 _ _ h24, h25, ?_, ?_⟩
  · simp only [List.length_map, List.length_append, List.length_reverse, List.length_take, List.length_drop]; exact Nat.le_trans (m := 400002) (by omega) (by decide)
  walk_at "new 26"
  rw [← List.map_append] at h26
  have s2026 := s2024.trans (s25.trans s26)
  have h2026 := s2026 _ _ h20
  refine ⟨p20, _, _, rfl, rfl, h2026, szl 2, ?_⟩
  have n1120 : H11 p20 = none := (s1117.trans (s18.trans s19)).free n20
  have s1127 := same_updN (u := .lst ([.ref p14, .ref p19] ++ [.ref p26])) (s1124.trans (s25.trans s26)) n1120
  have f19 : H19 p19 = some _ := h19
  have f14 : H19 p14 = some _ := (s15.trans (s16.trans (s17.trans (s18.trans s19)))) _ _ h14
  have g14 : upd H26 p20 (.lst ([.ref p14, .ref p19] ++ [.ref p26])) p14 = some _ := (upd_ne (ne_of_none f14 n20)).trans ((s20.trans s2026) _ _ f14)
  have g19 : upd H26 p20 (.lst ([.ref p14, .ref p19] ++ [.ref p26])) p19 = some _ := (upd_ne (ne_of_none f19 n20)).trans ((s20.trans s2026) _ _ f19)
  have g26 : upd H26 p20 (.lst ([.ref p14, .ref p19] ++ [.ref p26])) p26 = some _ := (upd_ne (fun y => by rw [y, (s2024.trans s25) _ _ h20] at n26; cases n26)).trans h26
  have g20 : upd H26 p20 (.lst ([.ref p14, .ref p19] ++ [.ref p26])) p20 = some _ := upd_same
  generalize upd H26 p20 (.lst ([.ref p14, .ref p19] ++ [.ref p26])) = H27 at s1127 g14 g19 g26 g20 ⊢
  clear h12 h13 h15 h16 h17 h18 h19 h20 h21 h22 h23 h24 h25 h26 h14 f14 f19 h2026
  obtain ⟨pw, wx, e1', e2, e3⟩ : ∃ pw wx, atI [V.ref p14, .ref p19, .ref p26] ((way : Int) - 3) = some (.ref pw) ∧ H27 pw = some (.lst (wx.map V.str)) ∧ Wd (3 * (b + 1)) (3 * b) wx := by
    have t1 := wd.sub (List.take_sublist k ws)
    rcases (by omega : way = 3 ∨ way = 4 ∨ way = 5) with rfl | rfl | rfl
    · refine ⟨p14, _, rfl, g14, ?_⟩
      have := t1.app (wd.sub (List.drop_sublist (k + 1) ws))
      exact ⟨by have := this.cnt; omega, by have := this.sum; omega, this.no⟩
    · refine ⟨p19, _, rfl, g19, ?_⟩
      have := (t1.app (wd.sub ((List.take_sublist 1 _).trans (List.drop_sublist k ws)))).app (wd.sub (List.drop_sublist k ws))
      exact ⟨by have := this.cnt; omega, by have := this.sum; omega, this.no⟩
    · refine ⟨p26, _, rfl, g26, ?_⟩
      have := (t1.app (wd.sub ((List.take_sublist 2 _).trans (List.drop_sublist k ws))).rev).app (wd.sub (List.drop_sublist (k + 2) ws))
      exact ⟨by have := this.cnt; omega, by have := this.sum; omega, this.no⟩
  have l27 := s1127 _ _ l11
  refine ⟨_, rfl, _, rfl, _, rfl, l, _, rfl, .of l27, ?_⟩
  walk_at "new 28"
  rw [cut_take] at h28
  refine ⟨⟨_, rfl⟩, _, rfl, _, rfl, _, _, rfl, rfl, p20, _, _, _, rfl, rfl, .of (s28 _ _ g20), e1', " ", pw, wx, rfl, rfl, .inl (.of (s28 _ _ e2)), ?_, sz 1, ?_⟩
  · have h1 := e3.cnt
    have h2 := e3.sum
    show sumL wx + wx.length * 1 ≤ _
    omega
  have lj := wd_join e3
  generalize Txt.join " " wx = tj at lj
  walk_at "new 29"
  refine ⟨_, _, _, _, rfl, rfl, s29 _ _ h28, h29, ?_, ?_⟩
  · rw [List.length_map, List.length_take]; exact sz1 _ (by show _ + 1 ≤ _; omega)
  walk_at "new 30"
  have s2730 := s28.trans (s29.trans s30)
  refine ⟨_, rfl, _, rfl, _, _, rfl, rfl, _, rfl, l, _, rfl, .of (s2730 _ _ l27), ?_⟩
  walk_at "new 31"
  rw [show ((a' : Int) + 1) = ((a' + 1 : Nat) : Int) from rfl, cut_drop] at h31
  refine ⟨_, _, _, _, rfl, rfl, s31 _ _ h30, h31, ?_, ?_⟩
  · rw [List.length_append, List.length_map, List.length_map, List.length_take, List.length_drop]; exact sz1 _ (by show _ + 1 + _ ≤ _; omega)
  walk_at "new 32"
  have s1131 := s1127.trans (s2730.trans s31)
  refine fin p32 (ls.take a' ++ [tj] ++ ls.drop (a' + 1)) _ _ _ (k711.trans (Kf.of s1131)) (s11.same s1131) s32 n32 ?_ ?_ (((((lb.sub (List.take_subset _ _)).more (by omega)).app (lns_one (lj.more (by omega)))).app ((lb.sub (List.drop_subset _ _)).more (by omega)))) (by omega)
  · rw [h32, List.map_append, List.map_append] <;> rfl
  · rw [List.length_append, List.length_append, List.length_take, List.length_drop]; show _ + 1 + _ ≤ _; omega
end
end Kw

set_option Elab.async false
set_option linter.all false
set_option maxRecDepth 100000
set_option maxHeartbeats 4000000
namespace Kw
open PySem PySem.Spec PyProof.Rows L2
/-! ### a promise that leans on the empty list of guards (repr asks it) -/
structure GOk (P : Program) (w : World) (K : PySem.W.Frag) (mg : Str → Option Value) (base : Heap) (CX : CXT) (k : Nat) (f : Addr) (fd : FuncData) (ps : List Str) (sp : Sp) : Prop where
  arity : ∀ a G Q E, sp a G Q E → a.length = ps.length
  go : ∀ (B : Around) (o : List Env) (z : Shared) (G : Hp) (c : Args) (xs : List Value) (ys : List V) (Q : VK) (E : XK),
    B.guards = some [] → Room k B → Env0 P w K mg base B o z G → BindsTo z fd c (ps.zip xs) → Vals ys xs → sp ys G Q E →
      codeAny (model P w) B (.call (.ref f) c) (CR CX o P w G z Q E) z
variable {P : Program} {w : World} {K : PySem.W.Frag} {mg : Str → Option Value} {base : Heap}
/-- every promise is one -/
theorem GOk.of {CX : CXT} {k : Nat} {f : Addr} {fd : FuncData} {ps : List Str} {sp : Sp} (h : FnOk P w K mg base CX k f fd ps sp) : GOk P w K mg base CX k f fd ps sp :=
  ⟨h.len, fun B o z G c xs ys Q E _ => h.run B o z G c xs ys Q E⟩
theorem GOk.mono {CX : CXT} {j k : Nat} {f : Addr} {fd : FuncData} {ps : List Str} {sp : Sp} (h : GOk P w K mg base CX j f fd ps sp) (l : j ≤ k) : GOk P w K mg base CX k f fd ps sp :=
  ⟨h.arity, fun B o z G c xs ys Q E g r => h.go B o z G c xs ys Q E g (r.mono l)⟩
/-- the rule for a def -/
theorem gok_of {CX : CXT} {x qual : Str} {params : Arguments} {body : List Stmt} {scope : Scope} {dvs : List V} {kws : List (Str × V)} {f : Addr} {fd : FuncData} {N ps : List Str} {k : Nat} {sp : Sp}
    (F : FunD K x qual params body scope dvs kws f fd) (S : FnScope N ps scope) (ar : ∀ a G Q E, sp a G Q E → a.length = ps.length)
    (bd : ∀ (cdv : Value) (B : Around) (o : List Env) (z : Shared) (G : Hp) (ys : List V) (Q : VK) (E : XK), (B.deeper (envOfC qual scope z.heap.objs.size f cdv)).guards = some [] → Room k (B.deeper (envOfC qual scope z.heap.objs.size f cdv)) → sp ys G Q E →
      ∃ t, PSs (cxOf CX P w K mg base N qual scope f cdv B o z G E) body t ∧ t { nx := fun _ G' => Q .non G', rt := Q } (start N ys) G) : GOk P w K mg base CX (k + 1) f fd ps sp := by
  obtain ⟨_, _, _, _, _, _, _, cdv, _, _, rfl, lk, hcd, _, _⟩ := F.ex
  constructor
  · exact ar
  intro B o z G c xs ys Q E hg room e0 hb rel hsp
  have grown : ∀ b u, base.get? b = some u → z.heap.get? b = some u := fun b u q => (e0.bs b u q).1
  have inK := e0.mod.kin.keeps grown
  have kinds : ∀ y ∈ ps.zip xs, scope.names.lookup y.1 = some .local ∨ (scope.names.lookup y.1 = some .cell ∧ ((cellsFrom (z.heap.objs.size + 1) scope.names []).lookup y.1).isSome = true) := by
    rintro ⟨y, u⟩ m
    exact (S.par y (List.of_mem_zip m).1).imp id fun q => ⟨q, PySem.W.cellsFrom_some _ _ _ (.inl q)⟩
  refine codeAny_call_function room.depth (inK _ _ lk) rfl S.co S.gen rfl (PySem.W.codeRec_of inK hcd) (hb _ _ _ _ (wpAny_newFunctionEnv_cells S.kind kinds ?_))
  rintro env he z1 x1
  subst he
  obtain ⟨t, run, pure⟩ := bd cdv B o z G ys Q E hg (room.deeper _) hsp
  have I0 : Inv (cxOf CX P w K mg base N qual scope f cdv B o z G E) [] (start N ys) G z1 := inv_start S room.hd e0 (ar _ _ _ _ hsp) rel x1
  refine ⟨(e0.mod.nolimit.keeps grown).keeps x1.toInCall.keep, codeAny_func (wpAny_mono (run.run [] z1 (start N ys) G _ I0 pure) ?_ fun _ _ q => q)⟩
  rintro (_ | _ | _ | u) z' hz
  · obtain ⟨_, G', J, q⟩ := hz
    exact ⟨.non, G', J.os, J.bare, J.base, J.hok, rfl, q⟩
  · obtain ⟨_, _, _, q⟩ := hz; exact q.elim
  · obtain ⟨_, _, _, q⟩ := hz; exact q.elim
  · obtain ⟨v, _, G', J, rv, q⟩ := hz
    exact ⟨v, G', J.os, J.bare, J.base, J.hok, rv, q⟩
/-- the call of such a def by its name -/
theorem pe_callG {X : Cx} {CX : CXT} {k : Nat} {f : Addr} {fd : FuncData} {ps : List Str} {sp : Sp} {E : XK} {x : Str} {p pos : Pos} {e : Expr} {es : List Expr} {t : TA} (F : GOk X.prog X.w X.K X.mg X.base CX k f fd ps sp) (hg : X.A.guards = some []) (hr : Room k X.A)
    (gl : Gl X x) (hm : X.mg x = some (.ref f)) (hk : PySem.W.keepIn X.K (.ref f) = true) (hb : Binds X.K fd ps []) (hx : Passes CX X E) (ha : PA X (e :: es) t) (hdb : (x == ("__debug__" : Str)) = false := by decide)
    (he : starEach (e :: es) X.env = (false, eval e X.env) :: starEach es X.env := by rfl) (hpl : (backTo pos (starEach es X.env)).any (·.1) = false := by rfl) : PE X (.Call (.Name x p) (e :: es) [] pos) (tCall sp [] E t) := by
  constructor
  intro pins z σ G Q I h
  refine wpAny_Call_Name_kw (ld_glob I gl hm (PySem.W.callWith_K (h₀ := X.base) I.ok.mod.kin hk (thn (ha.run pos pins z σ G _ I h) ?_) he hpl) hdb)
  rintro us z1 ⟨vs, G1, I1, rel, q⟩
  refine ⟨I1.kIn, wpAny_call (codeAny_mono (F.go X.A X.stack z1 G1 ⟨us, []⟩ us vs Q E hg hr I1.env0 ?_ rel (by rw [← List.append_nil vs]; exact q)) ?_)⟩
  · have l : us.length = ps.length := by rw [← rel.length]; exact F.arity _ _ _ _ (by rw [← List.append_nil vs]; exact q)
    have := hb z1 us I1.kIn (by rw [List.append_nil]; exact l)
    rwa [List.append_nil] at this
  · rintro (er | fl) z' hz
    · exact hx pins σ G1 z1 er z' I1 hz
    · rcases fl with _ | _ | _ | u
      · exact False.elim hz
      · exact False.elim hz
      · exact False.elim hz
      · exact I1.after hz
end Kw

set_option Elab.async false
set_option linter.all false
set_option maxRecDepth 100000
set_option maxHeartbeats 4000000
namespace Kw
open PySem PySem.Spec PyProof.Rows L2
variable {P : Program} {w : World} {K : PySem.W.Frag} {mg mb : Str → Option Value}
/-- what the law's call ends with -/
abbrev EndT (z : Shared) : Except Value Flow → Shared → Prop := fun r z' => r = .ok (.ret (.bool true)) ∧ OldK z.heap z'.heap ∧ z'.os = z.os ∧ AllBare z'.gens
/-- from an abstract heap that tracks the script at most -/
theorem head_core {CX : CXT} {k : Nat} {fa a : Addr} {fd : FuncData} {x : Str} {sp : Sp} {z : Shared} {G : Hp} {o : Obj} {its : Array Value} {n : Nat}
    (KX : K.In z.heap) (ns1 : z.heap.Ns mainGlobals mg) (ns2 : z.heap.Ns builtinsNs mb) (bb : ∀ x : Str, x ≠ "__name__" → mb x = bootBuiltins x) (lim : z.heap.NoLimit) (gens : z.gens = #[])
    (ha : z.heap.get? a = some o) (hseq : o.data = .seq its n) (room : Room k callerA) (only : Only G) (hok : HOk P w G z.heap) (at_a : ∀ b, G b ≠ none → b = a) (out : G a ≠ none → K.lookup a = none)
    (F : ∀ base : Heap, K.In base → base.Ns mainGlobals mg → GOk P w K mg base CX k fa fd [x] sp) (bind : ∀ (z : Shared) (u : Value), BindsTo z fd ⟨[u], []⟩ [(x, u)])
    (hsp : sp [.ref a] G (fun v _ => v = .bl true) fun _ _ _ => False) (noerr : ∀ e z', CX [] G z (fun _ _ _ => False) e z' → False) :
    codeAny (model P w) callerA (.call (.ref fa) ⟨[.ref a], []⟩) (EndT z) z := by
  have kept : ∀ {b : Addr} {u : Obj}, z.heap.get? b = some u → G b = none → (hidT z.heap G).get? b = some u := fun e m => hidT_get e m
  have free : ∀ {b : Addr} {u : Obj}, z.heap.get? b = some u → (b = a → u = o → G b = none) → G b = none := by
    intro b u e h
    rcases hG : G b with _ | t
    · rfl
    · have ba : b = a := at_a b (by rw [hG]; nofun)
      rw [← hG]
      exact h ba (by rw [ba, ha] at e; exact (Option.some.inj e).symm)
  have spaces : ∀ {b : Addr} {m : Str → Option Value}, z.heap.Ns b m → (hidT z.heap G).Ns b m := by
    rintro b m ⟨u, es, ep, e, d, r⟩
    exact ⟨u, es, ep, kept e (free e fun _ q => by rw [q, hseq] at d; cases d), d, r⟩
  have frag : K.In (hidT z.heap G) := fun b u e => kept (KX b u e) (by
    rcases hG : G b with _ | t
    · rfl
    · have ba : b = a := at_a b (by rw [hG]; nofun)
      rw [ba] at e hG
      rw [out (by rw [hG]; nofun)] at e
      cases e)
  obtain ⟨mc, l1, l2⟩ := lim
  have env : Env0 P w K mg (hidT z.heap G) callerA [] z G :=
    ⟨rfl, ⟨frag, spaces ns1, ⟨mb, spaces ns2, bb⟩, ⟨mc, spaces l1, l2⟩⟩, fun b u e => of_hidT e, Nat.le_of_eq (hidT_size _ _), trivial, fun b m => absurd m List.not_mem_nil, hok, .of_eq gens⟩
  have run := (F _ frag (spaces ns1)).go callerA [] z G ⟨[.ref a], []⟩ [.ref a] [.ref a] _ _ rfl room env (bind z (.ref a)) (.cons rfl .nil) hsp
  refine codeAny_mono run ?_
  rintro (er | fl) z' hz
  · exact (noerr er z' hz).elim
  rcases fl with _ | _ | _ | u
  · exact False.elim hz
  · exact False.elim hz
  · exact False.elim hz
  obtain ⟨v, G', os, bare, un, hok', rel, rfl⟩ := hz
  cases (show u = Value.bool true from rel)
  refine ⟨rfl, OldK.of_keep ?_, os, bare⟩
  intro b t e
  rcases hG : G b with _ | y
  · exact un.keep b t e hG (fun m => absurd m List.not_mem_nil) (List.not_mem_nil)
  rcases only b with q | ⟨ob, xs, q⟩
  · rw [hG] at q; cases q
  have f1 := (hok b _ q).1
  have f2 := (hok' b _ (un.frzs b ob _ q)).1
  rw [e] at f1
  rw [f2, f1]
/-- the head: the call of a law whose promise leans on the guards -/
theorem head_call {CX : CXT} {k : Nat} {fa a : Addr} {fd : FuncData} {x : Str} {sp : Sp} {z : Shared} {us : List Value} {ns : List Int}
    (KX : K.In z.heap) (ns1 : z.heap.Ns mainGlobals mg) (ns2 : z.heap.Ns builtinsNs mb) (bb : ∀ x : Str, x ≠ "__name__" → mb x = bootBuiltins x) (lim : z.heap.NoLimit) (gens : z.gens = #[])
    (ha : z.heap.get? a = some { cls := .type "list", data := .seq us.toArray }) (hi : IntsAre us ns) (hl : ns.length ≤ sizeLine) (room : Room k callerA)
    (F : ∀ base : Heap, K.In base → base.Ns mainGlobals mg → GOk P w K mg base CX k fa fd [x] sp) (bind : ∀ (z : Shared) (u : Value), BindsTo z fd ⟨[u], []⟩ [(x, u)])
    (hsp : ∀ G : Hp, Only G → SqL K G a (ns.map V.int) → sp [.ref a] G (fun v _ => v = .bl true) fun _ _ _ => False)
    (noerr : ∀ G e z', CX [] G z (fun _ _ _ => False) e z' → False) : codeAny (model P w) callerA (.call (.ref fa) ⟨[.ref a], []⟩) (EndT z) z := by
  have vals := vals_ints hi
  have size := hi.length
  rcases hk : K.lookup a with _ | o
  · let G : Hp := fun b => if b = a then some (.frz { cls := .type "list", data := .seq us.toArray } (.lst (ns.map V.int))) else none
    have Ga : G a = some (.frz { cls := .type "list", data := .seq us.toArray } (.lst (ns.map V.int))) := if_pos rfl
    have Gn : ∀ {b : Addr}, b ≠ a → G b = none := fun h => if_neg h
    have hO : Only G := fun b => by
      by_cases e : b = a
      · rw [e]; exact .inr ⟨_, _, Ga⟩
      · exact .inl (Gn e)
    refine head_core KX ns1 ns2 bb lim gens ha rfl room hO ?_ ?_ (fun _ => hk) F bind (hsp G hO (.inl (.inr ⟨_, Ga⟩))) (noerr G)
    · intro b u e
      by_cases q : b = a
      · subst q
        cases Ga.symm.trans e
        exact ⟨ha, by rw [List.length_map]; exact hl, us, _, vals, ha⟩
      · cases (Gn q).symm.trans e
    · intro b m
      exact Classical.byContradiction fun q => m (Gn q)
  · have e := KX a o hk
    rw [ha] at e
    cases e
    have hO : Only (fun _ => none) := fun _ => .inl rfl
    refine head_core KX ns1 ns2 bb lim gens ha rfl room hO (fun b u e => nomatch e) (fun b m => absurd rfl m) (fun m => absurd rfl m) F bind (hsp _ hO (.inr ⟨_, us.toArray, _, hk, rfl, rfl, rfl, ?_, ?_⟩)) (noerr _)
    · rw [List.size_toArray, size]; exact hl
    · simpa using vals
/-- the walk of a law's head -/
theorem head_walk {l : PySem.W.OpenLaw} {n k : Nat} {q : Program} {loose : List Str} {XP : (Str → Option Value) → Heap → Prop} {YP : World → Heap → Prop} {d : DefRec} {CX : CXT} {x : Str}
    (hn : l.most = some n) (hm : n ≤ sizeLine) (hd : d.params.defaults = []) (room : Room k callerA)
    (F : ∀ (w : World) (mg : Str → Option Value) (fa : Addr) (h : Heap), YP w h → h.Ns mainGlobals mg → mg d.name = some (.ref fa) →
      ∃ (K : PySem.W.Frag) (fd : FuncData) (sp : Sp), K.In h ∧ (∀ (z : Shared) (u : Value), BindsTo z fd ⟨[u], []⟩ [(x, u)]) ∧
        (∀ (G : Hp) (a : Addr) (ns : List Int), ns.length ≤ n → Only G → SqL K G a (ns.map V.int) → sp [.ref a] G (fun v _ => v = .bl true) fun _ _ _ => False) ∧
        ∀ base : Heap, K.In base → base.Ns mainGlobals mg → GOk l.prog w K mg base CX k fa fd [x] sp)
    (noerr : ∀ (G : Hp) (z : Shared) (e : Value) (z' : Shared), CX [] G z (fun _ _ _ => False) e z' → False) :
    PySem.W.WalkO q loose XP YP l.row.toRowW d [] (fun f vs => PySem.call f vs) := by
  refine Att.attach_call hn hd ?_
  intro w z0 z mg mb fa o pm cd doc a us ns G Y _ _ _ hmg hobj hints hlen hg
  obtain ⟨K, fd, sp, KX, hb, hsp, hF⟩ := F w mg fa _ Y G.T.g hmg
  exact head_call KX G.T.g G.T.b G.T.builtins G.T.nolimit hg hobj hints (Nat.le_trans hlen hm) room hF hb (fun H hO hS => hsp H a ns hlen hO hS) fun H e z' => noerr H z e z'
end Kw

set_option Elab.async false
set_option linter.all false
set_option maxRecDepth 100000
set_option maxHeartbeats 4000000
namespace Kw
open PySem PySem.Spec PyProof.Rows L2
local macro_rules | `(tactic| walk_at $s:str) => do
  match s.getString.splitOn " " with
  | ["new", a] =>
    let p := Lean.mkIdent (Lean.Name.mkSimple ("p" ++ a))
    let n := Lean.mkIdent (Lean.Name.mkSimple ("n" ++ a))
    let H := Lean.mkIdent (Lean.Name.mkSimple ("H" ++ a))
    let s := Lean.mkIdent (Lean.Name.mkSimple ("s" ++ a))
    let h := Lean.mkIdent (Lean.Name.mkSimple ("h" ++ a))
    `(tactic| (intro $p $n; generalize e : upd _ $p _ = $H; have $s : Same _ $H := e ▸ same_new $n; have $h : $H $p = some _ := e ▸ upd_same; clear e))
  | _ => Lean.Macro.throwUnsupported
/-! ### repr -/
/-- data whose repr is taken -/
structure Shows (d : PyData) : Prop where
  show_ : d.showable = true
  dict : d.hasDict = false
  deep : d.depth ≤ 150
  fits : d.shown.length ≤ sizeLine
def rReprD (K : PySem.W.Frag) : List V → Hp → VK → Prop := fun xs H Q => ∃ (a : Addr) (d : PyData), xs = [.ref a] ∧ Dp K H (.ref a) d ∧ Shows d ∧ Q (.str d.shown) H
theorem call_reprD {X : Cx} (hG : X.A.guards = some []) (hu : X.A.units + 200 < cLine) : CallR X (.builtin "repr") (rReprD X.K) := by
  intro pins s σ H xs us Q I r h
  obtain ⟨a, d, rfl, hd, sh, q⟩ := h
  obtain ⟨u, rfl, ru⟩ := vals1 r
  cases ru
  obtain ⟨as, rd⟩ := Dp.reads I d _ _ hd rfl
  exact repr_of_reads' rd sh.show_ (fun y => by rw [sh.dict] at y; cases y) hG (by have := sh.deep; omega) (fun _ _ e => e) (fun h' u tk k => ⟨.str d.shown, H, I.kept k, ⟨_, rfl⟩, q⟩) sh.fits
def spAlike (K : PySem.W.Frag) : Sp := fun vs H Q _ => ∃ (a b : Addr) (d : PyData), vs = [.ref a, .ref b] ∧ Dp K H (.ref a) d ∧ Dp K H (.ref b) d ∧ Shows d ∧ Q (.bl true) H
section
variable {P : Program} {w : World} {K : PySem.W.Frag} {mg : Str → Option Value} {base : Heap}
abbrev N_law_alike : List Str := ["_law_found", "_law_expected"]
theorem sc_law_alike : FnScope N_law_alike ["_law_found", "_law_expected"] (defScope s_law_alike) := ⟨rfl, rfl, rfl, by decide +kernel, rfl, by decide +kernel, by decide +kernel⟩
theorem b_law_alike (T : Tx K mg) : Binds K T.fd_law_alike ["_law_found", "_law_expected"] [] := T.F_law_alike.bindsN fun _ _ _ _ _ _ us hl => match us, hl with | [_, _], _ => rfl
theorem ok_law_alike (T : Tx K mg) : GOk P w K mg base CX0 1 (He.ga K "_law_alike") T.fd_law_alike ["_law_found", "_law_expected"] (spAlike K) := by
  refine gok_of T.F_law_alike sc_law_alike (fun vs H Q E h => ?_) (fun cdv A outer s H vs Q E hG hr h => ?_)
  · obtain ⟨a, b, d, rfl, _⟩ := h
    rfl
  obtain ⟨a, b, d, rfl, h1, h2, sh, q⟩ := h
  have hU := hr.un
  refine ⟨_, PSs.nox (pss_one (ps_ret (pe_cmpR (op_eq) (pe_callB (call_reprD hG hU) rfl T.z_repr (by decide +kernel) (pa_cons (pv 0) pa_nil)) (pe_callB (call_reprD hG hU) rfl T.z_repr (by decide +kernel) (pa_cons (pv 1) pa_nil)) (nomark _)))), ?_⟩
  refine ⟨_, rfl, a, d, rfl, h1, sh, _, rfl, b, d, rfl, h2, sh, rfl, ?_⟩
  rw [decide_eq_true rfl]
  exact q
end
end Kw

set_option Elab.async false
set_option linter.all false
set_option maxRecDepth 100000
set_option maxHeartbeats 4000000
namespace Kw
open PySem PySem.Spec PyProof.Rows L2
/-! ### the reader's blocks hold small data -/
def wtB : List Blk → Nat
  | [] => 0
  | B :: Bs => PyData.weightAll B.head + PyData.weightAll B.inner + 2 + wtB Bs
structure PSd (S : PS) : Prop where
  fine : ∀ B ∈ S.blks, FineAll B.head ∧ FineAll B.inner
  flat : ∀ B ∈ S.blks, PyData.depthAll B.head = 0
  deep : ∀ B ∈ S.blks, PyData.depthAll B.inner + 2 * S.blks.length ≤ 6 + 2 * S.count
  wt : wtB S.blks ≤ 1000 * S.count + 2
theorem PS0_d : PSd PS0 :=
  ⟨fun B h => by rw [List.mem_singleton.mp h]; exact ⟨fine_nil, fine_nil⟩, fun B h => by rw [List.mem_singleton.mp h] <;> rfl, fun B h => by rw [List.mem_singleton.mp h]; decide, by decide⟩
theorem tot_len : ∀ bs : List Blk, bs.length ≤ tot bs
  | [] => Nat.le_refl _
  | B :: Bs => by
    have := tot_len Bs
    show Bs.length + 1 ≤ B.inner.length + 1 + tot Bs
    omega
theorem wt_one (x : PyData) (ds : List PyData) : PyData.weightAll (ds ++ [x]) = PyData.weightAll ds + (x.weight + 1) := by
  rw [wt_app]
  simp only [PyData.weightAll]
theorem dp_one (x : PyData) (ds : List PyData) : PyData.depthAll (ds ++ [x]) = max (PyData.depthAll ds) x.depth := by
  rw [dp_app]
  simp only [PyData.depthAll, Nat.max_zero]
theorem put_d {x : PyData} {S : PS} (ok : PSok S) (h : PSd S) (fx : Fine x) (wx : x.weight ≤ 900) (dx : x.depth ≤ 4) : PSd ⟨putM x S.blks, S.count + 1⟩ := by
  obtain ⟨bs, c⟩ := S
  have tl := Nat.le_trans (tot_len bs) ok.tot
  cases bs with
  | nil => exact absurd rfl ok.ne
  | cons B Bs =>
    have fB := h.fine B (List.mem_cons_self ..)
    have dB := h.deep B (List.mem_cons_self ..)
    simp only [List.length_cons] at dB tl
    refine ⟨fun C m => ?_, fun C m => ?_, fun C m => ?_, ?_⟩
    · rcases List.mem_cons.mp m with rfl | m
      · exact ⟨fB.1, fine_app fB.2 (fine_cons fx fine_nil)⟩
      · exact h.fine C (List.mem_cons_of_mem _ m)
    · rcases List.mem_cons.mp m with rfl | m
      · exact h.flat B (List.mem_cons_self ..)
      · exact h.flat C (List.mem_cons_of_mem _ m)
    · rcases List.mem_cons.mp m with rfl | m
      · show PyData.depthAll (B.inner ++ [x]) + 2 * (Bs.length + 1) ≤ 6 + 2 * (c + 1)
        rw [dp_one]
        omega
      · have := h.deep C (List.mem_cons_of_mem _ m)
        show PyData.depthAll C.inner + 2 * (Bs.length + 1) ≤ 6 + 2 * (c + 1)
        simp only [List.length_cons] at this
        omega
    · have := h.wt
      show PyData.weightAll B.head + PyData.weightAll (B.inner ++ [x]) + 2 + wtB Bs ≤ 1000 * (c + 1) + 2
      have e : wtB (B :: Bs) = PyData.weightAll B.head + PyData.weightAll B.inner + 2 + wtB Bs := rfl
      simp only [e] at this
      rw [wt_one]
      omega
theorem close_d {S : PS} (h : PSd S) : PSd { S with blks := closeM S.blks } := by
  obtain ⟨bs, c⟩ := S
  rcases bs with _ | ⟨B, _ | ⟨C, Bs⟩⟩
  · exact h
  · exact h
  have fB := h.fine B (List.mem_cons_self ..)
  have fC := h.fine C (List.mem_cons_of_mem _ (List.mem_cons_self ..))
  have dB := h.deep B (List.mem_cons_self ..)
  have dC := h.deep C (List.mem_cons_of_mem _ (List.mem_cons_self ..))
  have hB := h.flat B (List.mem_cons_self ..)
  simp only [List.length_cons] at dB dC
  refine ⟨fun D m => ?_, fun D m => ?_, fun D m => ?_, ?_⟩
  · rcases List.mem_cons.mp m with rfl | m
    · exact ⟨fC.1, fine_app fC.2 (fine_cons (fine_tup (fine_app fB.1 (fine_cons (fine_tup fB.2) fine_nil))) fine_nil)⟩
    · exact h.fine D (List.mem_cons_of_mem _ (List.mem_cons_of_mem _ m))
  · rcases List.mem_cons.mp m with rfl | m
    · exact h.flat C (List.mem_cons_of_mem _ (List.mem_cons_self ..))
    · exact h.flat D (List.mem_cons_of_mem _ (List.mem_cons_of_mem _ m))
  · rcases List.mem_cons.mp m with rfl | m
    · show PyData.depthAll (C.inner ++ [.tuple (B.head ++ [.tuple B.inner])]) + 2 * (Bs.length + 1) ≤ 6 + 2 * c
      rw [dp_one]
      have : (PyData.tuple (B.head ++ [.tuple B.inner])).depth = PyData.depthAll B.inner + 2 := by
        simp only [PyData.depth]
        rw [dp_one, hB]
        simp only [PyData.depth]
        omega
      rw [this]
      omega
    · have := h.deep D (List.mem_cons_of_mem _ (List.mem_cons_of_mem _ m))
      show PyData.depthAll D.inner + 2 * (Bs.length + 1) ≤ 6 + 2 * c
      simp only [List.length_cons] at this
      omega
  · have := h.wt
    have e : wtB (B :: C :: Bs) = PyData.weightAll B.head + PyData.weightAll B.inner + 2 + (PyData.weightAll C.head + PyData.weightAll C.inner + 2 + wtB Bs) := rfl
    simp only [e] at this
    show PyData.weightAll C.head + PyData.weightAll (C.inner ++ [.tuple (B.head ++ [.tuple B.inner])]) + 2 + wtB Bs ≤ 1000 * c + 2
    rw [wt_one]
    have : (PyData.tuple (B.head ++ [.tuple B.inner])).weight = PyData.weightAll B.head + (PyData.weightAll B.inner + 1) := by
      simp only [PyData.weight]
      rw [wt_one]
      simp only [PyData.weight]
    omega
end Kw

set_option Elab.async false
set_option linter.all false
set_option maxRecDepth 100000
set_option maxHeartbeats 4000000
namespace Kw
open PySem PySem.Spec PyProof.Rows L2
/-! ### a line keeps the data small -/
theorem word_fine {t : Str} (h : t ∈ ([("repeat" : Str), "forever", "mean"])) : Fine (.str t) ∧ (PyData.str t).weight ≤ 8 ∧ (PyData.str t).depth = 0 := by
  have key : ([("repeat" : Str), "forever", "mean"]).all (fun t => decide ((PyData.str t).leavesShort 13 = true ∧ (PyData.str t).showable = true ∧ (PyData.str t).weight ≤ 8)) = true := by decide +kernel
  have := of_decide_eq_true (List.all_eq_true.mp key t h)
  exact ⟨⟨this.1, this.2.1⟩, this.2.2, by simp only [PyData.depth]⟩
theorem openM_d {ts : List Tk} {bs : List Blk} {h : List PyData} {r : Nat} (tok : TsOk ts) (e : openM ts bs = .ok (h, r)) : FineAll h ∧ PyData.depthAll h = 0 ∧ PyData.weightAll h ≤ 60 := by
  unfold openM at e
  cases q : ts[0]? with
  | none => rw [q] at e; cases e
  | some t =>
    rw [q] at e
    simp only at e
    by_cases c1 : acOk "word" ["repeat", "forever", "mean"] t = true ∧ bs.length ≤ 4
    case neg => rw [if_neg c1] at e; cases e
    rw [if_pos c1] at e
    have tm : t.text ∈ ([("repeat" : Str), "forever", "mean"]) := by
      have := c1.1
      unfold acOk at this
      rw [Bool.and_eq_true] at this
      exact of_decide_eq_true this.2
    by_cases c2 : t.text = "repeat"
    · rw [if_pos c2] at e
      cases q1 : ts[1]? with
      | none => rw [q1] at e; cases e
      | some u =>
        rw [q1] at e
        simp only at e
        by_cases c3 : u.kind = "number" ∧ numV u * topR bs ≤ 50
        case neg => rw [if_neg c3] at e; cases e
        rw [if_pos c3] at e
        cases q2 : takeM ts "end of line" none 2 with
        | error c => rw [q2] at e; cases e
        | ok j =>
          rw [q2] at e
          cases e
          have nb := (numV_ok tok (List.mem_of_getElem? q1) c3.1).2.1
          obtain ⟨w1, w2, w3⟩ := word_fine (t := "repeat") (by decide)
          have ib : ((numV u : Nat) : Int).natAbs < 1000001 := by omega
          have w4 := wt_int ib
          refine ⟨fine_cons w1 (fine_cons (fine_int ib) fine_nil), ?_, ?_⟩
          · simp only [PyData.depthAll, PyData.depth]; decide
          · simp only [PyData.weightAll]
            omega
    · rw [if_neg c2] at e
      cases q2 : takeM ts "end of line" none 1 with
      | error c => rw [q2] at e; cases e
      | ok j =>
        rw [q2] at e
        cases e
        obtain ⟨w1, w2, w3⟩ := word_fine tm
        refine ⟨fine_cons w1 fine_nil, ?_, ?_⟩
        · simp only [PyData.depthAll, PyData.depth]; decide
        · simp only [PyData.weightAll]; omega
theorem lineM_d {names : List Str} {S S' : PS} {ts : List Tk} (tok : TsOk ts) (nl : names.length ≤ 4) (ok : PSok S) (h : PSd S) (e : lineM names S ts = .ok S') : PSd S' := by
  unfold lineM at e
  cases q : ts[0]? with
  | none => rw [q] at e; cases e
  | some t =>
    rw [q] at e
    simp only at e
    by_cases c1 : t.kind = "end of line"
    · rw [if_pos c1] at e; cases e; exact h
    rw [if_neg c1] at e
    by_cases c2 : acOk "word" ["end"] t = true
    · rw [if_pos c2] at e
      by_cases c3 : S.blks.length = 1
      · rw [if_pos c3] at e; cases e
      rw [if_neg c3] at e
      cases q2 : takeM ts "end of line" none 1 with
      | error c => rw [q2] at e; cases e
      | ok j =>
        rw [q2] at e
        cases e
        exact close_d h
    rw [if_neg c2] at e
    by_cases c3 : 30 < S.count + 1
    · rw [if_pos c3] at e; cases e
    rw [if_neg c3] at e
    by_cases c4 : t.kind = "name"
    · rw [if_pos c4] at e
      cases q2 : assignM names ts with
      | error c => rw [q2] at e; cases e
      | ok rows =>
        rw [q2] at e
        cases e
        obtain ⟨f, wf, df⟩ := asg_fine tok nl q2
        exact put_d ok h f wf df
    · rw [if_neg c4] at e
      cases q2 : openM ts S.blks with
      | error c => rw [q2] at e; cases e
      | ok hr =>
        obtain ⟨hd, r⟩ := hr
        rw [q2] at e
        cases e
        obtain ⟨f, df, wf⟩ := openM_d tok q2
        have tl := Nat.le_trans (tot_len S.blks) ok.tot
        refine ⟨fun B m => ?_, fun B m => ?_, fun B m => ?_, ?_⟩
        · rcases List.mem_cons.mp m with rfl | m
          · exact ⟨f, fine_nil⟩
          · exact h.fine B m
        · rcases List.mem_cons.mp m with rfl | m
          · exact df
          · exact h.flat B m
        · rcases List.mem_cons.mp m with rfl | m
          · show 0 + 2 * (S.blks.length + 1) ≤ 6 + 2 * (S.count + 1)
            omega
          · have := h.deep B m
            show PyData.depthAll B.inner + 2 * (S.blks.length + 1) ≤ 6 + 2 * (S.count + 1)
            omega
        · have := h.wt
          show PyData.weightAll hd + 0 + 2 + wtB S.blks ≤ 1000 * (S.count + 1) + 2
          omega
theorem readM_d {names : List Str} {S S' : PS} {z : Str} (hz : (tl z).length ≤ 100000) (nl : names.length ≤ 4) (ok : PSok S) (h : PSd S) (e : readM names S z = .ok S') : PSd S' := by
  unfold readM at e
  cases q : lexM z with
  | error c => rw [q] at e; cases e
  | ok ts => rw [q] at e; exact lineM_d (lexM_ok hz q) nl ok h e
end Kw

set_option Elab.async false
set_option linter.all false
set_option maxRecDepth 100000
set_option maxHeartbeats 4000000
namespace Kw
open PySem PySem.Spec PyProof.Rows L2
/-! ### names are small -/
def NmF (n : Str) : Prop := n.length ≤ 8 ∧ Fine (.str n)
theorem sAl_lt {c : Nat} (h : inS sAl c = true) : c < 123 := by
  unfold inS at h
  have h := of_decide_eq_true h
  have key : sAl.cps.toList.all (fun c => decide (c < 123)) = true := by decide +kernel
  exact of_decide_eq_true (List.all_eq_true.mp key c h)
theorem tok1_name {r : List Nat} {k t : Str} (h : tok1 r = some (k, t)) (hk : k = "name") : NmF t := by
  have l8 : t.length ≤ 8 := by
    rcases tok1_kind h with ⟨e, _⟩ | ⟨_, _, e⟩ | ⟨e, _⟩ | ⟨e, _⟩
    · rw [hk] at e; exact absurd e (by decide)
    · exact e
    · rw [hk] at e; exact absurd e (by decide)
    · rw [hk] at e; exact absurd e (by decide)
  refine ⟨l8, ?_, by simp only [PyData.showable]⟩
  simp only [PyData.leavesShort]
  refine List.all_eq_true.mpr fun x hx => decide_eq_true ?_
  cases r with
  | nil => cases h
  | cons c r =>
  have h : tokC c (c :: r) = some (k, t) := h
  unfold tokC at h
  by_cases a : inS sSmall c = true
  · rw [if_pos a] at h
    by_cases b : mk (run sAl (c :: r)) ∈ sKeys
    · rw [if_pos (decide_eq_true b)] at h
      obtain ⟨rfl, rfl⟩ := Prod.mk.inj (Option.some.inj h)
      exact absurd hk (by decide)
    · rw [if_neg (by rw [decide_eq_false b]; exact Bool.false_ne_true)] at h
      by_cases d : 8 < (run sAl (c :: r)).length
      · rw [if_pos d] at h; cases h
      · rw [if_neg d] at h
        obtain ⟨rfl, rfl⟩ := Prod.mk.inj (Option.some.inj h)
        have := sAl_lt (run_all sAl (c :: r) x hx)
        exact Nat.lt_of_lt_of_le this (by decide)
  · rw [if_neg a] at h
    by_cases b : inS sDig c = true
    · rw [if_pos b] at h
      by_cases d : 6 < (run sDig (c :: r)).length ∨ (1 < (run sDig (c :: r)).length ∧ c = 48)
      · rw [if_pos d] at h; cases h
      · rw [if_neg d] at h
        obtain ⟨rfl, rfl⟩ := Prod.mk.inj (Option.some.inj h)
        exact absurd hk (by decide)
    · rw [if_neg b] at h
      cases q : sSyms.find? fun s => decide (mk ((c :: r).take s.length) = s) with
      | none => rw [q] at h; cases h
      | some s =>
        rw [q] at h
        obtain ⟨rfl, rfl⟩ := Prod.mk.inj (Option.some.inj h)
        exact absurd hk (by decide)
theorem namesGo_f {ts : List Tk} (ht : ∀ t ∈ ts, t.kind = "name" → NmF t.text) {out : List Str} {j : Nat} : ∀ (f i : Nat) (ns : List Str), (∀ n ∈ ns, NmF n) → namesGo ts f ns i = .ok (out, j) → ∀ n ∈ out, NmF n
  | 0, _, _, _, e => by cases e
  | f + 1, i, ns, h, e => by
    unfold namesGo at e
    cases q : ts[i]? with
    | none => rw [q] at e; cases e
    | some t =>
      rw [q] at e
      simp only at e
      by_cases c1 : tkOk "name" none t = true
      case neg => rw [if_neg c1] at e; cases e
      rw [if_pos c1] at e
      have tn : t.kind = "name" := by
        unfold tkOk at c1
        simp at c1
        exact c1
      have h' : ∀ n ∈ ns ++ [t.text], NmF n := fun n m => by
        rcases List.mem_append.mp m with m | m
        · exact h n m
        · rw [List.mem_singleton.mp m]; exact ht t (List.mem_of_getElem? q) tn
      by_cases c2 : t.text ∈ ns ∨ ns.length = 4
      · rw [if_pos c2] at e; cases e
      rw [if_neg c2] at e
      cases q2 : symAt ts (i + 1) [","] with
      | none => rw [q2] at e; cases e; exact h'
      | some _ => rw [q2] at e; exact namesGo_f ht f (i + 2) _ h' e
theorem namesM_f {z : Str} {ns : List Str} (e : namesM z = .ok ns) : ∀ n ∈ ns, NmF n := by
  unfold namesM at e
  cases q : lexM z with
  | error c => rw [q] at e; cases e
  | ok t0 =>
    rw [q] at e
    have ht : ∀ t ∈ t0 ++ [endTk z], t.kind = "name" → NmF t.text := fun t m k => by
      rcases List.mem_append.mp m with m | m
      · exact tok1_name ((lexM_of q).1 t m).at_ k
      · rw [List.mem_singleton.mp m] at k; exact absurd k (by show ¬ ("end of line" : Str) = "name"; decide)
    have e : namesT (t0 ++ [endTk z]) = .ok ns := e
    unfold namesT at e
    cases q1 : takeM (t0 ++ [endTk z]) "word" (some "vars") 0 with
    | error c => rw [q1] at e; cases e
    | ok i =>
      rw [q1] at e
      simp only at e
      cases q2 : namesGo (t0 ++ [endTk z]) ((t0 ++ [endTk z]).length + 1) [] i with
      | error c => rw [q2] at e; cases e
      | ok nj =>
        obtain ⟨ns', j⟩ := nj
        rw [q2] at e
        simp only at e
        cases q3 : takeM (t0 ++ [endTk z]) "end of line" none j with
        | error c => rw [q3] at e; cases e
        | ok _ => rw [q3] at e; cases e; exact namesGo_f ht _ _ _ (fun _ m => absurd m List.not_mem_nil) q2
end Kw

set_option Elab.async false
set_option linter.all false
set_option maxRecDepth 100000
set_option maxHeartbeats 4000000
namespace Kw
open PySem PySem.Spec PyProof.Rows L2
/-! ### the columns of problems -/
def Er {α : Type} (R : Except Nat α) : Prop := ∀ c, R = .error c → c < 1000000
theorem er_ok {α : Type} (a : α) : Er (.ok a : Except Nat α) := fun _ e => by cases e
theorem er_err {α : Type} {c : Nat} (h : c < 1000000) : Er (.error c : Except Nat α) := fun _ e => by cases e; exact h
theorem er_zero {α : Type} : Er (.error 0 : Except Nat α) := er_err (by decide)
theorem er_bind {α β : Type} {R : Except Nat α} {f : α → Except Nat β} (h : Er R) (g : ∀ a, R = .ok a → Er (f a)) : Er (match R with | .error c => .error c | .ok a => f a) := by
  cases R with
  | error c => exact er_err (h c rfl)
  | ok a => exact g a rfl
theorem sym_mem {ts : List Tk} {i : Nat} {texts : List Str} {t : Tk} (e : symAt ts i texts = some t) : t ∈ ts := by
  unfold symAt at e
  cases q : ts[i]? with
  | none => rw [q] at e; cases e
  | some u =>
    rw [q] at e
    simp only at e
    by_cases a : acOk "symbol" texts u = true
    · rw [if_pos a] at e; cases e; exact List.mem_of_getElem? q
    · rw [if_neg a] at e; cases e
section
variable {ts : List Tk} (tok : TsOk ts)
include tok
theorem colAt_lt (j : Nat) : colAt ts j < 1000000 := by
  unfold colAt
  cases q : ts[j]? with
  | none => decide
  | some t => exact tok.col t (List.mem_of_getElem? q)
theorem takeM_er (k : Str) (tx : Option Str) (i : Nat) : Er (takeM ts k tx i) := by
  unfold takeM
  cases q : ts[i]? with
  | none => exact er_zero
  | some t =>
    simp only
    by_cases c : tkOk k tx t = true
    · rw [if_pos c]; exact er_ok _
    · rw [if_neg c]; exact er_err (tok.col t (List.mem_of_getElem? q))
theorem mulLoop_er {fac : Nat → Res} (h : ∀ i, Er (fac i)) : ∀ (f : Nat) (r : Row) (i : Nat), Er (mulLoop fac ts f r i)
  | 0, _, _ => er_zero
  | f + 1, r, i => by
    unfold mulLoop
    cases q : symAt ts i ["*", "/"] with
    | none => exact er_ok _
    | some t =>
      simp only
      cases q2 : fac (i + 1) with
      | error c => exact er_err (h _ c q2)
      | ok bj =>
        obtain ⟨b, j⟩ := bj
        simp only
        cases q3 : joinM t.text r b with
        | none => exact er_err (tok.col t (sym_mem q))
        | some x => exact mulLoop_er h f x j
theorem termOf_er {fac : Nat → Res} (h : ∀ i, Er (fac i)) (i : Nat) : Er (termOf fac ts i) := by
  unfold termOf
  cases q : fac i with
  | error c => exact er_err (h _ c q)
  | ok aj => exact mulLoop_er tok h _ _ _
theorem sumLoop_er {ter : Nat → Res} (h : ∀ i, Er (ter i)) : ∀ (f : Nat) (r : Row) (i : Nat), Er (sumLoop ter ts f r i)
  | 0, _, _ => er_zero
  | f + 1, r, i => by
    unfold sumLoop
    cases q : symAt ts i ["+", "-"] with
    | none => exact er_ok _
    | some t =>
      simp only
      cases q2 : ter (i + 1) with
      | error c => exact er_err (h _ c q2)
      | ok bj => exact sumLoop_er h f _ _
theorem exprOf_er {ter : Nat → Res} (h : ∀ i, Er (ter i)) (i : Nat) : Er (exprOf ter ts i) := by
  unfold exprOf
  cases q : ter i with
  | error c => exact er_err (h _ c q)
  | ok aj => exact sumLoop_er tok h _ _ _
theorem facStep_er (names : List Str) {neg sub : Nat → Res} (h1 : ∀ i, Er (neg i)) (h2 : ∀ i, Er (sub i)) (i : Nat) : Er (facStep names ts neg sub i) := by
  unfold facStep
  cases q : ts[i]? with
  | none => exact er_zero
  | some t =>
    have ct := tok.col t (List.mem_of_getElem? q)
    simp only
    by_cases c1 : t.kind = "number"
    · rw [if_pos c1]; exact er_ok _
    rw [if_neg c1]
    by_cases c2 : t.kind = "name"
    · rw [if_pos c2]
      cases declM names t with
      | none => exact er_err ct
      | some p => exact er_ok _
    rw [if_neg c2]
    by_cases c3 : acOk "symbol" ["-"] t = true
    · rw [if_pos c3]
      cases q2 : neg (i + 1) with
      | error c => exact er_err (h1 _ c q2)
      | ok rj => exact er_ok _
    rw [if_neg c3]
    by_cases c4 : tkOk "symbol" (some "(") t = true
    · rw [if_pos c4]
      cases q2 : sub (i + 1) with
      | error c => exact er_err (h2 _ c q2)
      | ok rj =>
        obtain ⟨r, j⟩ := rj
        simp only
        cases q3 : ts[j]? with
        | none => exact er_zero
        | some u =>
          simp only
          by_cases c5 : tkOk "symbol" (some ")") u = true
          · rw [if_pos c5]; exact er_ok _
          · rw [if_neg c5]; exact er_err (tok.col u (List.mem_of_getElem? q3))
    · rw [if_neg c4]; exact er_err ct
theorem facM_er (names : List Str) : ∀ d i, Er (facM names ts d i)
  | 0, i => facStep_er tok names (fun j => er_err (colAt_lt tok j)) (fun j => er_err (colAt_lt tok j)) i
  | d + 1, i => facStep_er tok names (facM_er names d) (exprOf_er tok (termOf_er tok (facM_er names d))) i
theorem exprM_er (names : List Str) : ∀ d i, Er (exprM names ts d i)
  | 0, i => er_err (colAt_lt tok i)
  | d + 1, i => exprOf_er tok (termOf_er tok (facM_er tok names d)) i
theorem placesM_er (names : List Str) : ∀ (f : Nat) (acc : List Nat) (i : Nat), Er (placesM names ts f acc i)
  | 0, _, _ => er_zero
  | f + 1, acc, i => by
    unfold placesM
    cases q : ts[i]? with
    | none => exact er_zero
    | some t =>
      have ct := tok.col t (List.mem_of_getElem? q)
      simp only
      cases declM names t with
      | none => exact er_err ct
      | some pl =>
        simp only
        by_cases c : pl ∈ acc
        · rw [if_pos c]; exact er_err ct
        rw [if_neg c]
        cases symAt ts (i + 1) [","] with
        | none => exact er_ok _
        | some _ => exact placesM_er names f _ _
theorem rowsM_er (names : List Str) : ∀ (pls : List Nat) (c : Nat) (rows : List Row) (i : Nat), Er (rowsM names ts pls c rows i)
  | [], _, _, _ => er_ok _
  | pl :: ps, c, rows, i => by
    intro x e
    unfold rowsM at e
    have h1 : Er (if c = 0 then .ok i else takeM ts "symbol" (some ",") i : Except Nat Nat) := by
      by_cases z : c = 0
      · rw [if_pos z]; exact er_ok _
      · rw [if_neg z]; exact takeM_er tok _ _ _
    cases q1 : (if c = 0 then .ok i else takeM ts "symbol" (some ",") i : Except Nat Nat) with
    | error y => rw [q1] at e; cases e; exact h1 _ q1
    | ok j =>
      rw [q1] at e
      simp only at e
      cases q2 : exprM names ts 20 j with
      | error y => rw [q2] at e; cases e; exact exprM_er tok names _ _ _ q2
      | ok rk =>
        obtain ⟨r, k⟩ := rk
        rw [q2] at e
        simp only at e
        by_cases q3 : isShortM r = true
        · rw [if_pos q3] at e; exact rowsM_er names ps _ _ _ x e
        · rw [if_neg q3] at e
          first
          | (cases e; exact colAt_lt tok _)
          | (cases e; decide)
theorem assignM_er (names : List Str) : Er (assignM names ts) := by
  unfold assignM
  cases q : placesM names ts (ts.length + 1) [] 0 with
  | error c => exact er_err (placesM_er tok names _ _ _ c q)
  | ok pi =>
    obtain ⟨pls, i⟩ := pi
    simp only
    cases q2 : takeM ts "symbol" (some ":=") i with
    | error c => exact er_err (takeM_er tok _ _ _ c q2)
    | ok j =>
      simp only
      cases q3 : rowsM names ts pls 0 (unitsM names.length) j with
      | error c => exact er_err (rowsM_er tok names _ _ _ _ c q3)
      | ok rk =>
        obtain ⟨rows, k⟩ := rk
        simp only
        cases q4 : takeM ts "end of line" none k with
        | error c => exact er_err (takeM_er tok _ _ _ c q4)
        | ok _ => exact er_ok _
theorem openM_er (bs : List Blk) : Er (openM ts bs) := by
  unfold openM
  cases q : ts[0]? with
  | none => exact er_zero
  | some t =>
    have ct := tok.col t (List.mem_of_getElem? q)
    simp only
    by_cases c1 : acOk "word" ["repeat", "forever", "mean"] t = true ∧ bs.length ≤ 4
    case neg => rw [if_neg c1]; exact er_err ct
    rw [if_pos c1]
    by_cases c2 : t.text = "repeat"
    · rw [if_pos c2]
      cases q1 : ts[1]? with
      | none => exact er_zero
      | some u =>
        simp only
        by_cases c3 : u.kind = "number" ∧ numV u * topR bs ≤ 50
        case neg => rw [if_neg c3]; exact er_err (tok.col u (List.mem_of_getElem? q1))
        rw [if_pos c3]
        cases q2 : takeM ts "end of line" none 2 with
        | error c => exact er_err (takeM_er tok _ _ _ c q2)
        | ok _ => exact er_ok _
    · rw [if_neg c2]
      cases q2 : takeM ts "end of line" none 1 with
      | error c => exact er_err (takeM_er tok _ _ _ c q2)
      | ok _ => exact er_ok _
theorem lineM_er (names : List Str) (S : PS) : Er (lineM names S ts) := by
  unfold lineM
  cases q : ts[0]? with
  | none => exact er_zero
  | some t =>
    have ct := tok.col t (List.mem_of_getElem? q)
    simp only
    by_cases c1 : t.kind = "end of line"
    · rw [if_pos c1]; exact er_ok _
    rw [if_neg c1]
    by_cases c2 : acOk "word" ["end"] t = true
    · rw [if_pos c2]
      by_cases c3 : S.blks.length = 1
      · rw [if_pos c3]; exact er_err ct
      rw [if_neg c3]
      cases q2 : takeM ts "end of line" none 1 with
      | error c => exact er_err (takeM_er tok _ _ _ c q2)
      | ok _ => exact er_ok _
    rw [if_neg c2]
    by_cases c3 : 30 < S.count + 1
    · rw [if_pos c3]; exact er_err ct
    rw [if_neg c3]
    by_cases c4 : t.kind = "name"
    · rw [if_pos c4]
      cases q2 : assignM names ts with
      | error c => exact er_err (assignM_er tok names c q2)
      | ok rows => exact er_ok _
    · rw [if_neg c4]
      cases q2 : openM ts S.blks with
      | error c => exact er_err (openM_er tok _ c q2)
      | ok hr => exact er_ok _
end
end Kw

set_option Elab.async false
set_option linter.all false
set_option maxRecDepth 100000
set_option maxHeartbeats 4000000
namespace Kw
open PySem PySem.Spec PyProof.Rows L2
/-! ### columns, on -/
theorem lexGo_er {z : List Nat} (hz : z.length ≤ 100000) : ∀ (n i : Nat) (ts : List Tk), Er (lexGo z n i ts)
  | 0, _, _ => er_ok _
  | n + 1, i, ts => by
    unfold lexGo
    cases q : z.drop i with
    | nil => exact er_ok _
    | cons c r =>
      have il : i < z.length := by
        have := congrArg List.length q
        rw [List.length_drop, List.length_cons] at this
        omega
      have e1 : i + 1 < 1000000 := by omega
      simp only
      by_cases c1 : c = 32
      · rw [if_pos c1]; exact lexGo_er hz n _ _
      rw [if_neg c1]
      cases q2 : tok1 (c :: r) with
      | none => exact er_err e1
      | some kt =>
        obtain ⟨k, t⟩ := kt
        simp only
        by_cases c2 : ts.length = 150
        · rw [if_pos c2]; exact er_err e1
        · rw [if_neg c2]; exact lexGo_er hz n _ _
theorem lexM_er {z : Str} (hz : (tl z).length ≤ 100000) : Er (lexM z) := lexGo_er hz _ _ _
theorem readM_er {names : List Str} {S : PS} {z : Str} (hz : (tl z).length ≤ 100000) : Er (readM names S z) := by
  unfold readM
  cases q : lexM z with
  | error c => exact er_err (lexM_er hz c q)
  | ok ts => exact lineM_er (lexM_ok hz q) names S
theorem namesGo_er {ts : List Tk} (tok : TsOk ts) : ∀ (f : Nat) (ns : List Str) (i : Nat), Er (namesGo ts f ns i)
  | 0, _, _ => er_zero
  | f + 1, ns, i => by
    unfold namesGo
    cases q : ts[i]? with
    | none => exact er_zero
    | some t =>
      have ct := tok.col t (List.mem_of_getElem? q)
      simp only
      by_cases c1 : tkOk "name" none t = true
      case neg => rw [if_neg c1]; exact er_err ct
      rw [if_pos c1]
      by_cases c2 : t.text ∈ ns ∨ ns.length = 4
      · rw [if_pos c2]; exact er_err ct
      rw [if_neg c2]
      cases symAt ts (i + 1) [","] with
      | none => exact er_ok _
      | some _ => exact namesGo_er tok f _ _
theorem namesM_er {z : Str} (hz : (tl z).length ≤ 100000) : Er (namesM z) := by
  unfold namesM
  cases q : lexM z with
  | error c => exact er_err (lexM_er hz c q)
  | ok t0 =>
    have tok := lexM_ok hz q
    simp only
    unfold namesT
    cases q1 : takeM (t0 ++ [endTk z]) "word" (some "vars") 0 with
    | error c => exact er_err (takeM_er tok _ _ _ c q1)
    | ok i =>
      simp only
      cases q2 : namesGo (t0 ++ [endTk z]) ((t0 ++ [endTk z]).length + 1) [] i with
      | error c => exact er_err (namesGo_er tok _ _ _ c q2)
      | ok nj =>
        obtain ⟨ns', j⟩ := nj
        simp only
        cases q3 : takeM (t0 ++ [endTk z]) "end of line" none j with
        | error c => exact er_err (takeM_er tok _ _ _ c q3)
        | ok _ => exact er_ok _
/-! ### the whole text -/
/-- what a reader has found so far -/
def StD : Option (List Str × PS) → Prop
  | none => True
  | some (ns, S) => (∀ n ∈ ns, NmF n) ∧ ns.length ≤ 4 ∧ PSok S ∧ PSd S
def GoD (m : Nat) : Except (Nat × Nat) (Option (List Str × PS)) → Prop
  | .error (l, c) => l ≤ m ∧ c < 1000000
  | .ok st => StD st
theorem progGo_d : ∀ (ls : List Str) (i : Nat) (st : Option (List Str × PS)), (∀ z ∈ ls, (tl z).length ≤ 100000) → StD st → GoD (i + ls.length) (progGo st i ls)
  | [], _, st, _, h => by cases st <;> exact h
  | z :: zs, i, st, hl, h => by
    have hz := hl z (List.mem_cons_self ..)
    have hl' : ∀ y ∈ zs, (tl y).length ≤ 100000 := fun y m => hl y (List.mem_cons_of_mem _ m)
    have il : i + 1 ≤ i + (zs.length + 1) := by omega
    have ei : i + (z :: zs).length = i + 1 + zs.length := by rw [List.length_cons]; omega
    unfold progGo
    by_cases c1 : i = 80
    · rw [if_pos c1]; exact ⟨il, by decide⟩
    rw [if_neg c1, ei]
    cases st with
    | some nS =>
      obtain ⟨ns, S⟩ := nS
      obtain ⟨h1, h2, h3, h4⟩ := h
      simp only
      cases q : readM ns S z with
      | error c => exact ⟨by omega, readM_er hz c q⟩
      | ok S' => exact progGo_d zs (i + 1) _ hl' ⟨h1, h2, readM_ok h3 q, readM_d hz h2 h3 h4 q⟩
    | none =>
      simp only
      cases q : lexM z with
      | error c => exact ⟨by omega, lexM_er hz c q⟩
      | ok t0 =>
        simp only
        by_cases c2 : t0 = []
        · rw [if_pos c2]; exact progGo_d zs (i + 1) _ hl' trivial
        rw [if_neg c2]
        cases q2 : namesM z with
        | error c => exact ⟨by omega, namesM_er hz c q2⟩
        | ok ns => exact progGo_d zs (i + 1) _ hl' ⟨namesM_f q2, namesM_ok q2, PS0_ok, PS0_d⟩
end Kw

set_option Elab.async false
set_option linter.all false
set_option maxRecDepth 100000
set_option maxHeartbeats 4000000
namespace Kw
open PySem PySem.Spec PyProof.Rows L2
/-! ### what a reader answers is shown -/
theorem shows_of {d : PyData} (f : Fine d) (nd : d.hasDict = false) (dp : d.depth ≤ 150) (wt : d.weight ≤ 2 ^ 20) : Shows d :=
  ⟨f.2, nd, dp, PyData.shown_fits (B := 13) (by decide) (by decide) f.1 wt⟩
theorem fine_non : Fine .none := ⟨by simp only [PyData.leavesShort], by simp only [PyData.showable]⟩
theorem bad_shows {l c : Nat} (hl : l < 1000000) (hc : c < 1000000) : Shows (outD (.error (l, c))) := by
  have w1 := wt_int (i := (l : Int)) (by omega)
  have w2 := wt_int (i := (c : Int)) (by omega)
  refine shows_of (fine_tup (fine_cons fine_non (fine_cons (fine_int (by omega)) (fine_cons (fine_int (by omega)) fine_nil)))) ?_ ?_ ?_
  · simp only [outD, PyData.hasDict, PyData.hasDictAll, Bool.or_self]
  · simp only [outD, PyData.depth, PyData.depthAll]; decide
  · show PyData.weightAll [.none, .int l, .int c] ≤ 1048576
    simp only [PyData.weightAll]
    have : (PyData.none).weight = 0 := by simp only [PyData.weight]
    omega
mutual
theorem nodict : ∀ d : PyData, tupled d = true → d.hasDict = false
  | .none, _ => by simp only [PyData.hasDict]
  | .bool _, _ => by simp only [PyData.hasDict]
  | .int _, _ => by simp only [PyData.hasDict]
  | .str _, _ => by simp only [PyData.hasDict]
  | .list _, h => by cases h
  | .tuple ds, h => by
    simp only [PyData.hasDict]
    exact nodictAll ds h
  | .dict _, h => by cases h
theorem nodictAll : ∀ ds : List PyData, tupled.go ds = true → PyData.hasDictAll ds = false
  | [], _ => by simp only [PyData.hasDictAll]
  | d :: ds, h => by
    have h : (tupled d && tupled.go ds) = true := h
    rw [Bool.and_eq_true] at h
    simp only [PyData.hasDictAll, nodict d h.1, nodictAll ds h.2, Bool.or_self]
end
theorem nm_data : ∀ {ns : List Str}, (∀ n ∈ ns, NmF n) → FineAll (ns.map PyData.str) ∧ PyData.hasDictAll (ns.map PyData.str) = false ∧ PyData.depthAll (ns.map PyData.str) = 0 ∧ PyData.weightAll (ns.map PyData.str) ≤ 9 * ns.length
  | [], _ => ⟨fine_nil, by simp only [List.map_nil, PyData.hasDictAll], by simp only [List.map_nil, PyData.depthAll], by simp only [List.map_nil, PyData.weightAll]; decide⟩
  | n :: ns, h => by
    obtain ⟨h1, h2, h3, h4⟩ := nm_data (ns := ns) fun m k => h m (List.mem_cons_of_mem _ k)
    have hn := h n (List.mem_cons_self ..)
    have l8 : n.cps.size ≤ 8 := hn.1
    refine ⟨fine_cons hn.2 h1, ?_, ?_, ?_⟩
    · simp only [List.map_cons, PyData.hasDictAll, PyData.hasDict, h2, Bool.or_self]
    · simp only [List.map_cons, PyData.depthAll, PyData.depth, h3, Nat.max_self]
    · simp only [List.map_cons, PyData.weightAll, PyData.weight, List.length_cons]; omega
theorem good_shows {ns : List Str} {ds : List PyData} (hn : ∀ n ∈ ns, NmF n) (nl : ns.length ≤ 4) (fd : FineAll ds) (td : tupled.go ds = true) (dd : PyData.depthAll ds ≤ 100) (wd : PyData.weightAll ds ≤ 100000) : Shows (outD (.ok (ns, ds))) := by
  obtain ⟨h1, h2, h3, h4⟩ := nm_data hn
  refine shows_of (fine_tup (fine_cons (fine_tup (fine_cons (fine_tup h1) (fine_cons (fine_tup fd) fine_nil))) (fine_cons fine_non (fine_cons fine_non fine_nil)))) ?_ ?_ ?_
  · simp only [outD, namesD, PyData.hasDict, PyData.hasDictAll, h2, nodictAll ds td, Bool.or_self]
  · simp only [outD, namesD, PyData.depth, PyData.depthAll, h3]
    omega
  · show _ ≤ 1048576
    simp only [outD, namesD, PyData.weight, PyData.weightAll]
    omega
theorem res_shows {on : Option (List Str)} {ls : List Str} (h : StD (st0 on)) (hl : ∀ z ∈ ls, (tl z).length ≤ 100000) (n : ls.length ≤ 1000) : Shows (outD (resM on ls)) := by
  have g := progGo_d ls 0 (st0 on) hl h
  unfold resM
  generalize progGo (st0 on) 0 ls = R at g
  cases R with
  | error e =>
    obtain ⟨l, c⟩ := e
    obtain ⟨g1, g2⟩ := g
    exact bad_shows (by omega) g2
  | ok st =>
    cases st with
    | none => exact bad_shows (by omega) (by decide)
    | some nS =>
      obtain ⟨ns, S⟩ := nS
      obtain ⟨g1, g2, g3, g4⟩ := g
      show Shows (outD (match finM ls.length S with | .error e => .error e | .ok ds => .ok (ns, ds)))
      unfold finM
      by_cases c : 1 < S.blks.length
      · rw [if_pos c]; exact bad_shows (by omega) (by decide)
      rw [if_neg c]
      obtain ⟨bs, cnt⟩ := S
      cases bs with
      | nil => exact absurd rfl g3.ne
      | cons B Bs =>
        have d := g4.deep B (List.mem_cons_self ..)
        have w := g4.wt
        have cn := g3.count
        have e : wtB (B :: Bs) = PyData.weightAll B.head + PyData.weightAll B.inner + 2 + wtB Bs := rfl
        simp only [e] at w
        simp only at d cn
        exact good_shows g1 g2 (g4.fine B (List.mem_cons_self ..)).2 (g3.tupd B (List.mem_cons_self ..)).2 (by show PyData.depthAll B.inner ≤ 100; omega) (by show PyData.weightAll B.inner ≤ 100000; omega)
theorem xy_std : StD (st0 (some xyN)) := ⟨fun n m => by
  have key : xyN.all (fun n => decide (n.length ≤ 8 ∧ (PyData.str n).leavesShort 13 = true ∧ (PyData.str n).showable = true)) = true := by decide +kernel
  have := of_decide_eq_true (List.all_eq_true.mp key n m)
  exact ⟨this.1, this.2.1, this.2.2⟩, by decide, PS0_ok, PS0_d⟩
end Kw

set_option Elab.async false
set_option linter.all false
set_option maxRecDepth 100000
set_option maxHeartbeats 4000000
namespace Kw
open PySem PySem.Spec PyProof.Rows L2
local macro_rules | `(tactic| walk_at $s:str) => do
  match s.getString.splitOn " " with
  | ["new", a] =>
    let p := Lean.mkIdent (Lean.Name.mkSimple ("p" ++ a))
    let n := Lean.mkIdent (Lean.Name.mkSimple ("n" ++ a))
    let H := Lean.mkIdent (Lean.Name.mkSimple ("H" ++ a))
    let s := Lean.mkIdent (Lean.Name.mkSimple ("s" ++ a))
    let h := Lean.mkIdent (Lean.Name.mkSimple ("h" ++ a))
    `(tactic| (intro $p $n; generalize e : upd _ $p _ = $H; have $s : Same _ $H := e ▸ same_new $n; have $h : $H $p = some _ := e ▸ upd_same; clear e))
  | _ => Lean.Macro.throwUnsupported
def spLaw (K : PySem.W.Frag) : Sp := fun vs H Q _ => ∃ (a : Addr) (ns : List Int), vs = [.ref a] ∧ SqL K H a (ns.map V.int) ∧ ns.length ≤ 63 ∧ ∀ H', Q (.bl true) H'
/-! ### the law's texts -/
structure LsB (b : Nat) (ls : List Str) : Prop where
  len : ls.length ≤ 160
  ok : Lns b ls
/-- as the readers take them; as they are made -/
abbrev LsT (ls : List Str) : Prop := LsB 100000 ls
abbrev LsM (ls : List Str) : Prop := LsB 7100 ls
def TxAt (H : Hp) (p t r : Addr) : Prop := r ≠ p ∧ r ≠ t ∧ ∃ ls : List Str, H r = some (.lst (ls.map V.str)) ∧ LsM ls
def TxsAt (H : Hp) (p t : Addr) (k : Nat) : Prop := t ≠ p ∧ ∃ rs : List Addr, H t = some (.lst (rs.map V.ref)) ∧ (rs.length ≤ k ∧ 0 < rs.length) ∧ ∀ r ∈ rs, TxAt H p t r
theorem TxAt.kp {H H' : Hp} {p t r : Addr} (h : TxAt H p t r) (k : Kp p H H') : TxAt H' p t r := let ⟨h1, h2, ls, h3, h4⟩ := h; ⟨h1, h2, ls, k _ _ h1 h3, h4⟩
theorem TxsAt.kp {H H' : Hp} {p t : Addr} {n : Nat} (h : TxsAt H p t n) (k : Kp p H H') : TxsAt H' p t n := let ⟨h1, rs, h2, h3, h4⟩ := h; ⟨h1, rs, k _ _ h1 h2, h3, fun r m => (h4 r m).kp k⟩
theorem TxsAt.more {H : Hp} {p t : Addr} {n m : Nat} (h : TxsAt H p t n) (l : n ≤ m) : TxsAt H p t m := let ⟨h1, rs, h2, h3, h4⟩ := h; ⟨h1, rs, h2, ⟨Nat.le_trans h3.1 l, h3.2⟩, h4⟩
/-- one more, appended -/
theorem TxAt.upd {H : Hp} {p t r : Addr} {u : HO} (h : TxAt H p t r) : TxAt (upd H t u) p t r := let ⟨h1, h2, ls, h3, h4⟩ := h; ⟨h1, h2, ls, by rw [upd_ne h2]; exact h3, h4⟩
theorem txs_add {H : Hp} {p t r : Addr} {n : Nat} {rs : List Addr} (h1 : t ≠ p) (h3 : rs.length ≤ n) (h4 : ∀ r ∈ rs, TxAt H p t r) (g : TxAt H p t r) : TxsAt (upd H t (.lst (rs.map V.ref ++ [.ref r]))) p t (n + 1) :=
  ⟨h1, rs ++ [r], by rw [upd_same, List.map_append] <;> rfl, ⟨by rw [List.length_append]; exact Nat.add_le_add_right h3 1, by rw [List.length_append]; exact Nat.succ_pos _⟩, fun q m => by
    rcases List.mem_append.mp m with m | m
    · exact (h4 q m).upd
    · rw [List.mem_singleton.mp m]; exact g.upd⟩
/-- a list of lines, apart from the supply -/
def FrT (H : Hp) (p r : Addr) : Prop := r ≠ p ∧ ∃ ls : List Str, H r = some (.lst (ls.map V.str)) ∧ LsM ls
theorem FrT.kp {H H' : Hp} {p r : Addr} (h : FrT H p r) (k : Kp p H H') : FrT H' p r := let ⟨h1, ls, h3, h4⟩ := h; ⟨h1, ls, k _ _ h1 h3, h4⟩
theorem FrT.same {H H' : Hp} {p r : Addr} (h : FrT H p r) (k : Same H H') : FrT H' p r := h.kp (Kf.of k)
theorem FrT.at {H H' : Hp} {p t r : Addr} (h : FrT H p r) (n : H t = none) (s : Same H H') : TxAt H' p t r := let ⟨h1, ls, h3, h4⟩ := h; ⟨h1, (fun e => by rw [e, n] at h3; cases h3), ls, s _ _ h3, h4⟩
theorem TxAt.fr {H : Hp} {p t r : Addr} (h : TxAt H p t r) : FrT H p r := let ⟨h1, _, e⟩ := h; ⟨h1, e⟩
theorem txs_new {H H' : Hp} {p q : Addr} {k : Nat} {rs : List Addr} (n : H q = none) (s : Same H H') (qp : q ≠ p) (e : H' q = some (.lst (rs.map V.ref))) (h : ∀ r ∈ rs, FrT H p r) (l : rs.length ≤ k) (l0 : 0 < rs.length) : TxsAt H' p q k :=
  ⟨qp, rs, e, ⟨l, l0⟩, fun r m => (h r m).at n s⟩
theorem lsT_all {b : Nat} {ls : List Str} (h : (decide (ls.length ≤ 160) && ls.all fun z => decide ((tl z).length ≤ b ∧ 10 ∉ tl z)) = true) : LsB b ls := by
  rw [Bool.and_eq_true] at h
  exact ⟨of_decide_eq_true h.1, lns_all h.2⟩
section
variable {P : Program} {w : World} {K : PySem.W.Frag} {mg : Str → Option Value} {base : Heap}
abbrev N_law : List Str := ["_law_script", "_law_supply_here", "_law_texts", "_law_word", "_law_heads", "_law_deep", "_law_first", "_law_last", "_law_turn", "_law_lines", "_law_time", "_law_due", "_law_names", "_law_rest", "_law_line_here"]
theorem sc_law : FnScope N_law ["_law_script"] (defScope s_law) := ⟨rfl, rfl, rfl, by decide +kernel, rfl, by decide +kernel, by decide +kernel⟩
theorem b_law (T : Tx K mg) : Binds K T.fd_law ["_law_script"] [] := T.F_law.bindsN fun _ _ _ _ _ _ us hl => match us, hl with | [_], _ => rfl
/-- where the law's body stands -/
abbrev lawX (P : Program) (w : World) (K : PySem.W.Frag) (mg : Str → Option Value) (base : Heap) (cdv : Value) (B : Around) (o : List Env) (z : Shared) (G : Hp) (E : XK) : Cx :=
  (cxOf CX0 P w K mg base N_law "law" (defScope s_law) (He.ga K "law") cdv B o z G E).nox
abbrev lawA (K : PySem.W.Frag) (cdv : Value) (B : Around) (z : Shared) : Around := B.deeper (envOfC "law" (defScope s_law) z.heap.objs.size (He.ga K "law") cdv)
/-! ### is a list of lines empty -/
def rNeE (K : PySem.W.Frag) : R2 := fun x y H Q => ∃ (a b : Addr) (xs : List V), x = .ref a ∧ y = .ref b ∧ SqL K H a xs ∧ SqL K H b [] ∧ Q (.bl (!xs.isEmpty)) H
theorem op_neE {X : Cx} (hu : X.A.units + 64 < cLine) : OpR X (compareOp .NotEq) (rNeE X.K) := by
  intro pins s σ H x y v u Q I rx ry h
  obtain ⟨a, b, xs, rfl, rfl, ha, hb, q⟩ := h
  cases rx
  cases ry
  obtain ⟨its, r1, l1, _⟩ := I.list ha
  obtain ⟨its2, r2, l2, _⟩ := I.list hb
  cases r2
  have hu : X.A.units < cLine := by omega
  cases r1 with
  | nil => exact PySem.SeqAt.RcNeAt.lists (e := fun _ => true) l1.isList l2.isList rfl hu (fun j h1 => absurd h1 (Nat.not_lt_zero j)) _ _ _ _ ⟨.bl _, H, I, rfl, q⟩
  | cons r t => exact PySem.SeqAt.RcNeAt.lists_lengths l1.isList l2.isList (by simp) hu _ _ _ _ ⟨.bl _, H, I, rfl, q⟩
/-! ### what the readers ask of a text -/
def rawT : List Str → List Str
  | [] => [""]
  | z :: zs => z :: zs
theorem LsB.raw {ls : List Str} (h : LsT ls) : LsT (rawT ls) := by
  cases ls with
  | nil => exact lsT_all (by decide +kernel)
  | cons z zs => exact h
theorem sumL_le {b : Nat} : ∀ {ls : List Str}, (∀ z ∈ ls, z.length ≤ b) → sumL ls ≤ ls.length * b
  | [], _ => Nat.zero_le _
  | z :: zs, h => by
    have h1 := h z (List.mem_cons_self ..)
    have h2 := sumL_le (b := b) (ls := zs) fun x m => h x (List.mem_cons_of_mem _ m)
    have e : sumL (z :: zs) = z.length + sumL zs := by unfold sumL; rw [List.map_cons, List.sum_cons]
    rw [e, List.length_cons, Nat.add_mul, Nat.one_mul]
    omega
theorem LsB.sum {ls : List Str} (h : LsT ls) : sumL ls + ls.length * 1 ≤ 16000160 := by
  have h1 := sumL_le (b := 100000) (ls := ls) fun z m => (h.ok.ok z m).len
  have h2 := h.len
  omega
theorem LsB.rawOk {ls : List Str} (h : LsT ls) : RawOk ls := ⟨Nat.le_trans h.len (by decide), fun z m => (h.ok.ok z m).len, fun z m => (h.ok.ok z m).no⟩
theorem tx_ok {ls : List Str} (h : LsT ls) (ne : ls ≠ []) : TxOk (Txt.join "\n" ls) ls := by
  have e : Txt.split (Txt.join "\n" ls) "\n" = ls := TL.split_join (s := 10) (S := []) (by decide +kernel) (by decide +kernel) ne (fun x m => (h.ok.ok x m).no)
  refine ⟨e, Nat.le_trans h.len (by decide), fun x m => (h.ok.ok x m).len, ?_⟩
  show (tl (Txt.join "\n" ls)).length + 2 ≤ sizeLine
  rw [tl_join']
  have l := len_joinL (S := tl "\n") (by decide +kernel) (ps := ls.map tl) (fun y => ne (List.map_eq_nil_iff.mp y))
  rw [sum_tl, List.length_map] at l
  have s := h.sum
  show _ ≤ 16777216
  omega
theorem tx_raw {ls : List Str} (h : LsT ls) : TxOk (Txt.join "\n" ls) (rawT ls) := by
  cases ls with
  | nil => exact txOk_one (z := "") (by decide +kernel) (by decide +kernel)
  | cons z zs => exact tx_ok h (List.cons_ne_nil _ _)
theorem outD_tup {on : Option (List Str)} {ls : List Str} : tupled (outD (resM on ls)) = true := by
  cases e : resM on ls with
  | error lc => rfl
  | ok nd =>
    obtain ⟨ns, ds⟩ := nd
    have h := out_tup e
    show (tupled (.tuple [namesD ns, .tuple ds]) && (true && (true && true))) = true
    rw [h] <;> rfl
theorem outD_ref {H : Hp} {K : PySem.W.Frag} {v : V} {R : Except (Nat × Nat) (List Str × List PyData)} (h : Dp K H v (outD R)) : ∃ a, v = .ref a := by
  cases R with
  | error lc => cases h with | tup h1 h2 => exact ⟨_, rfl⟩
  | ok nd => cases h with | tup h1 h2 => exact ⟨_, rfl⟩
theorem LsB.cuts {ls : List Str} (h : LsT ls) : (∀ z ∈ ls.map cutM, (tl z).length ≤ 100000) ∧ (ls.map cutM).length ≤ 1000 := by
  refine ⟨fun z m => ?_, by rw [List.length_map]; exact Nat.le_trans h.len (by decide)⟩
  obtain ⟨y, hy, rfl⟩ := List.mem_map.mp m
  exact Nat.le_trans (cut_len y) (h.ok.ok y hy).len
theorem LsB.shows {ls : List Str} (h : LsT ls) : Shows (outD (resM none (ls.map cutM))) := res_shows trivial h.cuts.1 h.cuts.2
theorem LsB.shows_xy {ls : List Str} (h : LsT ls) : Shows (outD (resM (some xyN) (ls.map cutM))) := res_shows xy_std h.cuts.1 h.cuts.2
theorem LsB.more {a b : Nat} {ls : List Str} (h : LsB a ls) (l : a ≤ b) : LsB b ls := ⟨h.len, h.ok.more l⟩
theorem LsB.sub {b : Nat} {l' l : List Str} (h : LsB b l) (y : l'.Sublist l) : LsB b l' := ⟨Nat.le_trans y.length_le h.len, h.ok.sub y.subset⟩
end
end Kw

set_option Elab.async false
set_option linter.all false
set_option maxRecDepth 100000
set_option maxHeartbeats 4000000
namespace Kw
open PySem PySem.Spec PyProof.Rows L2
local macro_rules | `(tactic| walk_at $s:str) => do
  match s.getString.splitOn " " with
  | ["new", a] =>
    let p := Lean.mkIdent (Lean.Name.mkSimple ("p" ++ a))
    let n := Lean.mkIdent (Lean.Name.mkSimple ("n" ++ a))
    let H := Lean.mkIdent (Lean.Name.mkSimple ("H" ++ a))
    let s := Lean.mkIdent (Lean.Name.mkSimple ("s" ++ a))
    let h := Lean.mkIdent (Lean.Name.mkSimple ("h" ++ a))
    `(tactic| (intro $p $n; generalize e : upd _ $p _ = $H; have $s : Same _ $H := e ▸ same_new $n; have $h : $H $p = some _ := e ▸ upd_same; clear e))
  | _ => Lean.Macro.throwUnsupported
/-! ### law: the texts are read twice -/
def TxtsE (H : Hp) (t : Addr) (rs : List Addr) : Prop := H t = some (.lst (rs.map V.ref)) ∧ ∀ r ∈ rs, ∃ ls : List Str, H r = some (.lst (ls.map V.str)) ∧ LsT ls
section
variable {P : Program} {w : World} {K : PySem.W.Frag} {mg : Str → Option Value} {base : Heap} {cdv : Value} {B : Around} {o : List Env} {z : Shared} {G : Hp} {E : XK}
theorem law_e (T : Tx K mg) (hG : (lawA K cdv B z).guards = some []) (hr : Room 89 (lawA K cdv B z)) : ∃ t, PSs (lawX P w K mg base cdv B o z G E) ((defBody s_law).drop 15) t ∧
    ∀ (D : Ends) (v0 v1 : Option V) (t0 : Addr) (v3 v4 v5 v6 v7 v8 v9 v10 v11 v12 v13 v14 : Option V) (H : Hp) (rs : List Addr), TxtsE H t0 rs → (∀ H', D.rt (.bl true) H') →
      t D [v0, v1, some (.ref t0), v3, v4, v5, v6, v7, v8, v9, v10, v11, v12, v13, v14] H := by
  refine ⟨_, (pss_cons (ps_for PassesOwn.never rfl (pi_list (pv 2)) (pg_name (i := 9) sc_law.nd rfl (Or.inl rfl)) (pss_cons (ps_set (i := 11) sc_law.nd rfl (Or.inl rfl) (pe_call (ok_law_read T) (hr.mono (by decide)) rfl T.g_law_read T.F_law_read.kp (b_law_read T) .nil pass0 (pa_cons (pe_ifExp (pt_cmpR (r := rNeE K) (op_neE hr.units) (pv 9) (pe_lst pa_nil) (nomark _)) (pv 9) (pe_lst (pa_cons pe_str pa_nil))) (pa_cons pe_non pa_nil))))
      (pss_cons (ps_for PassesOwn.never rfl (pi_tup (pe_tup (pa_cons pe_non (pa_cons pe_str pa_nil)))) (pg_name (i := 12) sc_law.nd rfl (Or.inl rfl)) (pss_one (ps_if (pt_not (pt_val (pe_callG (ok_law_alike T) hG (hr.mono (by decide)) rfl T.g_law_alike T.F_law_alike.kp (b_law_alike T) pass0 (pa_cons (pe_call (ok_law_outcome T) (hr.mono (by decide)) rfl T.g_law_outcome T.F_law_outcome.kp (b_law_outcome T) .nil pass0 (pa_cons (pe_join pe_str (pv 9)) (pa_cons (pv 12) pa_nil))) (pa_cons (pv 11) pa_nil))))) (pss_one (ps_ret pe_bl)) pss_nil)))
      (pss_cons (ps_set (i := 13) sc_law.nd rfl (Or.inl rfl) (pe_ifExp (pt_cmpR (op_gt) (pe_callB (call_lenQ (K := K) rfl) rfl T.z_len PySem.boot_len (pa_cons (pv 9) pa_nil)) pe_int (nomark _)) (pe_slice (r := rSlL K) sl_list (pv 9) (po_some pe_int) po_none) (pe_lst (pa_cons pe_str pa_nil))))
      (pss_one (ps_if (pt_not (pt_val (pe_callG (ok_law_alike T) hG (hr.mono (by decide)) rfl T.g_law_alike T.F_law_alike.kp (b_law_alike T) pass0 (pa_cons (pe_call (ok_law_outcome T) (hr.mono (by decide)) rfl T.g_law_outcome T.F_law_outcome.kp (b_law_outcome T) .nil pass0 (pa_cons (pe_join pe_str (pv 13)) (pa_cons (pe_lst (pa_cons pe_str (pa_cons pe_str pa_nil))) pa_nil))) (pa_cons (pe_call (ok_law_read T) (hr.mono (by decide)) rfl T.g_law_read T.F_law_read.kp (b_law_read T) .nil pass0 (pa_cons (pv 13) (pa_cons (pe_lst (pa_cons pe_str (pa_cons pe_str pa_nil))) pa_nil))) pa_nil))))) (pss_one (ps_ret pe_bl)) pss_nil))))))
      (pss_one (ps_ret pe_bl))), ?_⟩
  intro D v0 v1 t0 v3 v4 v5 v6 v7 v8 v9 v10 v11 v12 v13 v14 H rs ⟨hT, hL⟩ q
  refine ⟨_, rfl, t0, rfl, ⟨_, .of hT⟩, ?_⟩
  refine for_it (walk_list (K := K) (a := t0) (xs := rs.map V.ref)) (fun i σ H' => ∃ v9 v11 v12 v13 : Option V, σ = [v0, v1, some (.ref t0), v3, v4, v5, v6, v7, v8, v9, v10, v11, v12, v13, v14] ∧ Same H H')
    ⟨_, _, _, _, rfl, Same.refl H⟩ (fun i σ H' _ h => let ⟨_, _, _, _, _, s⟩ := h; .of (s _ _ hT)) ?_ ?_
  case refine_2 => exact fun σ H' _ => q H'
  rintro i x σ H0 H1 hi ⟨v9, v11, v12, v13, rfl, s1⟩ ⟨rfl, hx⟩
  obtain ⟨r, hr', rfl⟩ := map_get hx
  obtain ⟨ls, hl, lt⟩ := hL r (List.mem_of_getElem? hr')
  have l1 := s1 _ _ hl
  refine seq_join (fun σ' H' => ∃ b : Addr, σ' = [v0, v1, some (.ref t0), v3, v4, v5, v6, v7, v8, some (.ref r), v10, some (.ref b), v12, v13, v14] ∧ Same H H' ∧ Dp K H' (.ref b) (outD (resM none ((rawT ls).map cutM)))) ?_ ?_
  case refine_2 =>
    intro nx hnx
    have rd : ∀ (a : Addr) (H3 : Hp), Same H1 H3 → H3 a = some (.lst ((rawT ls).map V.str)) → spReadL K [.ref a, .non] H3 (fun v H4 => nx [v0, v1, some (.ref t0), v3, v4, v5, v6, v7, v8, some (.ref r), v10, some v, v12, v13, v14] H4) (fun _ _ _ => False) := fun a H3 s3 e3 => by
      refine ⟨a, .non, rawT ls, none, rfl, .of e3, lt.raw.rawOk, rfl, fun v H4 s4 d4 => ?_⟩
      obtain ⟨b, rfl⟩ := outD_ref d4
      exact hnx _ _ ⟨b, rfl, s1.trans (s3.trans s4), d4⟩
    refine ⟨_, rfl, sz 0, ?_⟩
    walk_at "new 21"
    refine ⟨_, _, _, rfl, rfl, .of (s21 _ _ l1), .of h21, _, rfl, ?_⟩
    cases ls with
    | nil =>
      refine ifF rfl ?_
      refine ⟨sz 1, ?_⟩
      walk_at "new 22"
      exact rd p22 H22 (s21.trans s22) h22
    | cons y ys =>
      refine ifT rfl ?_
      refine ⟨_, rfl, ?_⟩
      exact rd r H21 s21 (s21 _ _ l1)
  rintro σ H3 ⟨b, rfl, s3, d3⟩
  refine seq_join (fun σ' H' => ∃ v12, σ' = [v0, v1, some (.ref t0), v3, v4, v5, v6, v7, v8, some (.ref r), v10, some (.ref b), v12, v13, v14] ∧ Same H H') ?_ ?_
  case refine_2 =>
    intro nx hnx
    refine ⟨sz 2, ?_⟩
    walk_at "new 31"
    refine ⟨p31, rfl, ⟨_, .of h31⟩, ?_⟩
    refine for_it (walk_tup (K := K) (a := p31) (xs := [V.non, .str "session"])) (fun i σ H' => ∃ v12, σ = [v0, v1, some (.ref t0), v3, v4, v5, v6, v7, v8, some (.ref r), v10, some (.ref b), v12, v13, v14] ∧ Same H31 H')
      ⟨_, rfl, Same.refl _⟩ (fun i σ H' _ h => let ⟨_, _, s⟩ := h; .of (s _ _ h31)) ?_ (fun σ H' ⟨_, e, s⟩ => hnx _ _ ⟨_, e, s3.trans (s31.trans s)⟩)
    rintro i x σ H0' H4 hi ⟨v12, rfl, s4⟩ ⟨rfl, hx⟩
    obtain ⟨n, hn, no⟩ : ∃ n : NmSrc, n.at K H4 x ∧ n.on = none := by
      have hi : i < 2 := hi
      rcases (by omega : i = 0 ∨ i = 1) with rfl | rfl
      · cases hx; exact ⟨.prog, rfl, rfl⟩
      · cases hx; exact ⟨.ses, rfl, rfl⟩
    have s04 := s3.trans (s31.trans s4)
    have lr := s04 _ _ hl
    refine ⟨⟨_, rfl⟩, _, rfl, "\n", r, ls, rfl, rfl, .inl (.of lr), Nat.le_trans lt.sum (by decide), ?_⟩
    refine ⟨_, rfl, _, x, rawT ls, n, rfl, tx_raw lt, hn, fun v H6 s6 d6 => ?_⟩
    rw [no] at d6
    obtain ⟨c, rfl⟩ := outD_ref d6
    refine ⟨_, rfl, c, b, _, rfl, d6, dp_mono (Same.tups (s31.trans (s4.trans s6))) _ _ outD_tup d3, lt.raw.shows, ?_⟩
    exact ⟨true, rfl, ifF rfl ⟨_, rfl, s4.trans s6⟩⟩
  rintro σ H4 ⟨v12, rfl, s4⟩
  have l4 := s4 _ _ hl
  refine seq_join (fun σ' H' => ∃ (c : Addr) (ms : List Str), σ' = [v0, v1, some (.ref t0), v3, v4, v5, v6, v7, v8, some (.ref r), v10, some (.ref b), v12, some (.ref c), v14] ∧ Same H H' ∧ H' c = some (.lst (ms.map V.str)) ∧ LsT ms ∧ ms ≠ []) ?_ ?_
  case refine_2 =>
    intro nx hnx
    refine ⟨_, rfl, r, _, rfl, .inl (.of l4), _, _, rfl, rfl, _, rfl, ?_⟩
    rw [List.length_map]
    by_cases c1 : (ls.length : Int) > 1
    · refine ifT (decide_eq_true c1) ?_
      refine ⟨_, rfl, _, rfl, r, _, rfl, .of l4, ?_⟩
      walk_at "new 41"
      rw [show (1 : Int) = ((1 : Nat) : Int) from rfl, cut_drop] at h41
      exact hnx _ _ ⟨p41, ls.drop 1, rfl, s4.trans s41, h41, lt.sub (List.drop_sublist ..), fun e => by
        have := congrArg List.length e
        rw [List.length_drop, List.length_nil] at this
        omega⟩
    · refine ifF (decide_eq_false c1) ?_
      refine ⟨sz 1, ?_⟩
      walk_at "new 41"
      exact hnx _ _ ⟨p41, [""], rfl, s4.trans s41, h41, lsT_all (by decide +kernel), List.cons_ne_nil _ _⟩
  rintro σ H5 ⟨c, ms, rfl, s5, hc, mt, mne⟩
  refine ⟨⟨_, rfl⟩, _, rfl, "\n", c, ms, rfl, rfl, .inl (.of hc), Nat.le_trans mt.sum (by decide), ?_⟩
  refine ⟨sz 2, ?_⟩
  walk_at "new 51"
  refine ⟨_, _, ms, .xy, rfl, tx_ok mt mne, ⟨p51, rfl, .of h51⟩, fun v H6 s6 d6 => ?_⟩
  obtain ⟨e1, rfl⟩ := outD_ref d6
  refine ⟨_, rfl, sz 2, ?_⟩
  walk_at "new 52"
  refine ⟨c, .ref p52, ms, some xyN, rfl, .of (s52 _ _ (s6 _ _ (s51 _ _ hc))), mt.rawOk, ⟨p52, rfl, .of h52, by decide⟩, fun v2 H7 s7 d7 => ?_⟩
  obtain ⟨e2, rfl⟩ := outD_ref d7
  refine ⟨e1, e2, _, rfl, dp_mono (Same.tups (s52.trans s7)) _ _ outD_tup d6, d7, mt.shows_xy, ?_⟩
  exact ⟨true, rfl, ifF rfl ⟨_, _, _, _, rfl, s5.trans (s51.trans (s6.trans (s52.trans s7)))⟩⟩
end
end Kw

set_option Elab.async false
set_option linter.all false
set_option maxRecDepth 100000
set_option maxHeartbeats 4000000
namespace Kw
open PySem PySem.Spec PyProof.Rows L2
local macro_rules | `(tactic| walk_at $s:str) => do
  match s.getString.splitOn " " with
  | ["new", a] =>
    let p := Lean.mkIdent (Lean.Name.mkSimple ("p" ++ a))
    let n := Lean.mkIdent (Lean.Name.mkSimple ("n" ++ a))
    let H := Lean.mkIdent (Lean.Name.mkSimple ("H" ++ a))
    let s := Lean.mkIdent (Lean.Name.mkSimple ("s" ++ a))
    let h := Lean.mkIdent (Lean.Name.mkSimple ("h" ++ a))
    `(tactic| (intro $p $n; generalize e : upd _ $p _ = $H; have $s : Same _ $H := e ▸ same_new $n; have $h : $H $p = some _ := e ▸ upd_same; clear e))
  | _ => Lean.Macro.throwUnsupported
/-! ### law: the turns -/
/-- a list of lines, each with spaces of its own -/
theorem lc_spaced {K : PySem.W.Frag} {Hb H : Hp} {p a : Addr} {ls : List Str} {n b : Nat} {tl : TE} {v0 v2 v3 v4 v5 v6 v7 v8 v9 v10 v11 v12 v13 v14 : Option V} {Q : VK}
    (ht : ∀ R : V → Hp → Prop, R (.ref a) H → tl [v0, some (.ref p), v2, v3, v4, v5, v6, v7, v8, v9, v10, v11, v12, v13, v14] H R) (hl : H a = some (.lst (ls.map V.str))) (ap : a ≠ p) (l160 : ls.length ≤ 160) (lb : Lns b ls) (hb : b ≤ 100000)
    (hs : SupAt K Hb H p n) (hn : n + ls.length * (b + 5) + b + 10 < topN)
    (q : ∀ (D : Addr) (ws : List Str) (H' : Hp), H D = none → H' D = some (.lst (ws.map V.str)) → ws.length = ls.length → Lns (4 * b + 20) ws → Kp p H H' → SupAt K Hb H' p (n + ls.length * (b + 5)) → Q (.ref D) H') :
    tLc (iList K tl) (gName 14) tYes (tCall (spSpaced K) [] (fun _ _ _ => False) (tCons (tVar 1) (tCons (tVar 14) tNil))) [14] [v0, some (.ref p), v2, v3, v4, v5, v6, v7, v8, v9, v10, v11, v12, v13, v14] H Q := by
  refine ht _ ⟨a, rfl, ⟨_, .of hl⟩, fun D hD => ?_⟩
  have nb := hs.free hD
  have np := hs.apart hD
  have Da : a ≠ D := ne_of_none hl hD
  refine lc_it (walk_list (K := K) (a := a) (xs := ls.map V.str)) (fun i H' => ∃ ws : List Str, H' D = some (.lst (ws.map V.str)) ∧ ws.length = i ∧ Lns (4 * b + 20) ws ∧ Kp p H H' ∧ SupAt K Hb H' p (n + i * (b + 5)) ∧ H' a = some (.lst (ls.map V.str)))
    ⟨[], upd_same, rfl, ⟨fun _ m => absurd m List.not_mem_nil⟩, Kf.of (same_new hD), (hs.upd nb np).more (by omega), by rw [upd_ne Da]; exact hl⟩ (fun i H' _ h => let ⟨_, _, _, _, _, _, e⟩ := h; .of e) ?_ ?_
  · rintro i x H2 _ hi ⟨ws, e1, e2, e3, e4, e5, e6⟩ ⟨rfl, hx⟩
    obtain ⟨y, hy, rfl⟩ := map_get hx
    rw [List.length_map] at hi
    have bd : i * (b + 5) ≤ ls.length * (b + 5) := Nat.mul_le_mul_right _ (Nat.le_of_lt hi)
    refine ⟨rfl, ?_⟩
    dsimp only [tYes]
    rw [if_pos rfl]
    refine ⟨_, rfl, _, rfl, Hb, p, y, n + i * (b + 5), b, rfl, e5, by omega, lb.ok y (List.mem_of_getElem? hy), hb, fun z' H3 lz k3 s3 => ?_⟩
    refine ⟨_, k3 _ _ np e1, by rw [List.length_map, e2]; exact szl _ (by omega), ws ++ [z'], by rw [upd_same, List.map_append] <;> rfl, by rw [List.length_append, e2] <;> rfl, e3.app (lns_one lz), kp_updN (e4.trans k3) hD, (s3.upd nb np).more (by rw [Nat.add_mul]; omega), by rw [upd_ne Da]; exact k3 _ _ ap e6⟩
  · rintro H2 ⟨ws, e1, e2, e3, e4, e5, e6⟩
    rw [List.length_map] at e2 e5
    exact q D ws H2 hD e1 e2 e3 e4 e5
/-- the law's state between its statements -/
structure LwS (K : PySem.W.Frag) (Hb H : Hp) (p t : Addr) (k n : Nat) : Prop where
  tx : TxsAt H p t k
  tb : Hb t = none
  sp : SupAt K Hb H p n
/-- a text goes behind the texts -/
theorem LwS.app {K : PySem.W.Frag} {Hb H H' : Hp} {p t D : Addr} {k n m : Nat} (h : LwS K Hb H p t k n) (kp : Kp p H H') (sp : SupAt K Hb H' p m) (k90 : k ≤ 90) (g : FrT H' p D) (Dt : D ≠ t) :
    ∃ xs, H' t = some (.lst xs) ∧ xs.length < sizeLine ∧ LwS K Hb (upd H' t (.lst (xs ++ [.ref D]))) p t (k + 1) m := by
  obtain ⟨tp, rs, hT, ⟨rl, r0⟩, rt⟩ := h.tx.kp kp
  obtain ⟨gp, ls, gl, gm⟩ := g
  exact ⟨_, hT, by rw [List.length_map]; exact szl _ (by omega), txs_add tp rl rt ⟨gp, Dt, ls, gl, gm⟩, h.tb, sp.upd h.tb tp⟩
theorem LwS.kp {K : PySem.W.Frag} {Hb H H' : Hp} {p t : Addr} {k n m : Nat} (h : LwS K Hb H p t k n) (kp : Kp p H H') (sp : SupAt K Hb H' p m) : LwS K Hb H' p t k m := ⟨h.tx.kp kp, h.tb, sp⟩
theorem LwS.at {K : PySem.W.Frag} {Hb H : Hp} {p t : Addr} {k n : Nat} (h : LwS K Hb H p t k n) : ∃ xs, H t = some (.lst xs) := let ⟨_, rs, e, _⟩ := h.tx; ⟨_, e⟩
theorem LwS.ne {K : PySem.W.Frag} {Hb H : Hp} {p t D : Addr} {k n : Nat} (h : LwS K Hb H p t k n) (nD : H D = none) : D ≠ t := let ⟨_, e⟩ := h.at; (ne_of_none e nD).symm
def hdL : List Str := ["vars x, y", "vars x, y # two", " vars y,x", "vars x, y, z", "vars x, y", "vars x, y, z, u, v", "vars x"]
def bsL : Nat → Nat
  | 0 => 100
  | i + 1 => 6 * bsL i + 500
theorem atI_last : ∀ {rs : List Addr}, 0 < rs.length → ∃ r ∈ rs, atI (rs.map V.ref) (-1) = some (.ref r) := by
  intro rs h
  have l : rs.length - 1 < rs.length := by omega
  refine ⟨rs[rs.length - 1], List.getElem_mem l, ?_⟩
  have e : ixN (rs.map V.ref).length (-1) = some (rs.length - 1) := by
    unfold ixN
    rw [List.length_map, if_neg (by omega), if_pos (by omega)]
    congr 1
    omega
  unfold atI
  rw [e]
  show (rs.map V.ref)[rs.length - 1]? = _
  rw [List.getElem?_map, List.getElem?_eq_getElem l] <;> rfl
section
variable {P : Program} {w : World} {K : PySem.W.Frag} {mg : Str → Option Value} {base : Heap} {cdv : Value} {B : Around} {o : List Env} {z : Shared} {G : Hp} {E : XK}
theorem law_d (T : Tx K mg) (hG : (lawA K cdv B z).guards = some []) (hr : Room 89 (lawA K cdv B z)) : ∃ t, PSs (lawX P w K mg base cdv B o z G E) ((defBody s_law).drop 13) t ∧
    ∀ (D : Ends) (v0 : Option V) (p t0 : Addr) (v3 : Option V) (ph : Addr) (v5 v6 v7 v8 v9 v10 v11 v12 v13 v14 : Option V) (Hb H : Hp) (k n : Nat), LwS K Hb H p t0 k n → k ≤ 60 → n ≤ 1000 → H ph = some (.lst (hdL.map V.str)) → ph ≠ p → (∀ H', D.rt (.bl true) H') →
      t D [v0, some (.ref p), some (.ref t0), v3, some (.ref ph), v5, v6, v7, v8, v9, v10, v11, v12, v13, v14] H := by
  obtain ⟨te, he, qe⟩ := law_e (P := P) (w := w) (mg := mg) (base := base) (o := o) (G := G) (E := E) T hG hr
  refine ⟨_, (pss_cons (ps_for PassesOwn.never rfl (pi_range1 rfl T.z_range (pa_cons pe_int pa_nil)) (pg_name (i := 8) sc_law.nd rfl (Or.inl rfl)) (pss_cons (ps_set (i := 9) sc_law.nd rfl (Or.inl rfl) (pe_op op_cat (pe_lst (pa_cons (pe_call (ok_law_one_of T) (hr.mono (by decide)) rfl T.g_law_one_of T.F_law_one_of.kp (b_law_one_of T) .nil pass0 (pa_cons (pv 1) (pa_cons (pv 4) pa_nil))) pa_nil)) (pe_call (ok_law_some_lines T) (hr.mono (by decide)) rfl T.g_law_some_lines T.F_law_some_lines.kp (b_law_some_lines T) .nil pass0 (pa_cons (pv 1) pa_nil))))
      (pss_cons (ps_set (i := 2) sc_law.nd rfl (Or.inl rfl) (pe_op op_cat (pv 2) (pe_lst (pa_cons (pv 9) (pa_cons (pe_lc (own := [("_law_line_here", 14)]) (g := (gName 14)) (tt := tYes) (by rfl) sc_law.nd (pi_list (pv 9)) (blkOk_by (own := [("_law_line_here", 14)]) (N := N_law) (sc := (defScope s_law)) (by decide +kernel)) (fun _ _ _ _ _ => (pg_name (i := 14) sc_law.nd rfl (Or.inl rfl))) (fun _ _ _ _ _ => pts_nil) (fun _ _ _ _ _ => (pe_call (ok_law_spaced T) (hr.mono (by decide)) rfl T.g_law_spaced T.F_law_spaced.kp (b_law_spaced T) .nil pass0 (pa_cons (pv 1) (pa_cons (pv 14) pa_nil))))) pa_nil)))))
      (pss_cons (ps_for PassesOwn.never rfl (pi_range1 rfl T.z_range (pa_cons (pe_op op_add pe_int (pe_call (ok_law_below T) (hr.mono (by decide)) rfl T.g_law_below T.F_law_below.kp (b_law_below T) .nil pass0 (pa_cons (pv 1) (pa_cons pe_int pa_nil)))) pa_nil)) (pg_name (i := 10) sc_law.nd rfl (Or.inl rfl)) (pss_one (ps_set (i := 9) sc_law.nd rfl (Or.inl rfl) (pe_ifExp (pt_cmpR (r := rNeE K) (op_neE hr.units) (pv 9) (pe_lst pa_nil) (nomark _)) (pe_call (ok_law_changed T) (hr.mono (by decide)) rfl T.g_law_changed T.F_law_changed.kp (b_law_changed T) .nil pass0 (pa_cons (pv 1) (pa_cons (pv 9) pa_nil))) (pv 9)))))
      (pss_one (ps_expr (pe_bm PySem.F.plainAttrs_list PySem.F.slot_list_append PySem.F.type_list_append mt_append (pv 2) (pa_cons (pv 9) pa_nil))))))))
      (pss_cons (ps_expr (pe_bm PySem.F.plainAttrs_list PySem.F.slot_list_append PySem.F.type_list_append mt_append (pv 2) (pa_cons (pe_lc (own := [("_law_line_here", 14)]) (g := (gName 14)) (tt := tYes) (by rfl) sc_law.nd (pi_list (pe_ix (r := rIxL K) ix_list (pv 2) (pe_un un_neg pe_int) (fun _ _ => rfl))) (blkOk_by (own := [("_law_line_here", 14)]) (N := N_law) (sc := (defScope s_law)) (by decide +kernel)) (fun _ _ _ _ _ => (pg_name (i := 14) sc_law.nd rfl (Or.inl rfl))) (fun _ _ _ _ _ => pts_nil) (fun _ _ _ _ _ => (pe_call (ok_law_spaced T) (hr.mono (by decide)) rfl T.g_law_spaced T.F_law_spaced.kp (b_law_spaced T) .nil pass0 (pa_cons (pv 1) (pa_cons (pv 14) pa_nil))))) pa_nil)))
      he)), ?_⟩
  intro D v0 p t0 v3 ph v5 v6 v7 v8 v9 v10 v11 v12 v13 v14 Hb H k n hL k60 n1000 hd php q
  have tN := tN
  refine ⟨6, rfl, by decide, by decide, ?_⟩
  refine for_it (walk_range (lo := 0) (n := 6)) (fun i σ H' => ∃ (t : Addr) (v8 v9 v10 : Option V), σ = [v0, some (.ref p), some (.ref t), v3, some (.ref ph), v5, v6, v7, v8, v9, v10, v11, v12, v13, v14] ∧ LwS K Hb H' p t (k + 3 * i) (n + 8000 * i) ∧ H' ph = some (.lst (hdL.map V.str)))
    ⟨_, _, _, _, rfl, hL, hd⟩ (fun _ _ _ _ _ => trivial) ?_ ?_
  · rintro i x σ H0 H1 hi ⟨t, v8, v9, v10, rfl, L, hd⟩ ⟨rfl, rfl⟩
    refine ⟨_, rfl, _, rfl, Hb, p, ph, _, n + 8000 * i, rfl, L.sp, by omega, hd, php, by decide, by rw [tN]; decide, fun x H2 m k2 s2 => ?_⟩
    obtain ⟨y, rfl, ly⟩ : ∃ y, x = .str y ∧ Ln 100 y := by
      obtain ⟨y, hy, rfl⟩ := List.mem_map.mp m
      exact ⟨y, rfl, ln_all (by decide +kernel) y hy⟩
    refine ⟨sz 1, ?_⟩
    walk_at "new 3"
    have p3p := s2.apart n3
    refine ⟨_, rfl, Hb, p, n + 8000 * i + 1, rfl, s2.same s3, by omega, fun q ls H4 nq hq lq bq k4 s4 => ?_⟩
    refine ⟨p3, q, _, _, rfl, rfl, k4 _ _ p3p h3, hq, ?_, ?_⟩
    · rw [List.length_map]; exact sz _ (by show 1 + _ ≤ _; omega)
    walk_at "new 5"
    have h5 : H5 p5 = some (.lst ((y :: ls).map V.str)) := h5
    have bl : Lns 100 (y :: ls) := (lns_one ly).app bq
    have ll : (y :: ls).length ≤ 69 := by rw [List.length_cons]; omega
    have s5' : SupAt K Hb H5 p (n + 8000 * i + 101) := (s4.same s5).more (by omega)
    have p5p := s4.apart n5
    have k15 : Kp p H1 H5 := k2.trans ((Kf.of s3).trans (k4.trans (Kf.of s5)))
    generalize y :: ls = ms at h5 bl ll
    refine ⟨_, rfl, _, rfl, ?_⟩
    refine lc_spaced (n := n + 8000 * i + 101) (b := 100) (fun R h => ⟨_, rfl, h⟩) h5 p5p (by omega) bl (by decide) s5' (by omega) fun Dl ws H6 nD hD wl wb k6 s6 => ?_
    refine ⟨sz 2, ?_⟩
    walk_at "new 7"
    obtain ⟨tp, rs, hT, ⟨rl, r0⟩, rt⟩ := L.tx.kp (k15.trans (k6.trans (Kf.of s7)))
    refine ⟨t, p7, _, _, rfl, rfl, hT, h7, ?_, ?_⟩
    · rw [List.length_map]; exact sz _ (by show _ + 2 ≤ _; omega)
    walk_at "new 8"
    have s7' := s6.same s7
    have p8p := s7'.apart n8
    have p8b := s7'.free n8
    have T8 : TxsAt H8 p p8 (k + 3 * i + 2) := by
      refine txs_new (rs := rs ++ [p5, Dl]) n8 s8 p8p (by rw [h8, List.map_append] <;> rfl) (fun r m => ?_) (by rw [List.length_append]; show _ + 2 ≤ _; omega) (by rw [List.length_append]; show 0 < _ + 2; omega)
      rcases List.mem_append.mp m with m | m
      · exact (rt r m).fr
      simp only [List.mem_cons, List.not_mem_nil, or_false] at m
      rcases m with rfl | rfl
      · exact ⟨p5p, ms, s7 _ _ (k6 _ _ p5p h5), by omega, bl.more (by decide)⟩
      · exact ⟨s5'.apart nD, ws, s7 _ _ hD, by omega, wb.more (by decide)⟩
    have p58 : p5 ≠ p8 := ne_of_none (s7 _ _ (k6 _ _ p5p h5)) n8
    have h58 : H8 p5 = some (.lst (ms.map V.str)) := s8 _ _ (s7 _ _ (k6 _ _ p5p h5))
    have hd8 : H8 ph = some (.lst (hdL.map V.str)) := s8 _ _ (s7 _ _ (k6 _ _ php (k15 _ _ php hd)))
    have ph8 : ph ≠ p8 := ne_of_none (s7 _ _ (k6 _ _ php (k15 _ _ php hd))) n8
    have s8' : SupAt K Hb H8 p (n + 8000 * i + 7400) := (s7'.same s8).more (by omega)
    clear h3 hq h7 hD h5 rt hT
    refine ⟨_, rfl, Hb, p, 2, n + 8000 * i + 7400, rfl, s8', by omega, by decide, by rw [tN]; decide, fun r H9 hr k9 s9 => ?_⟩
    refine ⟨_, _, rfl, rfl, ?_⟩
    refine ⟨1 + (r : Int), rfl, by omega, by omega, ?_⟩
    refine for_it (walk_range (lo := 0) (n := (1 + (r : Int)).toNat)) (fun j σ H' => ∃ (pl : Addr) (ls : List Str) (v10 : Option V), σ = [v0, some (.ref p), some (.ref p8), v3, some (.ref ph), v5, v6, v7, some (.int (0 + (i : Int))), some (.ref pl), v10, v11, v12, v13, v14] ∧ pl ≠ p ∧ pl ≠ p8 ∧ H' pl = some (.lst (ls.map V.str)) ∧
        ls.length ≤ 69 + j ∧ Lns (bsL j) ls ∧ Kp p H9 H' ∧ SupAt K Hb H' p (n + 8000 * i + 7400 + 1 + 10 * j))
      ⟨p5, ms, _, rfl, p5p, p58, k9 _ _ p5p h58, ll, bl, Kf.refl _, s9⟩ (fun _ _ _ _ _ => trivial) ?_ ?_
    · rintro j x σ G0 G1 hj ⟨pl, ls, v10, rfl, plp, pl8, hl, ln, bn, k10, s10⟩ ⟨rfl, rfl⟩
      have hj : j < 2 := by omega
      have bj : bsL j ≤ 1100 := by
        rcases (by omega : j = 0 ∨ j = 1) with rfl | rfl <;> decide
      refine ⟨_, rfl, sz 0, ?_⟩
      walk_at "new 11"
      have s11' := s10.same s11
      refine ⟨_, _, _, rfl, rfl, .of (s11 _ _ hl), .of h11, _, rfl, ?_⟩
      have hl := s11 _ _ hl
      cases ls with
      | nil =>
        refine ifF rfl ?_
        exact ⟨_, rfl, pl, [], _, rfl, plp, pl8, hl, Nat.zero_le _, ⟨fun _ m => absurd m List.not_mem_nil⟩, k10.trans (Kf.of s11), s11'.more (by omega)⟩
      | cons y ys =>
        refine ifT rfl ?_
        refine ⟨_, rfl, _, rfl, Hb, p, pl, y :: ys, _, bsL j, rfl, s11', by omega, hl, plp, List.cons_ne_nil _ _, by omega, bn, by omega, fun q ls' H12 nq hq lq bq k12 s12 => ?_⟩
        have hp8 := s11 _ _ (k10 _ _ p8p (k9 _ _ p8p h8))
        exact ⟨q, ls', _, rfl, s11'.apart nq, (ne_of_none hp8 nq).symm, hq, by omega, bq, k10.trans ((Kf.of s11).trans k12), s12.more (by omega)⟩
    · rintro σ G1 ⟨pl, ls, v10, rfl, plp, pl8, hl, ln, bn, k10, s10⟩
      have L8 : LwS K Hb H8 p p8 (k + 3 * i + 2) (n + 8000 * i + 7400) := ⟨T8, p8b, s8'⟩
      have k80 := k9.trans k10
      have rl2 : (1 + (r : Int)).toNat ≤ 2 := by omega
      have bm : Lns 7100 ls := bn.more (by
        rcases (by omega : (1 + (r : Int)).toNat = 0 ∨ (1 + (r : Int)).toNat = 1 ∨ (1 + (r : Int)).toNat = 2) with e | e | e <;> rw [e] <;> decide)
      refine ⟨_, rfl, .inl ⟨rfl, _, .inl (.inl (k80 _ _ p8p h8))⟩, _, rfl, ?_⟩
      obtain ⟨xs, e1, e2, e3⟩ := L8.app k80 s10 (by omega) ⟨plp, ls, hl, by omega, bm⟩ pl8
      refine ⟨p8, _, _, rfl, rfl, e1, e2, ?_⟩
      exact ⟨p8, _, _, _, rfl, ⟨e3.tx.more (by omega), p8b, e3.sp.more (by omega)⟩, by rw [upd_ne ph8]; exact k80 _ _ php hd8⟩
  · rintro σ H1 ⟨t, v8, v9, v10, rfl, L, hd⟩
    obtain ⟨tp, rs, hT, ⟨rl, r0⟩, rt⟩ := L.tx
    obtain ⟨r, hr1, er⟩ := atI_last r0
    obtain ⟨rp, rt0, ls, hl, lm⟩ := rt r hr1
    have lm1 := lm.len
    refine ⟨_, rfl, .inl ⟨rfl, _, .inl (.inl hT)⟩, ?_⟩
    refine lc_spaced (n := n + 8000 * 6) (b := 7100) (fun R h => ⟨_, rfl, _, rfl, t, _, _, _, rfl, rfl, .of hT, er, h⟩) hl rp lm1 lm.ok (by decide) L.sp (by omega) fun Dl ws H2 nD hD wl wb k2 s2 => ?_
    have Dt : Dl ≠ t := (ne_of_none hT nD).symm
    refine ⟨t, _, _, rfl, rfl, k2 _ _ tp hT, by rw [List.length_map]; exact szl _ (by omega), ?_⟩
    refine qe D _ _ t _ _ _ _ _ _ _ _ _ _ _ _ _ (rs ++ [Dl]) ⟨by rw [upd_same, List.map_append] <;> rfl, fun r' m => ?_⟩ q
    rcases List.mem_append.mp m with m | m
    · obtain ⟨g1, g2, ls', g3, g4⟩ := rt r' m
      exact ⟨ls', by rw [upd_ne g2]; exact k2 _ _ g1 g3, LsB.more g4 (by decide)⟩
    · rw [List.mem_singleton.mp m]
      exact ⟨ws, by rw [upd_ne Dt]; exact hD, by omega, wb.more (by decide)⟩
end
end Kw

set_option Elab.async false
set_option linter.all false
set_option maxRecDepth 100000
set_option maxHeartbeats 4000000
namespace Kw
open PySem PySem.Spec PyProof.Rows L2
local macro_rules | `(tactic| walk_at $s:str) => do
  match s.getString.splitOn " " with
  | ["new", a] =>
    let p := Lean.mkIdent (Lean.Name.mkSimple ("p" ++ a))
    let n := Lean.mkIdent (Lean.Name.mkSimple ("n" ++ a))
    let H := Lean.mkIdent (Lean.Name.mkSimple ("H" ++ a))
    let s := Lean.mkIdent (Lean.Name.mkSimple ("s" ++ a))
    let h := Lean.mkIdent (Lean.Name.mkSimple ("h" ++ a))
    `(tactic| (intro $p $n; generalize e : upd _ $p _ = $H; have $s : Same _ $H := e ▸ same_new $n; have $h : $H $p = some _ := e ▸ upd_same; clear e))
  | _ => Lean.Macro.throwUnsupported
/-! ### law: the fixed texts with choices -/
/-- [a] + [b] * (c + one below m) -/
theorem row_below {K : PySem.W.Frag} {Hb H : Hp} {p : Addr} {n m c : Nat} {a b : Str} {TA : TE} {σ : L2.St} {Q : VK} (hT : ∀ (R : V → Hp → Prop), R (.str a) H → TA σ H R) (hσ : σ[1]? = some (some (.ref p)))
    (sp : SupAt K Hb H p n) (hn : n ≤ 100000) (m0 : 0 < m) (m9 : m ≤ 10) (c9 : c ≤ 100)
    (q : ∀ (D : Addr) (r : Nat) (H' : Hp), r < m → H D = none → H' D = some (.lst ((a :: List.replicate (c + r) b).map V.str)) → Kp p H H' → SupAt K Hb H' p (n + 1) → Q (.ref D) H') :
    tOp rCat (tLst (tCons TA tNil)) (tOp rRep (tLst (tCons (tC (.str b)) tNil)) (tOp (rI0 fun i j => .int (i + j)) (tC (.int (c : Int))) (tCall (spBelow K) [] (fun _ _ _ => False) (tCons (tVar 1) (tCons (tC (.int (m : Int))) tNil))))) σ H Q := by
  have tN := tN
  refine hT _ ⟨sz 1, ?_⟩
  walk_at "new 1"
  refine ⟨sz 1, ?_⟩
  walk_at "new 2"
  have s12 := s1.trans s2
  have sp2 := sp.same s12
  refine ⟨_, hσ, Hb, p, m, n, rfl, sp2, by omega, m0, by omega, fun r H3 hr k3 s3 => ?_⟩
  refine ⟨_, _, rfl, rfl, ?_⟩
  have p2p := (sp.same s1).apart n2
  refine ⟨p2, (c : Int) + (r : Int), _, rfl, rfl, k3 _ _ p2p h2, by omega, by omega, ?_, ?_⟩
  · show 1 * ((c : Int) + (r : Int)).toNat ≤ _
    exact sz _ (by omega)
  walk_at "new 4"
  rw [rep_flat, show ((c : Int) + (r : Int)).toNat = c + r by omega] at h4
  have p1p := sp.apart n1
  refine ⟨p1, p4, _, _, rfl, rfl, s4 _ _ (k3 _ _ p1p (s2 _ _ h1)), h4, ?_, ?_⟩
  · rw [List.length_replicate]; exact sz _ (by show 1 + _ ≤ _; omega)
  walk_at "new 5"
  have k4 : Kp p H H4 := (Kf.of s12).trans (k3.trans (Kf.of s4))
  have sp4 := s3.same s4
  exact q p5 r H5 hr (kp_free k4 n5 (sp4.apart n5)) (by rw [h5, List.map_cons, List.map_replicate] <;> rfl) (k4.trans (Kf.of s5)) (sp4.same s5)
theorem lsM_rep {a b : Str} {k : Nat} (ha : Ln 7100 a) (hb : Ln 7100 b) (hk : k ≤ 159) : LsM (a :: List.replicate k b) :=
  ⟨by rw [List.length_cons, List.length_replicate]; omega, (lns_one ha).app ⟨fun z m => by rw [List.eq_of_mem_replicate m]; exact hb⟩⟩
theorem LsM_app {l m : List Str} {b : Nat} (h : LsB b l) (g : LsB b m) (k : l.length + m.length ≤ 160) : LsB b (l ++ m) := ⟨by rw [List.length_append]; exact k, h.ok.app g.ok⟩
section
variable {P : Program} {w : World} {K : PySem.W.Frag} {mg : Str → Option Value} {base : Heap} {cdv : Value} {B : Around} {o : List Env} {z : Shared} {G : Hp} {E : XK}
theorem law_m (T : Tx K mg) (hG : (lawA K cdv B z).guards = some []) (hr : Room 89 (lawA K cdv B z)) : ∃ t, PSs (lawX P w K mg base cdv B o z G E) ((defBody s_law).drop 4) t ∧
    ∀ (D : Ends) (v0 : Option V) (p t0 : Addr) (v3 v4 v5 v6 v7 v8 v9 v10 v11 v12 v13 v14 : Option V) (Hb H : Hp) (k n : Nat), LwS K Hb H p t0 k n → k ≤ 40 → n ≤ 100 → (∀ H', D.rt (.bl true) H') →
      t D [v0, some (.ref p), some (.ref t0), v3, v4, v5, v6, v7, v8, v9, v10, v11, v12, v13, v14] H := by
  obtain ⟨te, he, qe⟩ := law_d (P := P) (w := w) (mg := mg) (base := base) (o := o) (G := G) (E := E) T hG hr
  refine ⟨_, (pss_cons (ps_set (i := 4) sc_law.nd rfl (Or.inl rfl) (pe_lst (pa_cons pe_str (pa_cons pe_str (pa_cons pe_str (pa_cons pe_str (pa_cons pe_str (pa_cons pe_str (pa_cons pe_str pa_nil)))))))))
      (pss_cons (ps_set (i := 5) sc_law.nd rfl (Or.inl rfl) (pe_op op_rep (pe_lst (pa_cons (pe_op op_add_str pe_str (pe_call (ok_law_one_of T) (hr.mono (by decide)) rfl T.g_law_one_of T.F_law_one_of.kp (b_law_one_of T) .nil pass0 (pa_cons (pv 1) (pa_cons (pe_lst (pa_cons pe_str (pa_cons pe_str (pa_cons pe_str pa_nil)))) pa_nil)))) pa_nil)) (pe_op op_add pe_int (pe_call (ok_law_below T) (hr.mono (by decide)) rfl T.g_law_below T.F_law_below.kp (b_law_below T) .nil pass0 (pa_cons (pv 1) (pa_cons pe_int pa_nil))))))
      (pss_cons (ps_expr (pe_bm PySem.F.plainAttrs_list PySem.F.slot_list_append PySem.F.type_list_append mt_append (pv 2) (pa_cons (pe_op op_cat (pe_op op_cat (pe_op op_cat (pe_lst (pa_cons pe_str pa_nil)) (pv 5)) (pe_lst (pa_cons pe_str pa_nil))) (pe_op op_rep (pe_lst (pa_cons pe_str pa_nil)) (pe_callB (call_lenQ (K := K) rfl) rfl T.z_len PySem.boot_len (pa_cons (pv 5) pa_nil)))) pa_nil)))
      (pss_cons (ps_expr (pe_bm PySem.F.plainAttrs_list PySem.F.slot_list_append PySem.F.type_list_append mt_append (pv 2) (pa_cons (pe_op op_cat (pe_lst (pa_cons pe_str pa_nil)) (pe_op op_rep (pe_lst (pa_cons pe_str pa_nil)) (pe_op op_add pe_int (pe_call (ok_law_below T) (hr.mono (by decide)) rfl T.g_law_below T.F_law_below.kp (b_law_below T) .nil pass0 (pa_cons (pv 1) (pa_cons pe_int pa_nil)))))) pa_nil)))
      (pss_cons (ps_set (i := 6) sc_law.nd rfl (Or.inl rfl) (pe_call (ok_law_one_of T) (hr.mono (by decide)) rfl T.g_law_one_of T.F_law_one_of.kp (b_law_one_of T) .nil pass0 (pa_cons (pv 1) (pa_cons (pe_lst (pa_cons pe_str (pa_cons pe_str (pa_cons pe_str pa_nil)))) pa_nil))))
      (pss_cons (ps_expr (pe_bm PySem.F.plainAttrs_list PySem.F.slot_list_append PySem.F.type_list_append mt_append (pv 2) (pa_cons (pe_op op_cat (pe_op op_cat (pe_lst (pa_cons (pv 6) pa_nil)) (pe_op op_rep (pe_lst (pa_cons pe_str pa_nil)) (pe_op op_add pe_int (pe_call (ok_law_below T) (hr.mono (by decide)) rfl T.g_law_below T.F_law_below.kp (b_law_below T) .nil pass0 (pa_cons (pv 1) (pa_cons pe_int pa_nil)))))) (pe_lst (pa_cons pe_str pa_nil))) pa_nil)))
      (pss_cons (ps_expr (pe_bm PySem.F.plainAttrs_list PySem.F.slot_list_append PySem.F.type_list_append mt_append (pv 2) (pa_cons (pe_op op_cat (pe_lst (pa_cons (pv 6) pa_nil)) (pe_op op_rep (pe_lst (pa_cons pe_str pa_nil)) (pe_op op_add pe_int (pe_call (ok_law_below T) (hr.mono (by decide)) rfl T.g_law_below T.F_law_below.kp (b_law_below T) .nil pass0 (pa_cons (pv 1) (pa_cons pe_int pa_nil)))))) pa_nil)))
      (pss_cons (ps_set (i := 7) sc_law.nd rfl (Or.inl rfl) (pe_call (ok_law_one_of T) (hr.mono (by decide)) rfl T.g_law_one_of T.F_law_one_of.kp (b_law_one_of T) .nil pass0 (pa_cons (pv 1) (pa_cons (pe_lst (pa_cons pe_str (pa_cons pe_str (pa_cons pe_str (pa_cons pe_str pa_nil))))) pa_nil))))
      (pss_cons (ps_set (i := 2) sc_law.nd rfl (Or.inl rfl) (pe_op op_cat (pv 2) (pe_lst (pa_cons (pe_op op_cat (pe_op op_cat (pe_lst (pa_cons (pv 6) pa_nil)) (pe_op op_rep (pe_lst (pa_cons pe_str pa_nil)) (pe_op op_add pe_int (pe_call (ok_law_below T) (hr.mono (by decide)) rfl T.g_law_below T.F_law_below.kp (b_law_below T) .nil pass0 (pa_cons (pv 1) (pa_cons pe_int pa_nil)))))) (pe_lst (pa_cons (pv 7) pa_nil))) (pa_cons (pe_op op_cat (pe_op op_cat (pe_lst (pa_cons pe_str pa_nil)) (pe_op op_rep (pe_lst (pa_cons pe_str pa_nil)) pe_int)) (pe_lst (pa_cons (pv 7) pa_nil))) pa_nil)))))
      he))))))))), ?_⟩
  intro D v0 p t0 v3 v4 v5 v6 v7 v8 v9 v10 v11 v12 v13 v14 Hb H k n L k40 n100 q
  have tN := tN
  obtain ⟨oT, hT⟩ := L.at
  have lv : Ln 7100 ("vars x" : Str) := ln_dec (by decide +kernel)
  have lx : Ln 7100 ("x := 1" : Str) := ln_dec (by decide +kernel)
  have le : Ln 7100 ("" : Str) := ln_dec (by decide +kernel)
  -- the heads
  refine ⟨sz 7, ?_⟩
  walk_at "new 4"
  have h4 : H4 p4 = some (.lst (hdL.map V.str)) := h4
  have php := L.sp.apart n4
  have pht := L.ne n4
  -- the deep one
  have sp4 := L.sp.same s4
  refine ⟨_, rfl, sz 3, ?_⟩
  walk_at "new 5"
  refine ⟨Hb, p, p5, _, n, rfl, sp4.same s5, by omega, h5, sp4.apart n5, by decide, by rw [tN]; decide, fun x H6 m k6 s6 => ?_⟩
  obtain ⟨y, rfl, ly⟩ : ∃ y, x = .str y ∧ Ln 100 y := by
    obtain ⟨y, hy, rfl⟩ := List.mem_map.mp (show x ∈ ([("1" : Str), "2", "3"]).map V.str from m)
    exact ⟨y, rfl, ln_all (by decide +kernel) y hy⟩
  have lr : Ln 10 ("repeat " : Str) := ln_dec (by decide +kernel)
  refine ⟨_, _, rfl, rfl, sz_app lr ly (by omega), sz 1, ?_⟩
  walk_at "new 7"
  have ld := (lr.app ly).more (b := 7100) (by decide)
  generalize ("repeat " : Str) ++ y = dp at h7 ld
  have p7p := s6.apart n7
  refine ⟨_, rfl, Hb, p, 4, n + 1, rfl, s6.same s7, by omega, by decide, by rw [tN]; decide, fun r H8 hr8 k8 s8 => ?_⟩
  refine ⟨_, _, rfl, rfl, ?_⟩
  refine ⟨p7, 3 + (r : Int), _, rfl, rfl, k8 _ _ p7p h7, by omega, by omega, ?_, ?_⟩
  · show 1 * (3 + (r : Int)).toNat ≤ _
    exact sz _ (by omega)
  walk_at "new 9"
  rw [rep_flat, show (3 + (r : Int)).toNat = 3 + r by omega] at h9
  have p9p := s8.apart n9
  have k49 : Kp p H4 H9 := (Kf.of s5).trans (k6.trans ((Kf.of s7).trans (k8.trans (Kf.of s9))))
  have k9 : Kp p H H9 := (Kf.of s4).trans k49
  have sp9 := s8.same s9
  obtain ⟨tp, _⟩ := L.tx
  have hT9 := k9 _ _ tp hT
  refine ⟨_, rfl, .inl ⟨rfl, _, .inl (.inl hT9)⟩, ?_⟩
  refine ⟨sz 1, ?_⟩
  walk_at "new 10"
  refine ⟨_, rfl, p10, p9, _, _, rfl, rfl, h10, s10 _ _ h9, ?_, ?_⟩
  · rw [List.length_replicate]; exact sz _ (by show 1 + _ ≤ _; omega)
  walk_at "new 11"
  refine ⟨sz 1, ?_⟩
  walk_at "new 12"
  refine ⟨p11, p12, _, _, rfl, rfl, s12 _ _ h11, h12, ?_, ?_⟩
  · rw [List.length_append, List.length_replicate]; exact sz _ (by show 1 + _ + 1 ≤ _; omega)
  walk_at "new 13"
  refine ⟨sz 1, ?_⟩
  walk_at "new 14"
  have s913 := s10.trans (s11.trans (s12.trans s13))
  refine ⟨_, rfl, p9, _, rfl, .inl (.of (s14 _ _ (s913 _ _ h9))), ?_⟩
  rw [List.length_replicate]
  refine ⟨p14, _, _, rfl, rfl, h14, by omega, by omega, ?_, ?_⟩
  · show 1 * ((3 + r : Nat) : Int).toNat ≤ _
    exact sz _ (by omega)
  walk_at "new 15"
  rw [rep_flat, Int.toNat_natCast] at h15
  refine ⟨p13, p15, _, _, rfl, rfl, s15 _ _ (s14 _ _ h13), h15, ?_, ?_⟩
  · rw [List.length_append, List.length_append, List.length_replicate, List.length_replicate]; exact sz _ (by show 1 + _ + 1 + _ ≤ _; omega)
  walk_at "new 16"
  have s916 := s913.trans (s14.trans (s15.trans s16))
  have g16 : FrT H16 p p16 := by
    have l1 : LsM (("vars x" : Str) :: List.replicate (3 + r) dp) := lsM_rep lv ld (by omega)
    have l2 : LsM [("x := 1" : Str)] := ⟨by decide, lns_one lx⟩
    have l3 : LsM (List.replicate (3 + r) ("end" : Str)) := ⟨by rw [List.length_replicate]; omega, ⟨fun z m => by rw [List.eq_of_mem_replicate m]; exact ln_dec (by decide +kernel)⟩⟩
    refine ⟨((sp9.same s913).same (s14.trans s15)).apart n16, (("vars x" : Str) :: List.replicate (3 + r) dp) ++ [("x := 1" : Str)] ++ List.replicate (3 + r) ("end" : Str), ?_, ?_⟩
    · rw [h16, List.map_append, List.map_append, List.map_cons, List.map_replicate, List.map_replicate] <;> rfl
    · refine LsM_app (LsM_app l1 l2 ?_) l3 ?_
      · rw [List.length_cons, List.length_replicate]; show _ + 1 ≤ _; omega
      · rw [List.length_append, List.length_cons, List.length_replicate, List.length_replicate]; show _ + 1 + _ ≤ _; omega
  have sp16 := sp9.same s916
  obtain ⟨xs, e1, e2, L17⟩ := L.app (k9.trans (Kf.of s916)) sp16 (by omega) g16 (ne_of_none (s15 _ _ (s14 _ _ (s913 _ _ hT9))) n16).symm
  refine ⟨t0, _, _, rfl, rfl, e1, e2, ?_⟩
  have hd17 : upd H16 t0 (.lst (xs ++ [.ref p16])) p4 = some (.lst (hdL.map V.str)) := by rw [upd_ne pht]; exact s916 _ _ (k49 _ _ php h4)
  generalize upd H16 t0 (.lst (xs ++ [.ref p16])) = H17 at L17 hd17 ⊢
  clear h5 h7 h9 h10 h11 h12 h13 h14 h15 h16 g16 e1 e2 hT9
  -- many statements
  obtain ⟨_, hT17⟩ := L17.at
  refine ⟨_, rfl, .inl ⟨rfl, _, .inl (.inl hT17)⟩, ?_⟩
  refine row_below (a := "vars x") (m := 4) (c := 28) (fun R h => h) rfl L17.sp (by omega) (by decide) (by decide) (by decide) fun D1 r1 H18 hr1 nD1 hD1 k18 s18 => ?_
  obtain ⟨xs, e1, e2, L19⟩ := L17.app k18 s18 (by omega) ⟨L17.sp.apart nD1, _, hD1, lsM_rep lv lx (by omega)⟩ (L17.ne nD1)
  refine ⟨t0, _, _, rfl, rfl, e1, e2, ?_⟩
  have hd19 : upd H18 t0 (.lst (xs ++ [.ref D1])) p4 = some (.lst (hdL.map V.str)) := by rw [upd_ne pht]; exact k18 _ _ php hd17
  generalize upd H18 t0 (.lst (xs ++ [.ref D1])) = H19 at L19 hd19 ⊢
  clear hD1 e1 e2
  -- the first line
  refine ⟨_, rfl, sz 3, ?_⟩
  walk_at "new 20"
  refine ⟨Hb, p, p20, _, _, rfl, L19.sp.same s20, by omega, h20, L19.sp.apart n20, by decide, by rw [tN]; decide, fun x H21 m k21 s21 => ?_⟩
  obtain ⟨fi, rfl, lf⟩ : ∃ y, x = .str y ∧ Ln 7100 y := by
    obtain ⟨y, hy, rfl⟩ := List.mem_map.mp (show x ∈ ([("vars x" : Str), "vars X", ""]).map V.str from m)
    exact ⟨y, rfl, ln_all (by decide +kernel) y hy⟩
  have L21 := L19.kp ((Kf.of s20).trans k21) s21
  have hd21 := k21 _ _ php (s20 _ _ hd19)
  -- long ones
  obtain ⟨_, hT21⟩ := L21.at
  refine ⟨_, rfl, .inl ⟨rfl, _, .inl (.inl hT21)⟩, ?_⟩
  refine row_below (m := 4) (c := 77) (fun R h => ⟨_, rfl, h⟩) rfl L21.sp (by omega) (by decide) (by decide) (by decide) fun D2 r2 H22 hr2 nD2 hD2 k22 s22 => ?_
  refine ⟨sz 1, ?_⟩
  walk_at "new 23"
  refine ⟨D2, p23, _, _, rfl, rfl, s23 _ _ hD2, h23, ?_, ?_⟩
  · rw [List.length_map, List.length_cons, List.length_replicate]; exact sz _ (by show _ + 1 + 1 ≤ _; omega)
  walk_at "new 24"
  have s22' := s22.same s23
  have k24 := k22.trans (Kf.of (s23.trans s24))
  have l24 : LsM ((fi :: List.replicate (77 + r2) ("" : Str)) ++ [("x := 1" : Str)]) := LsM_app (lsM_rep lf le (by omega)) ⟨by decide, lns_one lx⟩ (by rw [List.length_cons, List.length_replicate]; show _ + 1 ≤ _; omega)
  obtain ⟨xs, e1, e2, L25⟩ := L21.app k24 (s22'.same s24) (by omega) ⟨s22'.apart n24, _, by rw [h24, List.map_append] <;> rfl, l24⟩ (ne_of_none (s23 _ _ (k22 _ _ tp hT21)) n24).symm
  refine ⟨t0, _, _, rfl, rfl, e1, e2, ?_⟩
  have hd25 : upd H24 t0 (.lst (xs ++ [.ref p24])) p4 = some (.lst (hdL.map V.str)) := by rw [upd_ne pht]; exact k24 _ _ php hd21
  generalize upd H24 t0 (.lst (xs ++ [.ref p24])) = H25 at L25 hd25 ⊢
  clear h23 h24 e1 e2 hD2
  obtain ⟨_, hT25⟩ := L25.at
  refine ⟨_, rfl, .inl ⟨rfl, _, .inl (.inl hT25)⟩, ?_⟩
  refine row_below (m := 4) (c := 78) (fun R h => ⟨_, rfl, h⟩) rfl L25.sp (by omega) (by decide) (by decide) (by decide) fun D3 r3 H26 hr3 nD3 hD3 k26 s26 => ?_
  obtain ⟨xs, e1, e2, L27⟩ := L25.app k26 s26 (by omega) ⟨L25.sp.apart nD3, _, hD3, lsM_rep lf le (by omega)⟩ (L25.ne nD3)
  refine ⟨t0, _, _, rfl, rfl, e1, e2, ?_⟩
  have hd27 : upd H26 t0 (.lst (xs ++ [.ref D3])) p4 = some (.lst (hdL.map V.str)) := by rw [upd_ne pht]; exact k26 _ _ php hd25
  generalize upd H26 t0 (.lst (xs ++ [.ref D3])) = H27 at L27 hd27 ⊢
  clear hD3 e1 e2
  -- the last line
  refine ⟨_, rfl, sz 4, ?_⟩
  walk_at "new 28"
  refine ⟨Hb, p, p28, _, _, rfl, L27.sp.same s28, by omega, h28, L27.sp.apart n28, by decide, by rw [tN]; decide, fun x H29 m k29 s29 => ?_⟩
  obtain ⟨la, rfl, ll⟩ : ∃ y, x = .str y ∧ Ln 7100 y := by
    obtain ⟨y, hy, rfl⟩ := List.mem_map.mp (show x ∈ ([("x := $" : Str), "x := z", "  x := 1", "end"]).map V.str from m)
    exact ⟨y, rfl, ln_all (by decide +kernel) y hy⟩
  have L29 := L27.kp ((Kf.of s28).trans k29) s29
  have hd29 := k29 _ _ php (s28 _ _ hd27)
  -- two more
  refine ⟨_, rfl, ?_⟩
  refine row_below (m := 3) (c := 78) (fun R h => ⟨_, rfl, h⟩) rfl L29.sp (by omega) (by decide) (by decide) (by decide) fun D4 r4 H30 hr4 nD4 hD4 k30 s30 => ?_
  refine ⟨_, rfl, sz 1, ?_⟩
  walk_at "new 31"
  refine ⟨D4, p31, _, _, rfl, rfl, s31 _ _ hD4, h31, ?_, ?_⟩
  · rw [List.length_map, List.length_cons, List.length_replicate]; exact sz _ (by show _ + 1 + 1 ≤ _; omega)
  walk_at "new 32"
  refine ⟨sz 1, ?_⟩
  walk_at "new 33"
  refine ⟨sz 1, ?_⟩
  walk_at "new 34"
  refine ⟨p34, _, _, rfl, rfl, h34, by decide, by decide, sz _ (by decide), ?_⟩
  walk_at "new 35"
  refine ⟨p33, p35, _, _, rfl, rfl, s35 _ _ (s34 _ _ h33), h35, sz _ (by decide), ?_⟩
  walk_at "new 36"
  refine ⟨_, rfl, sz 1, ?_⟩
  walk_at "new 37"
  refine ⟨p36, p37, _, _, rfl, rfl, s37 _ _ h36, h37, sz _ (by show (31 : Nat) + 1 ≤ 100000; decide), ?_⟩
  walk_at "new 38"
  refine ⟨sz 2, ?_⟩
  walk_at "new 39"
  have s3039 := s31.trans (s32.trans (s33.trans (s34.trans (s35.trans (s36.trans (s37.trans (s38.trans s39)))))))
  have k39 := k30.trans (Kf.of s3039)
  have l32 : LsM ((fi :: List.replicate (78 + r4) ("" : Str)) ++ [la]) := LsM_app (lsM_rep lf le (by omega)) ⟨by show 1 ≤ 160; decide, lns_one ll⟩ (by rw [List.length_cons, List.length_replicate]; show _ + 1 ≤ _; omega)
  have l38 : LsM ((("vars x" : Str) :: List.replicate 30 ("x := 1" : Str)) ++ [la]) := LsM_app (lsM_rep lv lx (by decide)) ⟨by show 1 ≤ 160; decide, lns_one ll⟩ (by show (31 : Nat) + 1 ≤ 160; decide)
  have sp31 := s30.same s31
  have sp37 := (sp31.same s32).same (s33.trans (s34.trans (s35.trans (s36.trans s37))))
  obtain ⟨_, rs, hT39, ⟨rl, r0⟩, rt⟩ := L29.tx.kp k39
  refine ⟨t0, p39, _, _, rfl, rfl, hT39, h39, ?_, ?_⟩
  · rw [List.length_map]; exact sz _ (by show _ + 2 ≤ _; omega)
  walk_at "new 40"
  have sp39 := s30.same s3039
  have p40p := sp39.apart n40
  refine qe D _ p p40 _ p4 _ _ _ _ _ _ _ _ _ _ Hb H40 (k + 6) (n + 20) ⟨?_, sp39.free n40, (sp39.same s40).more (by omega)⟩ (by omega) (by omega) (s40 _ _ (k39 _ _ php hd29)) php q
  refine txs_new (rs := rs ++ [p32, p38]) n40 s40 p40p (by rw [h40, List.map_append] <;> rfl) (fun r m => ?_) (by rw [List.length_append]; show _ + 2 ≤ _; omega) (by rw [List.length_append]; show 0 < _ + 2; omega)
  rcases List.mem_append.mp m with m | m
  · exact (rt r m).fr
  simp only [List.mem_cons, List.not_mem_nil, or_false] at m
  rcases m with rfl | rfl
  · exact FrT.same ⟨sp31.apart n32, _, by rw [h32, List.map_append] <;> rfl, l32⟩ (s33.trans (s34.trans (s35.trans (s36.trans (s37.trans (s38.trans s39))))))
  · exact FrT.same ⟨sp37.apart n38, _, by rw [h38] <;> rfl, l38⟩ s39
end
end Kw

set_option Elab.async false
set_option linter.all false
set_option maxRecDepth 100000
set_option maxHeartbeats 4000000
namespace Kw
open PySem PySem.Spec PyProof.Rows L2
local macro_rules | `(tactic| walk_at $s:str) => do
  match s.getString.splitOn " " with
  | ["new", a] =>
    let p := Lean.mkIdent (Lean.Name.mkSimple ("p" ++ a))
    let n := Lean.mkIdent (Lean.Name.mkSimple ("n" ++ a))
    let H := Lean.mkIdent (Lean.Name.mkSimple ("H" ++ a))
    let s := Lean.mkIdent (Lean.Name.mkSimple ("s" ++ a))
    let h := Lean.mkIdent (Lean.Name.mkSimple ("h" ++ a))
    `(tactic| (intro $p $n; generalize e : upd _ $p _ = $H; have $s : Same _ $H := e ▸ same_new $n; have $h : $H $p = some _ := e ▸ upd_same; clear e))
  | _ => Lean.Macro.throwUnsupported
/-! ### law: its first statements, the whole -/
section
variable {P : Program} {w : World} {K : PySem.W.Frag} {mg : Str → Option Value} {base : Heap}
theorem ok_law (T : Tx K mg) : GOk P w K mg base CX0 90 (He.ga K "law") T.fd_law ["_law_script"] (spLaw K) := by
  refine gok_of T.F_law sc_law (fun vs H Q E h => ?_) (fun cdv A outer s H vs Q E hG hr h => ?_)
  · obtain ⟨a, ns, rfl, _⟩ := h
    rfl
  obtain ⟨a, ns, rfl, hS, hn, q⟩ := h
  obtain ⟨te, he, qe⟩ := law_m (P := P) (w := w) (mg := mg) (base := base) (cdv := cdv) (B := A) (o := outer) (z := s) (G := H) (E := E) T hG hr
  refine ⟨_, PSs.nox (pss_cons (ps_set (i := 1) sc_law.nd rfl (Or.inr rfl) (pe_call (ok_law_supply T) (hr.mono (by decide)) rfl T.g_law_supply T.F_law_supply.kp (b_law_supply T) .nil pass0 (pa_cons (pv 0) pa_nil)))
      (pss_cons (ps_set (i := 2) sc_law.nd rfl (Or.inl rfl) (pe_lst (pa_cons (pe_lst (pa_cons pe_str pa_nil)) (pa_cons (pe_lst (pa_cons pe_str pa_nil)) (pa_cons (pe_lst (pa_cons pe_str pa_nil)) (pa_cons (pe_lst (pa_cons pe_str pa_nil)) (pa_cons (pe_lst (pa_cons pe_str pa_nil)) (pa_cons (pe_lst (pa_cons pe_str pa_nil)) (pa_cons (pe_lst (pa_cons pe_str pa_nil)) (pa_cons (pe_lst (pa_cons pe_str pa_nil)) pa_nil))))))))))
      (pss_cons (ps_set (i := 2) sc_law.nd rfl (Or.inl rfl) (pe_op op_cat (pv 2) (pe_lst (pa_cons (pe_lst (pa_cons pe_str pa_nil)) (pa_cons (pe_lst (pa_cons pe_str pa_nil)) (pa_cons (pe_lst (pa_cons pe_str (pa_cons pe_str (pa_cons pe_str pa_nil)))) (pa_cons (pe_lst (pa_cons pe_str (pa_cons pe_str (pa_cons pe_str pa_nil)))) pa_nil)))))))
      (pss_cons (ps_for PassesOwn.never rfl (pi_list (pe_lst (pa_cons pe_str (pa_cons pe_str (pa_cons pe_str (pa_cons pe_str (pa_cons pe_str pa_nil))))))) (pg_name (i := 3) sc_law.nd rfl (Or.inl rfl)) (pss_one (ps_set (i := 2) sc_law.nd rfl (Or.inl rfl) (pe_op op_cat (pv 2) (pe_lst (pa_cons (pe_lst (pa_cons (pe_op op_add_str pe_str (pv 3)) pa_nil)) (pa_cons (pe_lst (pa_cons (pe_op op_add_str pe_str (pv 3)) pa_nil)) pa_nil)))))))
      he)))), ?_⟩
  have tN := tN
  refine ⟨_, rfl, a, ns, rfl, hS, hn, fun p H1 s1 np hs1 => ?_⟩
  have sp1 := hs1.some
  have hs1 := hs1
  refine ⟨sz 1, ?_⟩
  walk_at "new 11"
  have hs11 := hs1.same s11
  have t11 : FrT H11 p p11 := ⟨hs1.apart n11, [("" : Str)], h11, lsT_all (by decide +kernel)⟩
  clear h11
  refine ⟨sz 1, ?_⟩
  walk_at "new 12"
  have hs12 := hs11.same s12
  have t12 : FrT H12 p p12 := ⟨hs11.apart n12, [("# x" : Str)], h12, lsT_all (by decide +kernel)⟩
  have t11 := t11.same s12
  clear h12
  refine ⟨sz 1, ?_⟩
  walk_at "new 13"
  have hs13 := hs12.same s13
  have t13 : FrT H13 p p13 := ⟨hs12.apart n13, [("x := 1" : Str)], h13, lsT_all (by decide +kernel)⟩
  have t11 := t11.same s13
  have t12 := t12.same s13
  clear h13
  refine ⟨sz 1, ?_⟩
  walk_at "new 14"
  have hs14 := hs13.same s14
  have t14 : FrT H14 p p14 := ⟨hs13.apart n14, [("vars" : Str)], h14, lsT_all (by decide +kernel)⟩
  have t11 := t11.same s14
  have t12 := t12.same s14
  have t13 := t13.same s14
  clear h14
  refine ⟨sz 1, ?_⟩
  walk_at "new 15"
  have hs15 := hs14.same s15
  have t15 : FrT H15 p p15 := ⟨hs14.apart n15, [("vars x y" : Str)], h15, lsT_all (by decide +kernel)⟩
  have t11 := t11.same s15
  have t12 := t12.same s15
  have t13 := t13.same s15
  have t14 := t14.same s15
  clear h15
  refine ⟨sz 1, ?_⟩
  walk_at "new 16"
  have hs16 := hs15.same s16
  have t16 : FrT H16 p p16 := ⟨hs15.apart n16, [("vars x," : Str)], h16, lsT_all (by decide +kernel)⟩
  have t11 := t11.same s16
  have t12 := t12.same s16
  have t13 := t13.same s16
  have t14 := t14.same s16
  have t15 := t15.same s16
  clear h16
  refine ⟨sz 1, ?_⟩
  walk_at "new 17"
  have hs17 := hs16.same s17
  have t17 : FrT H17 p p17 := ⟨hs16.apart n17, [("vars x, x" : Str)], h17, lsT_all (by decide +kernel)⟩
  have t11 := t11.same s17
  have t12 := t12.same s17
  have t13 := t13.same s17
  have t14 := t14.same s17
  have t15 := t15.same s17
  have t16 := t16.same s17
  clear h17
  refine ⟨sz 1, ?_⟩
  walk_at "new 18"
  have hs18 := hs17.same s18
  have t18 : FrT H18 p p18 := ⟨hs17.apart n18, [("vars end" : Str)], h18, lsT_all (by decide +kernel)⟩
  have t11 := t11.same s18
  have t12 := t12.same s18
  have t13 := t13.same s18
  have t14 := t14.same s18
  have t15 := t15.same s18
  have t16 := t16.same s18
  have t17 := t17.same s18
  clear h18
  refine ⟨sz 8, ?_⟩
  walk_at "new 19"
  have hs19 := hs18.same s19
  have t11 := t11.same s19
  have t12 := t12.same s19
  have t13 := t13.same s19
  have t14 := t14.same s19
  have t15 := t15.same s19
  have t16 := t16.same s19
  have t17 := t17.same s19
  have t18 := t18.same s19
  refine ⟨_, rfl, ?_⟩
  refine ⟨sz 1, ?_⟩
  walk_at "new 20"
  have hs20 := hs19.same s20
  have t20 : FrT H20 p p20 := ⟨hs19.apart n20, [("vars x, y, z, u, v" : Str)], h20, lsT_all (by decide +kernel)⟩
  have t11 := t11.same s20
  have t12 := t12.same s20
  have t13 := t13.same s20
  have t14 := t14.same s20
  have t15 := t15.same s20
  have t16 := t16.same s20
  have t17 := t17.same s20
  have t18 := t18.same s20
  clear h20
  have h19 := s20 _ _ h19
  refine ⟨sz 1, ?_⟩
  walk_at "new 21"
  have hs21 := hs20.same s21
  have t21 : FrT H21 p p21 := ⟨hs20.apart n21, [("vars x, x Z" : Str)], h21, lsT_all (by decide +kernel)⟩
  have t11 := t11.same s21
  have t12 := t12.same s21
  have t13 := t13.same s21
  have t14 := t14.same s21
  have t15 := t15.same s21
  have t16 := t16.same s21
  have t17 := t17.same s21
  have t18 := t18.same s21
  have t20 := t20.same s21
  clear h21
  have h19 := s21 _ _ h19
  refine ⟨sz 3, ?_⟩
  walk_at "new 22"
  have hs22 := hs21.same s22
  have t22 : FrT H22 p p22 := ⟨hs21.apart n22, [("" : Str), ("vars x" : Str), ("x := )" : Str)], h22, lsT_all (by decide +kernel)⟩
  have t11 := t11.same s22
  have t12 := t12.same s22
  have t13 := t13.same s22
  have t14 := t14.same s22
  have t15 := t15.same s22
  have t16 := t16.same s22
  have t17 := t17.same s22
  have t18 := t18.same s22
  have t20 := t20.same s22
  have t21 := t21.same s22
  clear h22
  have h19 := s22 _ _ h19
  refine ⟨sz 3, ?_⟩
  walk_at "new 23"
  have hs23 := hs22.same s23
  have t23 : FrT H23 p p23 := ⟨hs22.apart n23, [("vars x" : Str), ("forever" : Str), ("" : Str)], h23, lsT_all (by decide +kernel)⟩
  have t11 := t11.same s23
  have t12 := t12.same s23
  have t13 := t13.same s23
  have t14 := t14.same s23
  have t15 := t15.same s23
  have t16 := t16.same s23
  have t17 := t17.same s23
  have t18 := t18.same s23
  have t20 := t20.same s23
  have t21 := t21.same s23
  have t22 := t22.same s23
  clear h23
  have h19 := s23 _ _ h19
  refine ⟨sz 4, ?_⟩
  walk_at "new 24"
  have h19 := s24 _ _ h19
  have hs24 := hs23.same s24
  have t11 := t11.same s24
  have t12 := t12.same s24
  have t13 := t13.same s24
  have t14 := t14.same s24
  have t15 := t15.same s24
  have t16 := t16.same s24
  have t17 := t17.same s24
  have t18 := t18.same s24
  have t20 := t20.same s24
  have t21 := t21.same s24
  have t22 := t22.same s24
  have t23 := t23.same s24
  refine ⟨_, _, _, _, rfl, rfl, h19, h24, sz 12, ?_⟩
  walk_at "new 25"
  have hs25 := hs24.same s25
  have T25 : TxsAt H25 p p25 12 := by
    refine ⟨hs24.apart n25, [p11, p12, p13, p14, p15, p16, p17, p18, p20, p21, p22, p23], h25, ⟨Nat.le_refl _, by show 0 < 12; decide⟩, fun r m => ?_⟩
    simp only [List.mem_cons, List.not_mem_nil, or_false] at m
    rcases m with rfl | rfl | rfl | rfl | rfl | rfl | rfl | rfl | rfl | rfl | rfl | rfl
    · exact t11.at n25 s25
    · exact t12.at n25 s25
    · exact t13.at n25 s25
    · exact t14.at n25 s25
    · exact t15.at n25 s25
    · exact t16.at n25 s25
    · exact t17.at n25 s25
    · exact t18.at n25 s25
    · exact t20.at n25 s25
    · exact t21.at n25 s25
    · exact t22.at n25 s25
    · exact t23.at n25 s25
  clear t11 t12 t13 t14 t15 t16 t17 t18 t20 t21 t22 t23 h25 h24 h19
  -- the words
  refine ⟨sz 5, ?_⟩
  walk_at "new 26"
  have hs26 := hs25.same s26
  have T26 := T25.kp (Kf.of s26)
  have p26p := hs25.apart n26
  refine ⟨p26, rfl, ⟨_, .of h26⟩, ?_⟩
  refine for_it (walk_list (K := K) (a := p26) (xs := ([("vars" : Str), "repeat", "forever", "mean", "end"]).map V.str)) (fun i σ H' => ∃ (t : Addr) (v3 : Option V), σ = [some (.ref a), some (.ref p), some (.ref t), v3, none, none, none, none, none, none, none, none, none, none, none] ∧ TxsAt H' p t (12 + 2 * i) ∧ H1 t = none ∧ SupAt K H1 H' p 0 ∧ H' p26 = some (.lst (([("vars" : Str), "repeat", "forever", "mean", "end"]).map V.str)))
    ⟨p25, none, rfl, T26, hs24.free n25, hs26, h26⟩ (fun i σ H' _ h => let ⟨_, _, _, _, _, _, e⟩ := h; .of e) ?_ ?_
  · rintro i x σ G G' hi ⟨t, v3, rfl, ⟨tp, rs, e1, ⟨e2, _⟩, e3⟩, tb, e4, e5⟩ ⟨rfl, hx⟩
    obtain ⟨y, hy, rfl⟩ := map_get hx
    have ly := ln_all (b := 10) (ls := [("vars" : Str), "repeat", "forever", "mean", "end"]) (by decide +kernel) y (List.mem_of_getElem? hy)
    have li : i < 5 := hi
    have l1 : Ln 10 ("vars " : Str) := ln_dec (by decide +kernel)
    have l2 : Ln 10 ("vars x, " : Str) := ln_dec (by decide +kernel)
    refine ⟨_, rfl, _, rfl, _, _, rfl, rfl, sz_app l1 ly (by decide), sz 1, ?_⟩
    walk_at "new 27"
    refine ⟨_, rfl, _, _, rfl, rfl, sz_app l2 ly (by decide), sz 1, ?_⟩
    walk_at "new 28"
    refine ⟨sz 2, ?_⟩
    walk_at "new 29"
    have s279 := s27.trans (s28.trans s29)
    refine ⟨_, _, _, _, rfl, rfl, s279 _ _ e1, h29, ?_, ?_⟩
    · rw [List.length_map]; exact sz _ (by show _ + 2 ≤ _; omega)
    walk_at "new 30"
    have hsG := ((e4.same s27).same s28).same s29
    have tb' := hsG.free n30
    refine ⟨p30, _, rfl, txs_new (rs := rs ++ [p27, p28]) n30 s30 (hsG.apart n30) (by rw [h30, List.map_append] <;> rfl) (fun r m => ?_) (by rw [List.length_append]; show _ + 2 ≤ _; omega) (by rw [List.length_append]; show 0 < _ + 2; omega), tb', hsG.same s30, s30 _ _ (s279 _ _ e5)⟩
    rcases List.mem_append.mp m with m | m
    · exact (e3 r m).fr.same s279
    simp only [List.mem_cons, List.not_mem_nil, or_false] at m
    rcases m with rfl | rfl
    · exact FrT.same ⟨e4.apart n27, [_], h27, ⟨by show 1 ≤ 160; decide, lns_one ((l1.app ly).more (by decide))⟩⟩ (s28.trans s29)
    · exact FrT.same ⟨(e4.same s27).apart n28, [_], h28, ⟨by show 1 ≤ 160; decide, lns_one ((l2.app ly).more (by decide))⟩⟩ s29
  · rintro σ H30 ⟨t, v3, rfl, T30, tb, hs30, _⟩
    exact qe _ _ p t _ _ _ _ _ _ _ _ _ _ _ _ H1 H30 22 0 ⟨T30, tb, hs30⟩ (by decide) (by decide) q
end
end Kw

set_option Elab.async false
set_option linter.all false
set_option maxRecDepth 100000
set_option maxHeartbeats 0
namespace Kw
open PySem PySem.Spec PyProof.Rows L2
theorem runTop (w : World) : HandSHeadRun.RunEq R (PySem.W.view R.prog [83]) hk ob 20000 nms w := by
  intro os
  kernel_rfl
end Kw

set_option Elab.async false
set_option linter.all false
set_option maxRecDepth 100000
set_option maxHeartbeats 0
/-! ### the whole -/
open PySem PySem.W PySem.Calls PyProof.Rows
theorem PySem.Challenge.cw_tolimit_k14_whole_programs_refused_holds : PySem.Challenge.rw_tolimit_k14_whole_programs_refused.Holds := by
  w_on; o_law
  refine HandSHeadRun.head_any (r := OpenLaw.row PySem.Challenge.rw_tolimit_k14_whole_programs_refused) (q := view (OpenLaw.row PySem.Challenge.rw_tolimit_k14_whole_programs_refused).prog [83]) (H := Kw.hk) (ob := Kw.ob) (M := 20000) (loose := Kw.nms)
    (d := HandSHeadRun.topDef (OpenLaw.row PySem.Challenge.rw_tolimit_k14_whole_programs_refused).prog 83) (kwd := []) Kw.ob_eq
    (by kernel_rfl) (fun s => by kernel_rfl) Kw.runTop (by kernel_rfl) (by kernel_rfl) (by kernel_rfl) (by rfl) (by first | assumption | decide +kernel) (by decide +kernel) ⟨rfl, rfl, rfl, rfl, rfl, by decide +kernel⟩ ?hw ?hc
  case hw => w_witness2
  case hc =>
    refine Kw.head_walk (l := PySem.Challenge.rw_tolimit_k14_whole_programs_refused) (n := 63) (k := 90) (x := "_law_script") (CX := L2.CX0) rfl (by decide) (by kernel_rfl) ⟨rfl, by decide, by decide⟩ ?F (fun _ _ _ _ z => z)
    intro w mg fa h Y G hmg0
    obtain ⟨K, KX, c⟩ := Y
    have hmg : mg ("law" : PySem.Str) = some (.ref fa) := by
      have e : (HandSHeadRun.topDef (OpenLaw.row PySem.Challenge.rw_tolimit_k14_whole_programs_refused).prog 83).name = ("law" : PySem.Str) := by kernel_rfl
      rw [← e]
      exact hmg0
    obtain ⟨T⟩ := Kw.tx_of KX G c
    have e := hmg.symm.trans T.g_law
    cases e
    have b := L2.FunD.bindsA (ps := ["_law_script"]) T.F_law fun _ _ _ _ _ _ us hl => match us, hl with | [_], _ => rfl
    exact ⟨K, T.fd_law, Kw.spLaw K, KX, fun s v => b s [v] rfl, fun H a ns hl _ hS => ⟨a, ns, rfl, hS, hl, fun _ => rfl⟩, fun base _ _ => Kw.ok_law T⟩
