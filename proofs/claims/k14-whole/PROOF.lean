import PyProof.Rows.All
import Wide.All
import OpenK.AllK
import Wide.FinOn
import HandS.ForMost
import HandS.More
import HandS.Codes
import HandS.Defaults
import HandS.HeadHook4
import HandS.HeadWalk
import PySem.Challenge.RW_manysides_k14_whole_whoever_made_the_pap
import KE.KStateDown
import Lean
import HandS.Head0
import HandS.Head1
import HandS.Head2
import HandS.Wide
import HandS.IsInst
import HandS.Style
import HandS.TupAny
import HandS.TupLen
import HandS.AnyAll
import HandS.Walk
import KE.DataMinMax
import KE.GoesDict
import PyProof.StrBlock2
set_option Elab.async false
set_option linter.all false
set_option maxRecDepth 100000
set_option maxHeartbeats 0
namespace Ms
open PySem PySem.Spec PyProof.Rows L2
/-! the text by places -/
def top (i : Nat) : Stmt := PySem.Challenge.pw_manysides_k14_whole_whoever_made_the_pap.main.body.getD i (.Pass ⟨0, 0, 0, 0⟩)
abbrev s_is_text : Stmt := top 6
abbrev s_is_integer : Stmt := top 10
abbrev s_is_value : Stmt := top 11
abbrev s_greatest_of : Stmt := top 12
abbrev s_Shape_init : Stmt := inClass (top 15) 0
abbrev s_u_index_of : Stmt := top 16
abbrev s_dim_index : Stmt := top 17
abbrev s_attr_index : Stmt := top 18
abbrev s_parts_of : Stmt := top 25
abbrev s_Checker_init : Stmt := inClass (top 26) 0
abbrev s_Checker_leaf : Stmt := inClass (top 26) 1
abbrev s_Checker_kind : Stmt := inClass (top 26) 2
abbrev s_u_kind_from : Stmt := top 27
abbrev s_kind_of : Stmt := top 28
abbrev s_bounded : Stmt := top 29
abbrev s_arithmetic_expressions : Stmt := top 30
abbrev s_compared : Stmt := top 32
abbrev s_decided : Stmt := top 33
abbrev s_single_expressions : Stmt := top 34
abbrev s_u_strict : Stmt := top 36
abbrev s_value_of : Stmt := top 37
abbrev s_allows : Stmt := top 40
abbrev s_u_leaf : Stmt := top 41
abbrev s_u_bounded : Stmt := top 42
abbrev s_u_hull : Stmt := top 43
abbrev s_u_flags : Stmt := top 44
abbrev s_u_outcomes : Stmt := top 45
abbrev s_single_sieves : Stmt := top 46
abbrev s_u_divided : Stmt := top 48
abbrev s_arithmetic_sieves : Stmt := top 49
abbrev s_u_joined : Stmt := top 51
abbrev s_u_compared : Stmt := top 52
abbrev s_u_decided : Stmt := top 53
abbrev s_u_together : Stmt := top 54
abbrev s_u_chosen : Stmt := top 55
abbrev s_u_replaced : Stmt := top 56
abbrev s_u_can_be : Stmt := top 57
abbrev s_span_from : Stmt := top 58
abbrev s_u_due_span : Stmt := top 59
abbrev s_paper_of : Stmt := top 60
abbrev s_span_of : Stmt := top 61
abbrev s_u_is_span : Stmt := top 62
abbrev s_u_encloses : Stmt := top 63
abbrev s_shows : Stmt := top 64
abbrev s_can_pass : Stmt := top 65
abbrev s_marks_of : Stmt := top 67
abbrev s_u_law_draw : Stmt := top 69
abbrev s_u_law_draws : Stmt := top 70
abbrev s_u_law_next : Stmt := top 71
abbrev s_u_law_word : Stmt := top 72
abbrev s_u_law_number : Stmt := top 73
abbrev s_u_law_thing : Stmt := top 74
abbrev s_u_law_shape : Stmt := top 75
abbrev s_u_law_place : Stmt := top 76
abbrev s_u_law_values : Stmt := top 77
abbrev s_u_law_cells : Stmt := top 78
abbrev s_u_law_leaf : Stmt := top 79
abbrev s_u_law_flag : Stmt := top 80
abbrev s_u_law_expression : Stmt := top 81
abbrev s_u_law_box : Stmt := top 82
abbrev s_u_law_drawn : Stmt := top 83
abbrev s_u_law_lies : Stmt := top 84
abbrev s_law : Stmt := top 85
/-! the defs as data -/
def d_is_text : He.DefD := ⟨("is_text", none), "is_text", "is_text", defArgs s_is_text, defBody s_is_text, defScope s_is_text, [], []⟩
def d_is_integer : He.DefD := ⟨("is_integer", none), "is_integer", "is_integer", defArgs s_is_integer, defBody s_is_integer, defScope s_is_integer, [], []⟩
def d_is_value : He.DefD := ⟨("is_value", none), "is_value", "is_value", defArgs s_is_value, defBody s_is_value, defScope s_is_value, [], []⟩
def d_greatest_of : He.DefD := ⟨("greatest_of", none), "greatest_of", "greatest_of", defArgs s_greatest_of, defBody s_greatest_of, defScope s_greatest_of, [], []⟩
def d_Shape_init : He.DefD := ⟨("Shape", some "__init__"), "__init__", "Shape.__init__", defArgs s_Shape_init, defBody s_Shape_init, defScope s_Shape_init, [], []⟩
def d_u_index_of : He.DefD := ⟨("_index_of", none), "_index_of", "_index_of", defArgs s_u_index_of, defBody s_u_index_of, defScope s_u_index_of, [], []⟩
def d_dim_index : He.DefD := ⟨("dim_index", none), "dim_index", "dim_index", defArgs s_dim_index, defBody s_dim_index, defScope s_dim_index, [], []⟩
def d_attr_index : He.DefD := ⟨("attr_index", none), "attr_index", "attr_index", defArgs s_attr_index, defBody s_attr_index, defScope s_attr_index, [], []⟩
def d_parts_of : He.DefD := ⟨("parts_of", none), "parts_of", "parts_of", defArgs s_parts_of, defBody s_parts_of, defScope s_parts_of, [], []⟩
def d_Checker_init : He.DefD := ⟨("Checker", some "__init__"), "__init__", "Checker.__init__", defArgs s_Checker_init, defBody s_Checker_init, defScope s_Checker_init, [], []⟩
def d_Checker_leaf : He.DefD := ⟨("Checker", some "leaf"), "leaf", "Checker.leaf", defArgs s_Checker_leaf, defBody s_Checker_leaf, defScope s_Checker_leaf, [], []⟩
def d_Checker_kind : He.DefD := ⟨("Checker", some "kind"), "kind", "Checker.kind", defArgs s_Checker_kind, defBody s_Checker_kind, defScope s_Checker_kind, [], []⟩
def d_u_kind_from : He.DefD := ⟨("_kind_from", none), "_kind_from", "_kind_from", defArgs s_u_kind_from, defBody s_u_kind_from, defScope s_u_kind_from, [], []⟩
def d_kind_of : He.DefD := ⟨("kind_of", none), "kind_of", "kind_of", defArgs s_kind_of, defBody s_kind_of, defScope s_kind_of, [], []⟩
def d_bounded : He.DefD := ⟨("bounded", none), "bounded", "bounded", defArgs s_bounded, defBody s_bounded, defScope s_bounded, [], []⟩
def d_arithmetic_expressions : He.DefD := ⟨("arithmetic_expressions", none), "_arithmetic", "_arithmetic", defArgs s_arithmetic_expressions, defBody s_arithmetic_expressions, defScope s_arithmetic_expressions, [], []⟩
def d_compared : He.DefD := ⟨("compared", none), "compared", "compared", defArgs s_compared, defBody s_compared, defScope s_compared, [], []⟩
def d_decided : He.DefD := ⟨("decided", none), "decided", "decided", defArgs s_decided, defBody s_decided, defScope s_decided, [], []⟩
def d_single_expressions : He.DefD := ⟨("single_expressions", none), "_single", "_single", defArgs s_single_expressions, defBody s_single_expressions, defScope s_single_expressions, [], []⟩
def d_u_strict : He.DefD := ⟨("_strict", none), "_strict", "_strict", defArgs s_u_strict, defBody s_u_strict, defScope s_u_strict, [], []⟩
def d_value_of : He.DefD := ⟨("value_of", none), "value_of", "value_of", defArgs s_value_of, defBody s_value_of, defScope s_value_of, [], []⟩
def d_allows : He.DefD := ⟨("allows", none), "allows", "allows", defArgs s_allows, defBody s_allows, defScope s_allows, [], []⟩
def d_u_leaf : He.DefD := ⟨("_leaf", none), "_leaf", "_leaf", defArgs s_u_leaf, defBody s_u_leaf, defScope s_u_leaf, [], []⟩
def d_u_bounded : He.DefD := ⟨("_bounded", none), "_bounded", "_bounded", defArgs s_u_bounded, defBody s_u_bounded, defScope s_u_bounded, [], []⟩
def d_u_hull : He.DefD := ⟨("_hull", none), "_hull", "_hull", defArgs s_u_hull, defBody s_u_hull, defScope s_u_hull, [], []⟩
def d_u_flags : He.DefD := ⟨("_flags", none), "_flags", "_flags", defArgs s_u_flags, defBody s_u_flags, defScope s_u_flags, [], []⟩
def d_u_outcomes : He.DefD := ⟨("_outcomes", none), "_outcomes", "_outcomes", defArgs s_u_outcomes, defBody s_u_outcomes, defScope s_u_outcomes, [], []⟩
def d_single_sieves : He.DefD := ⟨("single_sieves", none), "_single", "_single", defArgs s_single_sieves, defBody s_single_sieves, defScope s_single_sieves, [], []⟩
def d_u_divided : He.DefD := ⟨("_divided", none), "_divided", "_divided", defArgs s_u_divided, defBody s_u_divided, defScope s_u_divided, [], []⟩
def d_arithmetic_sieves : He.DefD := ⟨("arithmetic_sieves", none), "_arithmetic", "_arithmetic", defArgs s_arithmetic_sieves, defBody s_arithmetic_sieves, defScope s_arithmetic_sieves, [], []⟩
def d_u_joined : He.DefD := ⟨("_joined", none), "_joined", "_joined", defArgs s_u_joined, defBody s_u_joined, defScope s_u_joined, [], []⟩
def d_u_compared : He.DefD := ⟨("_compared", none), "_compared", "_compared", defArgs s_u_compared, defBody s_u_compared, defScope s_u_compared, [], []⟩
def d_u_decided : He.DefD := ⟨("_decided", none), "_decided", "_decided", defArgs s_u_decided, defBody s_u_decided, defScope s_u_decided, [], []⟩
def d_u_together : He.DefD := ⟨("_together", none), "_together", "_together", defArgs s_u_together, defBody s_u_together, defScope s_u_together, [], []⟩
def d_u_chosen : He.DefD := ⟨("_chosen", none), "_chosen", "_chosen", defArgs s_u_chosen, defBody s_u_chosen, defScope s_u_chosen, [], []⟩
def d_u_replaced : He.DefD := ⟨("_replaced", none), "_replaced", "_replaced", defArgs s_u_replaced, defBody s_u_replaced, defScope s_u_replaced, [], []⟩
def d_u_can_be : He.DefD := ⟨("_can_be", none), "_can_be", "_can_be", defArgs s_u_can_be, defBody s_u_can_be, defScope s_u_can_be, [], []⟩
def d_span_from : He.DefD := ⟨("span_from", none), "span_from", "span_from", defArgs s_span_from, defBody s_span_from, defScope s_span_from, [], []⟩
def d_u_due_span : He.DefD := ⟨("_due_span", none), "_due_span", "_due_span", defArgs s_u_due_span, defBody s_u_due_span, defScope s_u_due_span, [], []⟩
def d_paper_of : He.DefD := ⟨("paper_of", none), "paper_of", "paper_of", defArgs s_paper_of, defBody s_paper_of, defScope s_paper_of, [], []⟩
def d_span_of : He.DefD := ⟨("span_of", none), "span_of", "span_of", defArgs s_span_of, defBody s_span_of, defScope s_span_of, [], []⟩
def d_u_is_span : He.DefD := ⟨("_is_span", none), "_is_span", "_is_span", defArgs s_u_is_span, defBody s_u_is_span, defScope s_u_is_span, [], []⟩
def d_u_encloses : He.DefD := ⟨("_encloses", none), "_encloses", "_encloses", defArgs s_u_encloses, defBody s_u_encloses, defScope s_u_encloses, [], []⟩
def d_shows : He.DefD := ⟨("shows", none), "shows", "shows", defArgs s_shows, defBody s_shows, defScope s_shows, [], []⟩
def d_can_pass : He.DefD := ⟨("can_pass", none), "can_pass", "can_pass", defArgs s_can_pass, defBody s_can_pass, defScope s_can_pass, [], []⟩
def d_marks_of : He.DefD := ⟨("marks_of", none), "marks_of", "marks_of", defArgs s_marks_of, defBody s_marks_of, defScope s_marks_of, [], []⟩
def d_u_law_draw : He.DefD := ⟨("_law_draw", none), "_law_draw", "_law_draw", defArgs s_u_law_draw, defBody s_u_law_draw, defScope s_u_law_draw, [], []⟩
def d_u_law_draws : He.DefD := ⟨("_law_draws", none), "_law_draws", "_law_draws", defArgs s_u_law_draws, defBody s_u_law_draws, defScope s_u_law_draws, [], []⟩
def d_u_law_next : He.DefD := ⟨("_law_next", none), "_law_next", "_law_next", defArgs s_u_law_next, defBody s_u_law_next, defScope s_u_law_next, [], []⟩
def d_u_law_word : He.DefD := ⟨("_law_word", none), "_law_word", "_law_word", defArgs s_u_law_word, defBody s_u_law_word, defScope s_u_law_word, [], []⟩
def d_u_law_number : He.DefD := ⟨("_law_number", none), "_law_number", "_law_number", defArgs s_u_law_number, defBody s_u_law_number, defScope s_u_law_number, [], []⟩
def d_u_law_thing : He.DefD := ⟨("_law_thing", none), "_law_thing", "_law_thing", defArgs s_u_law_thing, defBody s_u_law_thing, defScope s_u_law_thing, [], []⟩
def d_u_law_shape : He.DefD := ⟨("_law_shape", none), "_law_shape", "_law_shape", defArgs s_u_law_shape, defBody s_u_law_shape, defScope s_u_law_shape, [], []⟩
def d_u_law_place : He.DefD := ⟨("_law_place", none), "_law_place", "_law_place", defArgs s_u_law_place, defBody s_u_law_place, defScope s_u_law_place, [], []⟩
def d_u_law_values : He.DefD := ⟨("_law_values", none), "_law_values", "_law_values", defArgs s_u_law_values, defBody s_u_law_values, defScope s_u_law_values, [], []⟩
def d_u_law_cells : He.DefD := ⟨("_law_cells", none), "_law_cells", "_law_cells", defArgs s_u_law_cells, defBody s_u_law_cells, defScope s_u_law_cells, [], []⟩
def d_u_law_leaf : He.DefD := ⟨("_law_leaf", none), "_law_leaf", "_law_leaf", defArgs s_u_law_leaf, defBody s_u_law_leaf, defScope s_u_law_leaf, [], []⟩
def d_u_law_flag : He.DefD := ⟨("_law_flag", none), "_law_flag", "_law_flag", defArgs s_u_law_flag, defBody s_u_law_flag, defScope s_u_law_flag, [], []⟩
def d_u_law_expression : He.DefD := ⟨("_law_expression", none), "_law_expression", "_law_expression", defArgs s_u_law_expression, defBody s_u_law_expression, defScope s_u_law_expression, [], []⟩
def d_u_law_box : He.DefD := ⟨("_law_box", none), "_law_box", "_law_box", defArgs s_u_law_box, defBody s_u_law_box, defScope s_u_law_box, [], []⟩
def d_u_law_drawn : He.DefD := ⟨("_law_drawn", none), "_law_drawn", "_law_drawn", defArgs s_u_law_drawn, defBody s_u_law_drawn, defScope s_u_law_drawn, [], []⟩
def d_u_law_lies : He.DefD := ⟨("_law_lies", none), "_law_lies", "_law_lies", defArgs s_u_law_lies, defBody s_u_law_lies, defScope s_u_law_lies, [], []⟩
def d_law : He.DefD := ⟨("law", none), "law", "law", defArgs s_law, defBody s_law, defScope s_law, [], []⟩
def fn1 : List He.DefD := [d_is_text, d_is_integer, d_is_value, d_greatest_of, d_Shape_init, d_u_index_of, d_dim_index, d_attr_index, d_parts_of, d_Checker_init, d_Checker_leaf, d_Checker_kind, d_u_kind_from, d_kind_of, d_bounded, d_arithmetic_expressions, d_compared, d_decided, d_single_expressions, d_u_strict, d_value_of, d_allows, d_u_leaf, d_u_bounded, d_u_hull, d_u_flags, d_u_outcomes, d_single_sieves, d_u_divided, d_arithmetic_sieves, d_u_joined, d_u_compared]
def fn2 : List He.DefD := [d_u_decided, d_u_together, d_u_chosen, d_u_replaced, d_u_can_be, d_span_from, d_u_due_span, d_paper_of, d_span_of, d_u_is_span, d_u_encloses, d_shows, d_can_pass, d_marks_of, d_u_law_draw, d_u_law_draws, d_u_law_next, d_u_law_word, d_u_law_number, d_u_law_thing, d_u_law_shape, d_u_law_place, d_u_law_values, d_u_law_cells, d_u_law_leaf, d_u_law_flag, d_u_law_expression, d_u_law_box, d_u_law_drawn, d_u_law_lies, d_law]
def fn : List He.DefD := fn1 ++ fn2
def gl0 : List Str := ["is_text", "is_integer", "is_value", "greatest_of", "_index_of", "dim_index", "attr_index", "parts_of", "_kind_from", "kind_of", "bounded", "arithmetic_expressions", "compared", "decided", "single_expressions", "_strict", "value_of", "allows", "_leaf", "_bounded", "_hull", "_flags", "_outcomes", "single_sieves", "_divided"]
def gl1 : List Str := ["arithmetic_sieves", "_joined", "_compared", "_decided", "_together", "_chosen", "_replaced", "_can_be", "span_from", "_due_span", "paper_of", "span_of", "_is_span", "_encloses", "shows", "can_pass", "marks_of", "_law_draw", "_law_draws", "_law_next", "_law_word", "_law_number", "_law_thing", "_law_shape", "_law_place"]
def gl2 : List Str := ["_law_values", "_law_cells", "_law_leaf", "_law_flag", "_law_expression", "_law_box", "_law_drawn", "_law_lies", "law", "Shape", "Checker", "KINDS", "LEAVES", "ARITHMETIC", "COMPARISONS", "PARTS_KIND", "RESULT_KIND", "NOTHING"]
def gl : List Str := gl0 ++ gl1 ++ gl2
def frs : List Str := ["len", "int", "range", "isinstance", "max", "min", "abs", "tuple", "list", "any", "all", "bool", "str"]
def txBefore : Str := " !\"#$"
def txBehind : Str := "&'()*+,-./0123456789:;<=>?@ABCDEFGHIJKLMNOPQRSTUVWXYZ[\\]^_`abcdefghijklmnopqrstuvwxyz{|}~"
def fo : List He.Fa := [.int "BOUND" (10 ^ 30), .int "LONGEST" 200, .str "BEFORE" txBefore, .str "BEHIND" txBehind, .cls "Shape", .cls "Checker", .noat "Shape" "dims", .noat "Shape" "attrs", .noat "Checker" "shape", .noat "Checker" "count", .meth "Checker" "leaf", .meth "Checker" "kind", .mkr "Shape", .mkr "Checker"]
def fa : List He.Fa := gl.map He.Fa.glo ++ (frs.map He.Fa.free ++ fo)
/-! tuples and dicts of the top -/
def tupKinds : List He.Dv := [.str "int", .str "flag", .str "text"]
def tupLeaves : List He.Dv := [.str "value", .str "attr", .str "dim"]
def tupArith : List He.Dv := [.str "add", .str "sub", .str "mul", .str "div", .str "mod"]
def tupComp : List He.Dv := [.str "eq", .str "ne", .str "lt", .str "le", .str "gt", .str "ge"]
def tupNothing : List He.Dv := [.non, .non, .bl true]
def dicParts : List (Str × He.Dv) := [("neg", .str "int"), ("abs", .str "int"), ("not", .str "flag"), ("length", .str "text"), ("joined", .str "text"), ("and", .str "flag"), ("or", .str "flag")]
def dicResult : List (Str × He.Dv) := [("neg", .str "int"), ("abs", .str "int"), ("not", .str "flag"), ("length", .str "int"), ("joined", .str "text"), ("and", .str "flag"), ("or", .str "flag"), ("is missing", .str "flag")]
def ts : List He.Tab := [((fun K => He.ga K "PARTS_KIND"), dicParts.map (·.1)), ((fun K => He.ga K "RESULT_KIND"), dicResult.map (·.1))]
def tf : List He.Defn := [("_kind_from", none), ("_together", none), ("span_from", none)]
/-- the words that PARTS_KIND does not have -/
def outParts : List Str := ["is missing", "add", "sub", "mul", "div", "mod", "if", "eq", "ne", "lt", "le", "gt", "ge", "or else"]
def ex (K : PySem.W.Frag) : Bool := He.tupB K "KINDS" tupKinds && (He.tupB K "LEAVES" tupLeaves && (He.tupB K "ARITHMETIC" tupArith && (He.tupB K "COMPARISONS" tupComp && (He.tupB K "NOTHING" tupNothing &&
  (He.valsB K (He.ga K "PARTS_KIND") dicParts && (He.valsB K (He.ga K "RESULT_KIND") dicResult && outParts.all fun x => He.eqO (PySem.W.nsIn K (He.ga K "PARTS_KIND") x) (some none)))))))
def loose0 : List Str := ["ManysidesError", "InvalidQuery", "BEFORE", "BEHIND", "is_text", "BOUND", "LONGEST", "is_integer", "is_value", "greatest_of", "KINDS", "Shape", "_index_of", "dim_index", "attr_index", "LEAVES", "ARITHMETIC", "COMPARISONS", "PARTS_KIND", "RESULT_KIND", "parts_of", "Checker", "_kind_from", "kind_of", "bounded"]
def loose1 : List Str := ["_arithmetic", "arithmetic_expressions", "compared", "decided", "_single", "single_expressions", "_strict", "value_of", "NOTHING", "allows", "_leaf", "_bounded", "_hull", "_flags", "_outcomes", "single_sieves", "_divided", "arithmetic_sieves", "_joined", "_compared", "_decided", "_together", "_chosen", "_replaced", "_can_be"]
def loose2 : List Str := ["span_from", "_due_span", "paper_of", "span_of", "_is_span", "_encloses", "shows", "can_pass", "marks_of", "_law_draw", "_law_draws", "_law_next", "_law_word", "_law_number", "_law_thing", "_law_shape", "_law_place", "_law_values", "_law_cells", "_law_leaf", "_law_flag", "_law_expression", "_law_box", "_law_drawn", "_law_lies"]
def loose : List Str := loose0 ++ loose1 ++ loose2
end Ms
namespace Ms
open PySem PySem.Spec PyProof.Rows L2
abbrev R : PySem.W.OpenRow := PySem.W.OpenLaw.row PySem.Challenge.rw_manysides_k14_whole_whoever_made_the_pap
/-! what is looked at behind the top: the module's values, a class's own ones, their code objects -/
def kidsM (o : Obj) : List Addr := match o.data with
  | .dict es _ => es.toList.flatMap fun e => He.refV e.val
  | .func fd => He.refV fd.code
  | .cls cd => [cd.ns]
  | _ => []
def lvM (g : Addr → Option Obj) (l : List Addr) : List Addr := l.flatMap fun a => match g a with
  | some o => kidsM o
  | none => []
def asM (g : Addr → Option Obj) : List Addr :=
  mainGlobals :: (lvM g [mainGlobals] ++ (lvM g (lvM g [mainGlobals]) ++ (lvM g (lvM g (lvM g [mainGlobals])) ++ lvM g (lvM g (lvM g (lvM g [mainGlobals]))))))
abbrev kM (g : Addr → Option Obj) : PySem.W.Frag := He.frG g (asM g)
/-- the code tables: empty, not among what is written down -/
def tabsM (g : Addr → Option Obj) (K : PySem.W.Frag) : Bool := tf.all fun p => PySem.W.codeHdIn K (He.cT K p).1 (He.cT K p).2 && ((K.lookup (He.cT K p).2).isNone && (match g (He.cT K p).2 with
  | some o => He.emptyTab o
  | none => false))
structure SaysM (w : World) (h : Heap) (K : PySem.W.Frag) : Prop where
  t : He.SaysT fa fn ts w K
  more : ex K = true
  hd : ∀ p ∈ tf, PySem.W.codeHdIn K (He.cT K p).1 (He.cT K p).2 = true
  out : ∀ p ∈ tf, K.lookup (He.cT K p).2 = none
  nil : ∀ p ∈ tf, h.get? (He.cT K p).2 = some { cls := .none, data := .fields #[] }
def obsM (g : Addr → Option Obj) : He.AlT × Bool := (He.obsT fa fn ts (kM g), ex (kM g) && tabsM g (kM g))
def valM (w : World) : He.AlT × Bool := (He.valT fn ts w, true)
theorem saysM_of {w : World} {h : Heap} (e : obsM h.get? = valM w) : SaysM w h (kM h.get?) := by
  have e1 : He.obsT fa fn ts (kM h.get?) = He.valT fn ts w := congrArg Prod.fst e
  have e2 : (ex (kM h.get?) && tabsM h.get? (kM h.get?)) = true := congrArg Prod.snd e
  obtain ⟨h1, h2⟩ := He.ba e2
  have key : ∀ p ∈ tf, PySem.W.codeHdIn (kM h.get?) (He.cT (kM h.get?) p).1 (He.cT (kM h.get?) p).2 = true ∧ (kM h.get?).lookup (He.cT (kM h.get?) p).2 = none ∧
      h.get? (He.cT (kM h.get?) p).2 = some { cls := .none, data := .fields #[] } := by
    intro p hp
    obtain ⟨a1, a2⟩ := He.ba (List.all_eq_true.mp h2 p hp)
    obtain ⟨a3, a4⟩ := He.ba a2
    refine ⟨a1, Option.isNone_iff_eq_none.mp a3, ?_⟩
    cases q : h.get? (He.cT (kM h.get?) p).2 with
    | none => rw [q] at a4; cases a4
    | some o => rw [q] at a4; rw [He.emptyTab_eq a4]
  exact ⟨e1, h1, fun p hp => (key p hp).1, fun p hp => (key p hp).2.1, fun p hp => (key p hp).2.2⟩
def hk : PySem.W.Hook where
  α := He.AlT × Bool
  obs := fun s => obsM s.heap.get?
  val := fun w => valM w
  says := fun w h => ∃ K : PySem.W.Frag, K.In h ∧ SaysM w h K
  of := fun _ _ e => ⟨_, He.frG_in, saysM_of e⟩
  keeps := fun _ _ _ z k => match z with
    | ⟨K, hK, c⟩ => ⟨K, PySem.W.Frag.In.keeps hK k, ⟨c.t, c.more, c.hd, c.out, fun p hp => k _ _ (c.nil p hp)⟩⟩
def ob (s : PySem.W.SharedT) : He.AlT × Bool := obsM (HandSHeadRun.getT s)
theorem ob_eq (s : PySem.W.SharedT) : ob s = hk.obs s.abs := by
  show obsM (HandSHeadRun.getT s) = obsM s.abs.heap.get?
  rw [show HandSHeadRun.getT s = s.abs.heap.get? from funext (HandSHeadRun.getT_eq s)]
end Ms
namespace Ms
open PySem PySem.Spec PyProof.Rows L2
theorem runT (w : World) : HandSHeadRun.RunEq R (PySem.W.view R.prog [85]) hk ob 20000 loose (w.withFollow "special-get-raises" true) := by
  intro os
  kernel_rfl
theorem runF (w : World) : HandSHeadRun.RunEq R (PySem.W.view R.prog [85]) hk ob 20000 loose (w.withFollow "special-get-raises" false) := by
  intro os
  kernel_rfl
theorem run (w : World) : HandSHeadRun.RunEq R (PySem.W.view R.prog [85]) hk ob 20000 loose w :=
  PySem.W.byRow2 "special-get-raises" (P := fun w => HandSHeadRun.RunEq R (PySem.W.view R.prog [85]) hk ob 20000 loose w) runF runT w
end Ms
/-! rules of our own: values of one kind compared, their least and greatest; great quotients; a text repeated -/
namespace Ms
open PySem PySem.Spec PyProof.Rows L2
/-! ### scalars of one kind -/
def dV : V → PyData
  | .bl b => .bool b
  | .int i => .int i
  | .str x => .str x
  | _ => .none
def sk : V → V → Bool
  | .int _, .int _ => true
  | .bl _, .bl _ => true
  | .str _, .str _ => true
  | _, _ => false
def ltB (x y : V) : Bool := PySem.W.dataLt (dV x) (dV y)
def leB (x y : V) : Bool := !ltB y x
theorem ltB_int (i j : Int) : ltB (.int i) (.int j) = decide (i < j) := PySem.W.dataLt_int i j
theorem ltB_bl (i j : Bool) : ltB (.bl i) (.bl j) = decide (b2i i < b2i j) := PySem.W.dataLt_bool i j
theorem ltB_str (x y : Str) : ltB (.str x) (.str y) = decide (x.cps.toList < y.cps.toList) := PySem.W.dataLt_str x y
theorem leB_int (i j : Int) : leB (.int i) (.int j) = decide (i ≤ j) := by
  unfold leB
  rw [ltB_int]
  by_cases h : j < i
  · rw [decide_eq_true h, decide_eq_false (by omega)]; rfl
  · rw [decide_eq_false h, decide_eq_true (by omega)]; rfl
theorem reads_dV {h : Heap} {x : V} {u : Value} (r : RelV x u) (hk : sk x x = true) : Reads h u (dV x) [] := by
  cases x with
  | bl b => have e : u = Value.bool b := r; subst e; exact .bool b
  | int i => obtain ⟨t, rfl⟩ := r; exact .int i t
  | str z => obtain ⟨t, rfl⟩ := r; exact .str z t
  | _ => cases hk
theorem dV_inj {x y : V} (hx : sk x x = true) (hy : sk y y = true) (e : dV x = dV y) : x = y := by
  cases x <;> cases hx <;> cases y <;> cases hy <;> cases e <;> rfl
theorem sk_refl {x y : V} (h : sk x y = true) : sk x x = true ∧ sk y y = true := by
  cases x <;> cases y <;> first | exact ⟨rfl, rfl⟩ | cases h
theorem sk_comm {x y : V} (h : sk x y = true) : sk y x = true := by
  cases x <;> cases y <;> first | rfl | cases h
theorem sk_trans {x y z : V} (h : sk x y = true) (h2 : sk y z = true) : sk x z = true := by
  cases x <;> cases y <;> cases h <;> cases z <;> cases h2 <;> rfl
theorem alike_of {x y : V} (h : sk x y = true) : PySem.W.alike (dV x) (dV y) = true := by
  cases x <;> cases y <;> first | rfl | cases h
theorem depth_dV {x : V} (h : sk x x = true) : (dV x).depth = 0 := by
  cases x <;> first | rfl | cases h
theorem dV_ne {x : V} (h : sk x x = true) : dV x ≠ .none := by
  cases x <;> cases h <;> intro e <;> cases e
theorem reads_inj {h : Heap} {x y : V} {u : Value} {as : List Addr} (r : RelV x u) (hk : sk x x = true) (hy : sk y y = true) (q : Reads h u (dV y) as) : y = x := by
  cases x with
  | bl b => have e : u = Value.bool b := r; subst e; cases y <;> cases hy <;> cases q; rfl
  | int i => obtain ⟨t, rfl⟩ := r; cases y <;> cases hy <;> cases q; rfl
  | str z => obtain ⟨t, rfl⟩ := r; cases y <;> cases hy <;> cases q; rfl
  | _ => cases hk
/-! ### comparisons -/
def rK (f : V → V → Bool) : R2 := fun x y H Q => sk x y = true ∧ Q (.bl (f x y)) H
section
variable {X : Cx}
theorem op_leK (hu : X.A.units + 1 < cLine) : OpR X (compareOp .LtE) (rK leB) := by
  intro pins s σ H x y v u Q I rx ry h
  obtain ⟨hk, q⟩ := h
  obtain ⟨kx, ky⟩ := sk_refl hk
  exact PySem.W.le_data (reads_dV rx kx) (reads_dV ry ky) (alike_of hk) (dV_ne kx) (by rw [depth_dV kx]; simp only [Nat.zero_min]; omega) ⟨.bl _, H, I, rfl, q⟩
theorem op_ltK (hu : X.A.units + 1 < cLine) : OpR X (compareOp .Lt) (rK ltB) := by
  intro pins s σ H x y v u Q I rx ry h
  obtain ⟨hk, q⟩ := h
  obtain ⟨kx, ky⟩ := sk_refl hk
  exact PySem.W.lt_data (reads_dV rx kx) (reads_dV ry ky) (alike_of hk) (dV_ne kx) (by rw [depth_dV kx]; simp only [Nat.zero_min]; omega) ⟨.bl _, H, I, rfl, q⟩
theorem op_geK (hu : X.A.units + 1 < cLine) : OpR X (compareOp .GtE) (rK fun x y => leB y x) := by
  intro pins s σ H x y v u Q I rx ry h
  obtain ⟨hk, q⟩ := h
  obtain ⟨kx, ky⟩ := sk_refl hk
  exact PySem.W.ge_data (reads_dV rx kx) (reads_dV ry ky) (alike_of hk) (dV_ne kx) (by rw [depth_dV kx]; simp only [Nat.zero_min]; omega) ⟨.bl _, H, I, rfl, q⟩
theorem op_gtK (hu : X.A.units + 1 < cLine) : OpR X (compareOp .Gt) (rK fun x y => ltB y x) := by
  intro pins s σ H x y v u Q I rx ry h
  obtain ⟨hk, q⟩ := h
  obtain ⟨kx, ky⟩ := sk_refl hk
  exact PySem.W.gt_data (reads_dV rx kx) (reads_dV ry ky) (alike_of hk) (dV_ne kx) (by rw [depth_dV kx]; simp only [Nat.zero_min]; omega) ⟨.bl _, H, I, rfl, q⟩
end
/-! ### the least, the greatest of a list -/
def minV (x : V) (xs : List V) : V := xs.foldl (fun a y => if ltB y a = true then y else a) x
def maxV (x : V) (xs : List V) : V := xs.foldl (fun a y => if ltB a y = true then y else a) x
theorem minD_dV (x : V) : ∀ xs : List V, PySem.W.minD (dV x) (xs.map dV) = dV (minV x xs) := by
  intro xs
  induction xs generalizing x with
  | nil => rfl
  | cons y r ih =>
    show PySem.W.minD (if PySem.W.dataLt (dV y) (dV x) = true then dV y else dV x) (r.map dV) = dV (minV (if ltB y x = true then y else x) r)
    rw [← ih]
    by_cases h : ltB y x = true
    · rw [if_pos h, if_pos (show PySem.W.dataLt (dV y) (dV x) = true from h)]
    · rw [if_neg h, if_neg (show ¬ PySem.W.dataLt (dV y) (dV x) = true from h)]
theorem maxD_dV (x : V) : ∀ xs : List V, PySem.W.maxD (dV x) (xs.map dV) = dV (maxV x xs) := by
  intro xs
  induction xs generalizing x with
  | nil => rfl
  | cons y r ih =>
    show PySem.W.maxD (if PySem.W.dataLt (dV x) (dV y) = true then dV y else dV x) (r.map dV) = dV (maxV (if ltB x y = true then y else x) r)
    rw [← ih]
    by_cases h : ltB x y = true
    · rw [if_pos h, if_pos (show PySem.W.dataLt (dV x) (dV y) = true from h)]
    · rw [if_neg h, if_neg (show ¬ PySem.W.dataLt (dV x) (dV y) = true from h)]
theorem minV_mem (x : V) : ∀ xs : List V, minV x xs ∈ x :: xs := by
  intro xs
  induction xs generalizing x with
  | nil => exact List.mem_cons_self
  | cons y r ih =>
    have q : minV x (y :: r) = minV (if ltB y x = true then y else x) r := rfl
    rw [q]
    have h := ih (if ltB y x = true then y else x)
    rcases List.mem_cons.mp h with e | e
    · rw [e]
      by_cases hc : ltB y x = true
      · rw [if_pos hc]; exact List.mem_cons_of_mem _ List.mem_cons_self
      · rw [if_neg hc]; exact List.mem_cons_self
    · exact List.mem_cons_of_mem _ (List.mem_cons_of_mem _ e)
theorem maxV_mem (x : V) : ∀ xs : List V, maxV x xs ∈ x :: xs := by
  intro xs
  induction xs generalizing x with
  | nil => exact List.mem_cons_self
  | cons y r ih =>
    have q : maxV x (y :: r) = maxV (if ltB x y = true then y else x) r := rfl
    rw [q]
    have h := ih (if ltB x y = true then y else x)
    rcases List.mem_cons.mp h with e | e
    · rw [e]
      by_cases hc : ltB x y = true
      · rw [if_pos hc]; exact List.mem_cons_of_mem _ List.mem_cons_self
      · rw [if_neg hc]; exact List.mem_cons_self
    · exact List.mem_cons_of_mem _ (List.mem_cons_of_mem _ e)
/-! the order is total on a kind -/
theorem list_lt_irrefl (a : List Nat) : ¬ a < a := List.lt_irrefl a
theorem ltB_irrefl (x : V) (h : sk x x = true) : ltB x x = false := by
  cases x with
  | bl b => rw [ltB_bl]; exact decide_eq_false (by omega)
  | int i => rw [ltB_int]; exact decide_eq_false (by omega)
  | str z => rw [ltB_str]; exact decide_eq_false (List.lt_irrefl _)
  | _ => cases h
theorem leB_trans {x y z : V} (h1 : sk x y = true) (h2 : sk y z = true) (a : leB x y = true) (b : leB y z = true) : leB x z = true := by
  unfold leB at *
  cases x with
  | bl p =>
    cases y with
    | bl q =>
      cases z with
      | bl r =>
        rw [ltB_bl] at *
        simp only [Bool.not_eq_true', decide_eq_false_iff_not] at *
        omega
      | _ => cases h2
    | _ => cases h1
  | int p =>
    cases y with
    | int q =>
      cases z with
      | int r =>
        rw [ltB_int] at *
        simp only [Bool.not_eq_true', decide_eq_false_iff_not] at *
        omega
      | _ => cases h2
    | _ => cases h1
  | str p =>
    cases y with
    | str q =>
      cases z with
      | str r =>
        rw [ltB_str] at *
        simp only [Bool.not_eq_true', decide_eq_false_iff_not] at *
        exact List.not_lt.mpr (List.le_trans (List.not_lt.mp a) (List.not_lt.mp b))
      | _ => cases h2
    | _ => cases h1
  | _ => cases h1
theorem leB_of_lt {x y : V} (h : sk x y = true) (a : ltB x y = true) : leB x y = true := by
  unfold leB
  cases x with
  | bl p =>
    cases y with
    | bl q =>
      rw [ltB_bl] at *
      simp only [Bool.not_eq_true', decide_eq_false_iff_not, decide_eq_true_eq] at *
      omega
    | _ => cases h
  | int p =>
    cases y with
    | int q =>
      rw [ltB_int] at *
      simp only [Bool.not_eq_true', decide_eq_false_iff_not, decide_eq_true_eq] at *
      omega
    | _ => cases h
  | str p =>
    cases y with
    | str q =>
      rw [ltB_str] at *
      simp only [Bool.not_eq_true', decide_eq_false_iff_not, decide_eq_true_eq] at *
      exact List.not_lt.mpr (List.le_of_lt a)
    | _ => cases h
  | _ => cases h
theorem leB_total {x y : V} (h : sk x y = true) : leB x y = true ∨ leB y x = true := by
  cases e : ltB y x with
  | false => exact .inl (by unfold leB; rw [e]; rfl)
  | true => exact .inr (leB_of_lt (sk_comm h) e)
theorem leB_refl {x : V} (h : sk x x = true) : leB x x = true := by
  unfold leB; rw [ltB_irrefl x h]; rfl
theorem leB_antisymm {x y : V} (h : sk x y = true) (a : leB x y = true) (b : leB y x = true) : x = y := by
  unfold leB at *
  cases x with
  | bl p =>
    cases y with
    | bl q =>
      rw [ltB_bl] at *
      simp only [Bool.not_eq_true', decide_eq_false_iff_not] at *
      cases p <;> cases q <;> first | rfl | (simp [b2i] at a b)
    | _ => cases h
  | int p =>
    cases y with
    | int q =>
      rw [ltB_int] at *
      simp only [Bool.not_eq_true', decide_eq_false_iff_not] at *
      exact congrArg V.int (by omega)
    | _ => cases h
  | str p =>
    cases y with
    | str q =>
      rw [ltB_str] at *
      simp only [Bool.not_eq_true', decide_eq_false_iff_not] at *
      have e := List.le_antisymm (List.not_lt.mp a) (List.not_lt.mp b)
      obtain ⟨⟨p⟩⟩ := p
      obtain ⟨⟨q⟩⟩ := q
      cases e
      rfl
    | _ => cases h
  | _ => cases h
/-- a list of one kind -/
def SkAll (xs : List V) : Prop := ∀ x ∈ xs, ∀ y ∈ xs, sk x y = true
theorem minV_le (x : V) : ∀ xs : List V, SkAll (x :: xs) → ∀ y ∈ x :: xs, leB (minV x xs) y = true := by
  intro xs
  induction xs generalizing x with
  | nil =>
    intro hs y hy
    rw [List.mem_singleton.mp hy]
    exact leB_refl (hs x List.mem_cons_self x List.mem_cons_self)
  | cons z r ih =>
    intro hs y hy
    have q : minV x (z :: r) = minV (if ltB z x = true then z else x) r := rfl
    rw [q]
    have hx := hs x List.mem_cons_self
    have hz : z ∈ x :: z :: r := List.mem_cons_of_mem _ List.mem_cons_self
    by_cases hc : ltB z x = true
    · rw [if_pos hc]
      have hs2 : SkAll (z :: r) := fun a ha b hb => hs a (List.mem_cons_of_mem _ ha) b (List.mem_cons_of_mem _ hb)
      rcases List.mem_cons.mp hy with e | e
      · subst e
        have m := minV_mem z r
        exact leB_trans (hs _ (List.mem_cons_of_mem _ m) _ hz) (hs _ hz _ List.mem_cons_self) (ih z hs2 z List.mem_cons_self) (leB_of_lt (hs _ hz _ List.mem_cons_self) hc)
      · exact ih z hs2 y e
    · rw [if_neg hc]
      have hs2 : SkAll (x :: r) := fun a ha b hb => by
        have up : ∀ {a}, a ∈ x :: r → a ∈ x :: z :: r := fun h => by
          rcases List.mem_cons.mp h with h | h
          · rw [h]; exact List.mem_cons_self
          · exact List.mem_cons_of_mem _ (List.mem_cons_of_mem _ h)
        exact hs a (up ha) b (up hb)
      rcases List.mem_cons.mp hy with e | e
      · subst e; exact ih y hs2 y List.mem_cons_self
      · rcases List.mem_cons.mp e with e | e
        · subst e
          have m := minV_mem x r
          have mm : minV x r ∈ x :: y :: r := by
            rcases List.mem_cons.mp m with h | h
            · rw [h]; exact List.mem_cons_self
            · exact List.mem_cons_of_mem _ (List.mem_cons_of_mem _ h)
          refine leB_trans (hs _ mm _ List.mem_cons_self) (hx _ hz) (ih x hs2 x List.mem_cons_self) ?_
          unfold leB
          rw [Bool.not_eq_true] at hc
          rw [hc]; rfl
        · exact ih x hs2 y (List.mem_cons_of_mem _ e)
theorem maxV_le (x : V) : ∀ xs : List V, SkAll (x :: xs) → ∀ y ∈ x :: xs, leB y (maxV x xs) = true := by
  intro xs
  induction xs generalizing x with
  | nil =>
    intro hs y hy
    rw [List.mem_singleton.mp hy]
    exact leB_refl (hs x List.mem_cons_self x List.mem_cons_self)
  | cons z r ih =>
    intro hs y hy
    have q : maxV x (z :: r) = maxV (if ltB x z = true then z else x) r := rfl
    rw [q]
    have hx := hs x List.mem_cons_self
    have hz : z ∈ x :: z :: r := List.mem_cons_of_mem _ List.mem_cons_self
    by_cases hc : ltB x z = true
    · rw [if_pos hc]
      have hs2 : SkAll (z :: r) := fun a ha b hb => hs a (List.mem_cons_of_mem _ ha) b (List.mem_cons_of_mem _ hb)
      rcases List.mem_cons.mp hy with e | e
      · subst e
        have m := maxV_mem z r
        exact leB_trans (hs _ List.mem_cons_self _ hz) (hs _ hz _ (List.mem_cons_of_mem _ m)) (leB_of_lt (hs _ List.mem_cons_self _ hz) hc) (ih z hs2 z List.mem_cons_self)
      · exact ih z hs2 y e
    · rw [if_neg hc]
      have up : ∀ {a}, a ∈ x :: r → a ∈ x :: z :: r := fun h => by
        rcases List.mem_cons.mp h with h | h
        · rw [h]; exact List.mem_cons_self
        · exact List.mem_cons_of_mem _ (List.mem_cons_of_mem _ h)
      have hs2 : SkAll (x :: r) := fun a ha b hb => hs a (up ha) b (up hb)
      rcases List.mem_cons.mp hy with e | e
      · subst e; exact ih y hs2 y List.mem_cons_self
      · rcases List.mem_cons.mp e with e | e
        · subst e
          have mm : maxV x r ∈ x :: y :: r := up (maxV_mem x r)
          refine leB_trans (hs _ hz _ List.mem_cons_self) (hx _ mm) ?_ (ih x hs2 x List.mem_cons_self)
          unfold leB
          rw [Bool.not_eq_true] at hc
          rw [hc]; rfl
        · exact ih x hs2 y (List.mem_cons_of_mem _ e)
theorem vals_reads {h : Heap} : ∀ {xs : List V} {us : List Value}, Vals xs us → (∀ x ∈ xs, sk x x = true) → ReadsAll h us (xs.map dV) []
  | [], _, .nil, _ => .nil
  | x :: xs, _, .cons r t, hs => .cons (as := []) (bs := []) (reads_dV r (hs x List.mem_cons_self)) (vals_reads t fun y hy => hs y (List.mem_cons_of_mem _ hy))
theorem alikeAll_dV {xs : List V} (h : SkAll xs) : PySem.W.AlikeAll (xs.map dV) := by
  refine ⟨fun a ha b hb => ?_, fun a ha => ?_⟩
  · obtain ⟨x, hx, rfl⟩ := List.mem_map.mp ha
    obtain ⟨y, hy, rfl⟩ := List.mem_map.mp hb
    exact alike_of (h x hx y hy)
  · obtain ⟨x, hx, rfl⟩ := List.mem_map.mp ha
    exact dV_ne (h x hx x hx)
theorem depthAll_dV : ∀ {xs : List V}, (∀ x ∈ xs, sk x x = true) → PyData.depthAll (xs.map dV) = 0
  | [], _ => by rw [List.map_nil, PyData.depthAll]
  | x :: xs, h => by
    rw [List.map_cons, PyData.depthAll, depth_dV (h x List.mem_cons_self), depthAll_dV fun y hy => h y (List.mem_cons_of_mem _ hy)]
    rfl
def rMinK (K : PySem.W.Frag) : List V → Hp → VK → Prop := fun vs H Q => ∃ (a : Addr) (x : V) (xs : List V), vs = [V.ref a] ∧ SqL K H a (x :: xs) ∧ SkAll (x :: xs) ∧ Q (minV x xs) H
def rMaxK (K : PySem.W.Frag) : List V → Hp → VK → Prop := fun vs H Q => ∃ (a : Addr) (x : V) (xs : List V), vs = [V.ref a] ∧ SqL K H a (x :: xs) ∧ SkAll (x :: xs) ∧ Q (maxV x xs) H
section
variable {X : Cx}
theorem ref_one {a : Addr} {us : List Value} (r : Vals [V.ref a] us) : us = [.ref a] := by
  obtain ⟨u, e, q⟩ := vals1 r
  have q' : u = Value.ref a := q
  rw [e, q']
theorem cr_minK (hc : X.calm = true) (hu : X.A.units + 1 < cLine) : CallR X (.builtin "min") (rMinK X.K) := by
  intro pins s σ H vs us Q I r h
  obtain ⟨a, x, xs, rfl, hs, hk, q⟩ := h
  obtain ⟨its, rv, hl, _⟩ := I.list hs
  rw [ref_one r]
  have hself : ∀ y ∈ x :: xs, sk y y = true := fun y hy => hk y hy y hy
  refine PySem.W.min_list_data (x := dV x) (xs := xs.map dV) (as := []) (I.ok.hd hc) hl.isList (by simpa using vals_reads rv hself) (alikeAll_dV hk) (by rw [show dV x :: xs.map dV = (x :: xs).map dV from rfl, depthAll_dV hself]; omega) fun i v h' tk bs hv hr hkeep => ?_
  have hv2 : its[i]? = some v := by simpa using hv
  have hlen := rv.length
  have hi : i < (x :: xs).length := by rw [hlen]; exact (List.getElem?_eq_some_iff.mp hv2).1
  obtain ⟨u, hu1, hu2⟩ := rv.get (List.getElem?_eq_getElem hi)
  rw [hv2] at hu1
  cases hu1
  rw [minD_dV] at hr
  have hm := hself _ (minV_mem x xs)
  have e := reads_inj hu2 (hself _ (List.getElem_mem hi)) hm hr
  exact ⟨minV x xs, H, I.kept (t' := tk) hkeep, by rw [e]; exact hu2, q⟩
theorem cr_maxK (hc : X.calm = true) (hu : X.A.units + 1 < cLine) : CallR X (.builtin "max") (rMaxK X.K) := by
  intro pins s σ H vs us Q I r h
  obtain ⟨a, x, xs, rfl, hs, hk, q⟩ := h
  obtain ⟨its, rv, hl, _⟩ := I.list hs
  rw [ref_one r]
  have hself : ∀ y ∈ x :: xs, sk y y = true := fun y hy => hk y hy y hy
  refine PySem.W.max_list_data (x := dV x) (xs := xs.map dV) (as := []) (I.ok.hd hc) hl.isList (by simpa using vals_reads rv hself) (alikeAll_dV hk) (by rw [show dV x :: xs.map dV = (x :: xs).map dV from rfl, depthAll_dV hself]; omega) fun i v h' tk bs hv hr hkeep => ?_
  have hv2 : its[i]? = some v := by simpa using hv
  have hlen := rv.length
  have hi : i < (x :: xs).length := by rw [hlen]; exact (List.getElem?_eq_some_iff.mp hv2).1
  obtain ⟨u, hu1, hu2⟩ := rv.get (List.getElem?_eq_getElem hi)
  rw [hv2] at hu1
  cases hu1
  rw [maxD_dV] at hr
  have hm := hself _ (maxV_mem x xs)
  have e := reads_inj hu2 (hself _ (List.getElem_mem hi)) hm hr
  exact ⟨maxV x xs, H, I.kept (t' := tk) hkeep, by rw [e]; exact hu2, q⟩
/-! ### great quotients -/
def CDivB (_ j : Int) : Prop := j ≠ 0 ∧ j.natAbs < 2 ^ 200
theorem op_fdivB : OpR X (binaryOp .FloorDiv) (rI CDivB fun i j => .int (i.fdiv j)) := opI fun i j _ _ _ _ _ hc q =>
  floordiv_int hc.1 q (.inl (PyProof.noPylong_of_log2 (Nat.lt_of_lt_of_le (PySem.Flt.log2_lt_of (by decide) hc.2) (by decide))))
/-! ### a text repeated -/
def rRepS : R2 := fun x y H Q => ∃ (z : Str) (n : Int), x = .str z ∧ y = .int n ∧ z.length ≤ 1000 ∧ 2 ≤ n ∧ n ≤ 1000 ∧ Q (.str (Txt.mul z n)) H
theorem op_repS : OpR X (binaryOp .Mult) rRepS := by
  intro pins s σ H x y v u Q I rx ry h
  obtain ⟨z, n, rfl, rfl, hz, h2, hn, q⟩ := h
  obtain ⟨t, rfl⟩ := rx
  obtain ⟨t', rfl⟩ := ry
  refine PySem.SB.mul ⟨?_, fun _ _ => ?_, fun _ _ => ?_⟩ fun t2 k => ⟨.str _, H, I.tok _, ⟨_, rfl⟩, q⟩
  · rw [decide_eq_false (by omega), decide_eq_false (by omega)]; rfl
  · have e : (1000 : Int) ≤ (2 ^ 63 - 1) / n := (Int.le_ediv_iff_mul_le (by omega)).mpr (by omega)
    omega
  · have e : z.length * n.toNat ≤ 1000 * 1000 := Nat.mul_le_mul hz (by omega)
    show decide _ = false
    exact decide_eq_false (by rw [sizeLine_eq]; omega)
end
end Ms
/-! more rules: a chain of three comparisons, x is True, the values of a dict with tuple keys -/
namespace Ms
open PySem PySem.Spec PyProof.Rows L2
/-! ### a == b == c == d as a test -/
def tCh3 (r : R2) (ta tb tc td : TE) : TT := fun σ H Q => ta σ H fun x H1 => tb σ H1 fun y H2 => r x y H2 fun z H3 => ∃ k, z = .bl k ∧
  (if k = true then (tc σ H3 fun x2 H4 => r y x2 H4 fun z2 H5 => ∃ k2, z2 = .bl k2 ∧
    (if k2 = true then (td σ H5 fun x3 H6 => r x2 x3 H6 fun z3 H7 => ∃ k3, z3 = .bl k3 ∧ Q k3 H7) else Q false H5)) else Q false H3)
section
variable {X : Cx}
theorem pt_ch3 {op : CmpOp} {r : R2} {a b c d : Expr} {ta tb tc td : TE} {pos : Pos} (ho : OpR X (compareOp op) r) (ha : PE X a ta) (hb : PE X b tb) (hc : PE X c tc) (hd : PE X d td)
    (hm : lastMarks [op, op, op] [b, c, d] = false := by with_unfolding_all rfl) : PT X (.Compare a [op, op, op] [b, c, d] pos) (tCh3 r ta tb tc td) := by
  refine ⟨fun pins s σ H Q I h => ?_⟩
  refine isTrue_chain (thn (ha.run pins s σ H _ I h) fun va s1 z1 => test_link ?_) hm
  obtain ⟨x, H1, I1, r1, q1⟩ := z1
  refine thn (hb.run pins s1 σ H1 _ I1 q1) fun vb s2 z2 => ?_
  obtain ⟨y, H2, I2, r2, q2⟩ := z2
  refine thn (ho pins s2 σ H2 x y va vb _ I2 r1 r2 q2) fun vd s3 z3 => ?_
  obtain ⟨t1, H3, I3, r3, k, e, q3⟩ := z3
  subst e
  cases r3
  refine wpAny_truthy_bool ?_
  cases k with
  | false => exact ite_ff ⟨H3, I3, q3⟩
  | true =>
    refine ite_tt (test_link ?_)
    refine thn (hc.run pins s3 σ H3 _ I3 q3) fun vc s4 z4 => ?_
    obtain ⟨x2, H4, I4, r4, q4⟩ := z4
    refine thn (ho pins s4 σ H4 y x2 vb vc _ I4 r2 r4 q4) fun ve s5 z5 => ?_
    obtain ⟨t2, H5, I5, r5, k2, e2, q5⟩ := z5
    subst e2
    cases r5
    refine wpAny_truthy_bool ?_
    cases k2 with
    | false => exact ite_ff ⟨H5, I5, q5⟩
    | true =>
      refine ite_tt (test_last ?_)
      refine thn (hd.run pins s5 σ H5 _ I5 q5) fun vx s6 z6 => ?_
      obtain ⟨x3, H6, I6, r6, q6⟩ := z6
      refine thn (ho pins s6 σ H6 x2 x3 vc vx _ I6 r4 r6 q6) fun vz s7 z7 => ?_
      obtain ⟨t3, H7, I7, r7, k3, e3, q7⟩ := z7
      subst e3
      cases r7
      exact wpAny_truthy_bool ⟨H7, I7, q7⟩
/-! ### x is True, x a truth value or None -/
def rIsO : R2 := fun x y H Q => ∃ b : Bool, y = .bl b ∧ ((x = .non ∧ Q (.bl false) H) ∨ ∃ a : Bool, x = .bl a ∧ Q (.bl (decide (a = b))) H)
theorem op_isO : OpR X (compareOp .Is) rIsO := by
  intro pins s σ H x y v u Q I rx ry h
  obtain ⟨b, rfl, h⟩ := h
  rcases h with ⟨rfl, q⟩ | ⟨a, rfl, q⟩
  · cases (show v = Value.none from rx)
    cases (show u = Value.bool b from ry)
    exact wpAny_is_other rfl (fun z => by cases z) ⟨.bl false, H, I, rfl, q⟩
  · exact op_isBl pins s σ H _ _ v u Q I rx ry ⟨a, b, rfl, rfl, q⟩
/-! ### for v in d.values(), d a locked dict of tuple keys -/
theorem frzV {pins : List (Addr × Obj)} {σ : L2.St} {H : Hp} {s : Shared} {d : Addr} {o : Obj} {kvs : List (List Key × V)} (I : Inv X pins σ H s) (h : H d = some (.frz o (.dT kvs))) :
    (d == sysModules) = false ∧ s.heap.get? d = some o ∧ o.ExactDict ∧ ∃ (es : Array DictEntry) (ep : Nat), o.data = .dict es ep ∧ es.size = kvs.length ∧
      ∀ (i : Nat) (k : List Key) (v : V), kvs[i]? = some (k, v) → ∃ en : DictEntry, es[i]? = some en ∧ RelV v en.val := by
  obtain ⟨hd, hz, hs, xs, pr, o2, es, ep, ho, hx, hdt, he, hnd⟩ := I.hok d _ h
  rw [hd] at ho
  cases ho
  refine ⟨hs, hd, hx, es, ep, hdt, ?_, fun i k v e => ?_⟩
  · have a1 : es.size = xs.length := size_of_entries he
    have a2 : kvs.length = xs.length := Paired.length pr
    omega
  · obtain ⟨b, hb, e1, e2, e3⟩ := paired_get pr e
    have q := entry_at he i
    rw [hb] at q
    exact ⟨_, q, e3⟩
def ItdT (d : Addr) (o : Obj) (kvs : List (List Key × V)) : It :=
  ⟨fun i H => H d = some (.frz o (.dT kvs)) ∧ i < kvs.length, fun i H x H' => H' = H ∧ ∃ k, kvs[i]? = some (k, x), fun i H => H d = some (.frz o (.dT kvs)) ∧ kvs.length ≤ i⟩
theorem turn_valsT {P : Program} {w : World} {K : PySem.W.Frag} {tg : Expr} {d : Addr} {o : Obj} {es : Array DictEntry} {ep : Nat} {kvs : List (List Key × V)} (it : Addr) (hod : o.data = .dict es ep) :
    Turn P w K tg (ItdT d o kvs) [it] it (fun i h => h.IsValIter it d i kvs.length ep) where
  mem := List.mem_singleton.mpr rfl
  obj := fun i h st b hb => by
    obtain rfl : b = it := List.mem_singleton.mp hb
    obtain ⟨oi, e1, e2, e3⟩ := st
    exact ⟨oi, e1, fun v z => by rw [e3] at z; cases z⟩
  keep := fun i h h' st k => by
    obtain ⟨oi, e1, e2⟩ := st
    exact ⟨oi, k it (List.mem_singleton.mpr rfl) oi e1, e2⟩
  item := by
    intro X hP hw hK hc i pins s σ H E I hf st hg
    subst hP hw hK
    obtain ⟨hd, hi⟩ := hg
    obtain ⟨a0, a1, a2, a3, a4, a5⟩ := hf it (List.mem_singleton.mpr rfl)
    obtain ⟨hs, hgd, hx, es2, ep2, hdt, hsz, ent⟩ := frzV I hd
    obtain ⟨rfl, rfl⟩ := dict_ep hod hdt
    obtain ⟨⟨k, v⟩, hkv⟩ : ∃ p, kvs[i]? = some p := ⟨kvs[i], List.getElem?_eq_getElem hi⟩
    obtain ⟨en, hen, rv⟩ := ent i k v hkv
    have hlt : i < es2.size := by rw [hsz]; exact hi
    rw [← hsz] at st
    refine wpAny_pyNext_values_item_raw st ⟨o, hgd, hx, hdt⟩ hlt fun h' st2 sb => ?_
    have e4 : es2[i] = en := by rw [Array.getElem?_eq_getElem hlt] at hen; exact Option.some.inj hen
    have I1 : Inv X pins σ H { s with heap := h' } := I.turned (t' := s.toks) (fun b ob hb e => (sb.2 b hb).trans e) a0 a1 a3 a4 a5
    obtain ⟨oi, e1, e2, e3⟩ := id st2
    refine ⟨es2[i].val, rfl, go_of (s := { s with heap := h' }) e1 e2 e3 (by decide) ⟨v, H, I1, by rw [e4]; exact rv, ⟨rfl, k, hkv⟩, ?_, fun b hb => (hf b hb).1⟩⟩
    show h'.IsValIter it d (i + 1) kvs.length _
    rw [← hsz]
    exact st2
  done := by
    intro X hP hw hK hc i pins s σ H E I hf st hg
    subst hP hw hK
    obtain ⟨hd, hi⟩ := hg
    obtain ⟨a0, a1, a2, a3, a4, a5⟩ := hf it (List.mem_singleton.mpr rfl)
    obtain ⟨hs, hgd, hx, es2, ep2, hdt, hsz, ent⟩ := frzV I hd
    obtain ⟨rfl, rfl⟩ := dict_ep hod hdt
    rw [← hsz] at st hi
    exact wpAny_pyNext_values_end_raw (I.ok.hd hc) st ⟨o, hgd, hx, hdt⟩ hi fun h' eb => ⟨rfl, I.turned (t' := s.toks) (fun b ob hb e => eb b ob hb e) a0 a1 a3 a4 a5⟩
  self := fun A i s Q E st h => wpAny_pyIter_valiter st h
def iValsT (td : TE) : TI := fun σ H R => td σ H fun x H1 => ∃ d o kvs, x = .ref d ∧ H1 d = some (.frz o (.dT kvs)) ∧ R (ItdT d o kvs) H1
theorem pi_valuesT {tg e : Expr} {td : TE} {apos cpos : Pos} (he : PE X e td) (hbase : attributeBase e "values" X.env (eval e X.env) = eval e X.env := by rfl) (hline : (apos.endLine == cpos.line) = true := by rfl) :
    PI X tg (.Call (.Attribute e "values" apos) [] [] cpos) (iValsT td) := by
  refine ⟨fun pins s σ H R I h => ?_⟩
  refine wpAny_Call_method (T := "dict") (id := "dict.values") hbase rfl hline F.plainAttrs_dict F.slot_dict_values F.type_dict_values (thn (he.run pins s σ H _ I h) fun u s1 z => ?_)
  obtain ⟨x, H1, I1, rx, d, o, kvs, ex, hd, q⟩ := z
  subst ex
  obtain rfl : u = Value.ref d := rx
  obtain ⟨hs, hgd, hx, es, ep, hdt, hsz, ent⟩ := frzV I1 hd
  have raw : s1.heap.DictRaw d es ep := ⟨o, hgd, hx, hdt⟩
  refine ⟨raw.typeIs, fun b hb => ?_, ?_⟩
  · cases hb
    exact ⟨o, hgd, hx.2.1⟩
  have I2 : Inv X pins σ H1 { s1 with heap := s1.heap.push { cls := .type "dict_values", data := .fields #[.ref d] } } := I1.kept (t' := s1.toks) fun b ob q => Heap.get?_push_of_some _ q
  have fin : wpAny (model X.prog X.w) X.A (pyIter (.ref s1.heap.objs.size)) (PIE X pins σ tg R) X.xe { s1 with heap := s1.heap.push { cls := .type "dict_values", data := .fields #[.ref d] } } := by
    refine wpAny_pyIter_values_raw (d := d) ⟨_, Heap.get?_push_size _ rfl, rfl, rfl⟩ (raw.at fun ob q => Heap.get?_push_of_some _ q) (pi_one (tk := s1.toks) I2 _ (turn_valsT _ hdt) ⟨_, Heap.get?_push_size _ rfl, rfl, ?_⟩ q)
    rw [hsz] <;> rfl
  show wpAny _ _ (callWith cpos (.builtin "dict.values") [.ref d] [] []) _ X.xe s1
  exact method_meetsIn F.slot_dict_values F.entry_dict_values rfl (PySem.evalArgs_none ⟨rfl, raw.typeIs, F.args_dict_values_1 _, _, meets_dict_values_raw d hs, ⟨⟨es, ep, raw⟩, fin⟩⟩)
theorem walk_valuesT {d : Addr} {o : Obj} {kvs : List (List Key × V)} : Walk (ItdT d o kvs) kvs.length (fun H => H d = some (.frz o (.dT kvs))) (fun i H x H' => H' = H ∧ ∃ k, kvs[i]? = some (k, x)) :=
  ⟨fun i H g h => ⟨h, g⟩, fun H h => ⟨h, Nat.le_refl _⟩, fun i H x H' g h z => z⟩
end
end Ms
/-! any(..), all(..) of a generator expression over a list of values; behind it the def's table may have grown -/
namespace Ms
open PySem PySem.Spec PyProof.Rows L2
section
variable {X : Cx} {pins : List (Addr × Obj)} {σ : L2.St} {H : Hp} {s : Shared}
/-- what the element asks: at each item x of xs it gives the test's answer -/
def GEl (X : Cx) (σ : L2.St) (scope : Scope) (nm : Str) (elt : Expr) (P : Addr) (xs : List V) (pb : Nat → Bool) (H1 : Hp) : Prop :=
  ∀ (pins : List (Addr × Obj)) (s1 : Shared), Inv X pins σ H1 s1 → ∀ (cenv : Env) (A' : Around) (E' : Value → Shared → Prop) (j : Nat) (x : V) (v : Value) (s2 : Shared) (m2 : Str → Option Value), xs[j]? = some x → RelV x v →
    cenv.scope = scope → cenv.cells = cloFrom X.env.cells scope.names [] → cenv.globals = mainGlobals → A'.handled = none → s2.heap.Ns cenv.locals m2 → m2 nm = some v →
    (∀ b o, b ≠ P → s1.heap.get? b = some o → s2.heap.get? b = some o) →
    wpAny (model X.prog X.w) A' (eval elt cenv) (fun y s3 => y = .bool (pb j) ∧ Keeps s2 s3) E' s2
/-- the generator g, ready to be walked -/
def RdyL (X : Cx) (pins : List (Addr × Obj)) (σ : L2.St) (H1 : Hp) (P : Addr) (xs : List V) (pb : Nat → Bool) (g : Addr) (s5 : Shared) : Prop :=
  ∃ (fp wr : List Addr) (G : Array GenState → Array GenState → Prop) (F : Nat → Value → Prop) (T : Nat → Shared → Prop),
    WalksS X.prog X.w X.A.in1 g fp wr G xs.length F T ∧ T 0 s5 ∧
    TruthOf X.prog X.w X.A.in1 F pb ∧
    ∀ s', Moved wr G s5 s' → ∃ H2, GxR.Tabbed P H1 H2 ∧ Inv X pins σ H2 s'
theorem gen_list {c P : Addr} {elt iter : Expr} {x : Str} {px gpos : Pos} {scope : Scope} {pb : Nat → Bool} {te : TE} {k : Nat} {Q' : Value → Shared → Prop} {R : List V → Hp → Prop}
    (hr : Room k X.A) (TB : GxR.TabB X.base X.mg c P) (hcode : X.env.code = .ref c) (S : GxR.GenS X.env scope x) (hi : PE X iter te)
    (hs : ∀ v, genFold iter X.env v = pure v) (I : Inv X pins σ H s)
    (h : te σ H fun v H1 => ∃ a xs, v = .ref a ∧ SqL X.K H1 a xs ∧ GxR.TabG H1 P ∧ X.K.lookup P = none ∧ GEl X σ scope x elt P xs pb H1 ∧ R xs H1)
    (hQ : ∀ xs H1 g s5, R xs H1 → RdyL X pins σ H1 P xs pb g s5 → Q' (.ref g) s5) :
    wpAny (model X.prog X.w) X.A (eval (.GeneratorExp elt [⟨.Name x px, iter, [], 0⟩] scope gpos) X.env) Q' X.xe s := by
  refine wpAny_GeneratorExp_walksQ hr.hd S.co (closure_ok S.free) S.cell S.dot S.loc S.kind (by have := hr.dp; omega) ?_ hs
  refine thn (hi.run pins s σ H _ I h) fun xv s1 z => ?_
  obtain ⟨v, H1, I1, r1, l, xs, rfl, hl, ⟨ps, hP, ht⟩, nKP, hel, q1⟩ := z
  obtain rfl : xv = Value.ref l := r1
  obtain ⟨its, rv, pl, hlen⟩ := I1.list hl
  have isL : s1.heap.IsList l its.toArray := pl.isList
  refine wpAny_pyIter_list isL ?_
  have hPs : s1.heap.get? P = some { cls := .none, data := .fields ps } := I1.hok P _ hP
  have hPlt : P < s1.heap.objs.size := Heap.lt_size hPs
  have hlP : l ≠ P := fun z => by
    obtain ⟨o, e1, e2, _⟩ := isL
    rw [z, hPs] at e1
    cases e1
    cases e2
  obtain ⟨ol, eol, _⟩ := id isL
  have hllt : l < s1.heap.objs.size := Heap.lt_size eol
  generalize eo : ({ cls := .type "list_iterator", data := .fields #[.ref l, .int 0 0] } : Obj) = o
  have hP2 : (s1.heap.push o).get? P = some { cls := .none, data := .fields ps } := Heap.get?_push_of_some _ hPs
  have cd : PySem.W.CodeHd (s1.heap.push o) c P := TB.code.keeps fun b u e => Heap.get?_push_of_some _ (I1.bk b u e)
  have lim2 : (s1.heap.push o).NoLimit := I1.nolimit.push o
  have st0 : (s1.heap.push o).IsListIter s1.heap.objs.size l 0 ∧ (s1.heap.push o).IsList l its.toArray := by
    refine ⟨?_, ?_⟩
    · subst eo
      exact ⟨_, Heap.get?_push_size _ rfl, rfl, rfl⟩
    · exact isL.at fun ob e => Heap.get?_push_of_some _ e
  have hne : l ≠ s1.heap.objs.size := Nat.ne_of_lt hllt
  have hszV : its.toArray.size = xs.length := by rw [List.size_toArray]; exact rv.length.symm
  have cont : ∀ (code : Value) (h3 : Heap) (tk : Nat) (ps' : Array Value), Heap.ExtBut P (s1.heap.push o) h3 → (s1.heap.push o).objs.size ≤ h3.objs.size → h3.get? P = some { cls := .none, data := .fields ps' } → (∃ more, ps' = ps ++ more) → TriplesOk ps'.toList →
      wpAny (model X.prog X.w) X.A (builtinsFor X.env.globals X.env.builtins) (fun bi s4 =>
        ∃ Ia fp wr n0 Pf T0 pz F, Value.ref s1.heap.objs.size = .ref Ia ∧ (∀ A' : Around, A'.handled = none → Walks X.prog X.w A' Ia fp wr n0 Pf T0) ∧ T0 0 s4.heap ∧ (∀ b ∈ fp, b < s4.heap.objs.size) ∧ s4.heap.NoLimit ∧ cStatics ∉ wr ∧
          (∀ href : Heap, (∀ b o, s4.heap.get? b = some o → href.get? b = some o) →
            QuietGen X.prog X.w (genEnv scope (cloFrom X.env.cells scope.names []) s4.heap.objs.size code bi X.env) x [] elt (List.range s4.heap.objs.size) wr Pf pz F href) ∧
          (∀ a h5 tk gs, gs.bare = true → s4.heap.objs.size < a → h5.objs.size = a + 1 → (∀ b o, s4.heap.get? b = some o → h5.get? b = some o) →
            WalksS X.prog X.w X.A.in4 a (a :: s4.heap.objs.size :: List.range s4.heap.objs.size) (s4.heap.objs.size :: wr) (GenOnlyQ s4.gens.size) (passing pz n0 0).length
              (fun j y => ∃ i, (passing pz n0 0)[j]? = some i ∧ F i y) (GenAt X.prog X.w X.A.in4 a s4.gens.size s4.heap.objs.size (List.range s4.heap.objs.size) wr pz n0 F) →
            GenAt X.prog X.w X.A.in4 a s4.gens.size s4.heap.objs.size (List.range s4.heap.objs.size) wr pz n0 F 0 { s4 with gens := s4.gens.push gs, toks := tk, heap := h5 } →
            Q' (.ref a) { s4 with gens := s4.gens.push gs, toks := tk, heap := h5 })) X.xe { s1 with heap := h3, toks := tk } := by
    intro code h3 tk ps' hx hsz hP3 hmore ht3
    obtain ⟨bm, ob, b1, b2, b3, b4, b5, b6, b7, b8⟩ := TB.bm
    have hcP : cStatics ≠ P := fun e => by
      obtain ⟨_, hns, _⟩ := I1.nolimit
      obtain ⟨o', es, ep, ho, hd, _⟩ := hns
      rw [e, hPs] at ho
      cases ho
      cases hd
    have hcl : cStatics < s1.heap.objs.size := by
      obtain ⟨_, hns, _⟩ := I1.nolimit
      exact hns.lt
    have sz2 : (s1.heap.push o).objs.size = s1.heap.objs.size + 1 := Heap.size_push ..
    have hge3 : s1.heap.objs.size < h3.objs.size := by
      have z := hsz
      rw [sz2] at z
      exact z
    have keep3 : ∀ b u, b ≠ P → s1.heap.get? b = some u → h3.get? b = some u := fun b u hb e => hx b u hb (Heap.get?_push_of_some _ e)
    refine wpAny_builtinsFor (m := X.mg) (by rw [I1.ok.glob]; exact ((I1.mod.glob.keeps I1.bk).push o).extBut hx TB.gP) b1 b2 (keep3 _ _ b4 (I1.bk _ _ b5)) b6 b7 b8 ?_
    refine ⟨s1.heap.objs.size, [s1.heap.objs.size, l], [s1.heap.objs.size], its.toArray.size, (fun i v => its.toArray[i]? = some v), _, (fun _ => true), (fun i y => y = .bool (pb i)), rfl,
      fun A' hA => Walks.list hA s1.heap.objs.size l hne its.toArray, ?_, ?_, lim2.extBut hx hcP, ?_, ?_, ?_⟩
    · refine ⟨st0.1.at fun ob e => hx _ ob (fun z => ?_) e, st0.2.at fun ob e => hx _ ob hlP e⟩
      exact Nat.ne_of_lt hPlt z.symm
    · intro b hb
      rcases List.mem_cons.mp hb with z | z
      · rw [z]; exact hge3
      · rw [List.mem_singleton.mp z]; exact Nat.lt_trans hllt hge3
    · intro z
      exact Nat.ne_of_lt hcl (List.mem_singleton.mp z)
    · intro href hhref
      refine ⟨fun A' E' i v s2 m2 hA hPv hn hm hk => ?_, fun A' E' i v s2 m2 hA hPv hp hn hm hk => ?_⟩
      · simp only [List.forIn_nil]
        exact wpAny_pure ⟨rfl, GxR.keeps_refl _⟩
      · have hv2 : its[i]? = some v := by simpa using hPv
        have hilt : i < xs.length := by rw [rv.length]; exact (List.getElem?_eq_some_iff.mp hv2).1
        obtain ⟨u, hu1, hu2⟩ := rv.get (List.getElem?_eq_getElem hilt)
        rw [hv2] at hu1
        cases hu1
        refine wpAny_mono (hel pins s1 I1 _ A' E' i xs[i] v s2 m2 (List.getElem?_eq_getElem hilt) hu2 rfl rfl I1.ok.glob hA hn hm fun b u hb e => ?_) (fun y s3 r => ⟨r.1, r.2⟩) fun _ _ e => e
        have blt := Heap.lt_size e
        refine hk b (List.mem_range.mpr ?_) (fun z => ?_) u (hhref b u (keep3 b u hb e))
        · exact Nat.lt_trans blt hge3
        · exact Nat.ne_of_lt blt (List.mem_singleton.mp z)
    · intro g h5 tk5 gs hgb hag hsz5 hk5 W5 hat
      simp only [GxR.passing_true, List.length_range, hszV] at W5
      rw [hszV] at hat
      refine hQ xs H1 g _ q1 ⟨_, _, _, _, _, W5.in4_1, hat, ?_, fun s' hm => ?_⟩
      · intro j y sj Qj Ej hy hQj
        obtain ⟨i, hij, rfl⟩ := hy
        obtain ⟨hj, ej⟩ := List.getElem?_eq_some_iff.mp hij
        rw [List.getElem_range] at ej
        subst ej
        exact wpAny_truthy_bool hQj
      · obtain ⟨more, em⟩ := hmore
        have nwr : ∀ b u, s1.heap.get? b = some u → b ∉ h3.objs.size :: [s1.heap.objs.size] := fun b u e hb => by
          have blt : (b : Nat) < s1.heap.objs.size := Heap.lt_size e
          rcases List.mem_cons.mp hb with z | z
          · rw [z] at blt
            exact Nat.lt_irrefl _ (Nat.lt_trans blt hge3)
          · rw [List.mem_singleton.mp z] at blt
            exact Nat.lt_irrefl _ blt
        have J := GxR.inv_tab (more := more) (h' := s'.heap) (g' := s'.gens) (d' := s'.drawn) (t' := s'.toks) I1 hP (fun b u hb e => hm.heap b u (nwr b u e) (hk5 b u (keep3 b u hb e)))
          (by rw [← em]; exact hm.heap P _ (nwr P _ hPs) (hk5 P _ hP3)) (AllBare.movedS (I1.bare.push hgb) hm)
        rw [GxR.sh_eta s1 s' hm.os] at J
        refine ⟨upd H1 P (.tbl (ps ++ more)), ⟨⟨ps ++ more, upd_same, by rw [← em]; exact ht3⟩, fun b hb => upd_ne hb⟩, J⟩
  refine ⟨lim2, ?_⟩
  cases hf : codeAmong gpos ps.toList with
  | none =>
    refine wpAny_genexprCodeX hcode (cd.code hP2 ht) (cd.tab hP2) hf fun c' h' tk hx hge hlt hco' _ htab' _ => ?_
    obtain ⟨o1, vs, f1, tf, fl, tg, inF, tx, tt, op, _, _, _, _, _, _, _, _, _, htr, _⟩ := hco'
    exact cont _ h' tk _ hx (Nat.le_trans hge (Nat.le_of_lt hlt)) htab'.2 ⟨_, rfl⟩ htr
  | some cv =>
    refine wpAny_genexprCode_hit hcode (cd.code hP2 ht) hf ?_
    exact cont cv (s1.heap.push o) s1.toks ps (Heap.ExtBut.refl _ _) (Nat.le_refl _) hP2 ⟨#[], by simp⟩ ht
def tAnyL (X : Cx) (scope : Scope) (nm : Str) (elt : Expr) (P : Addr) (pb : Nat → Bool) (te : TE) : TE := fun σ H Q => te σ H fun v H1 => ∃ a xs, v = .ref a ∧ SqL X.K H1 a xs ∧ GxR.TabG H1 P ∧ X.K.lookup P = none ∧
  GEl X σ scope nm elt P xs pb H1 ∧ ∀ H2, GxR.Tabbed P H1 H2 → Q (.bl ((List.range xs.length).any pb)) H2
def tAllL (X : Cx) (scope : Scope) (nm : Str) (elt : Expr) (P : Addr) (pb : Nat → Bool) (te : TE) : TE := fun σ H Q => te σ H fun v H1 => ∃ a xs, v = .ref a ∧ SqL X.K H1 a xs ∧ GxR.TabG H1 P ∧ X.K.lookup P = none ∧
  GEl X σ scope nm elt P xs pb H1 ∧ ∀ H2, GxR.Tabbed P H1 H2 → Q (.bl ((List.range xs.length).all pb)) H2
theorem pe_anyL {c P : Addr} {elt iter : Expr} {x : Str} {px p pos gpos : Pos} {scope : Scope} {pb : Nat → Bool} {te : TE} {k : Nat}
    (hr : Room k X.A) (hg : Gl X "any") (hm : X.mg "any" = none) (TB : GxR.TabB X.base X.mg c P) (hcode : X.env.code = .ref c) (S : GxR.GenS X.env scope x) (hi : PE X iter te)
    (hs : ∀ v, genFold iter X.env v = pure v)
    (he : starEach [.GeneratorExp elt [⟨.Name x px, iter, [], 0⟩] scope gpos] X.env = (false, eval (.GeneratorExp elt [⟨.Name x px, iter, [], 0⟩] scope gpos) X.env) :: starEach [] X.env := by rfl) :
    PE X (.Call (.Name "any" p) [.GeneratorExp elt [⟨.Name x px, iter, [], 0⟩] scope gpos] [] pos) (tAnyL X scope x elt P pb te) := by
  refine ⟨fun pins s σ H Q I h => ?_⟩
  refine wpAny_Call_Name_kw (ld_blt I hg hm boot_any ?_)
  refine PyProof.Rows.callWith_builtin1 ?_ he (by rfl)
  rw [he]
  show wpAny _ _ (spliced ((false, eval (.GeneratorExp elt [⟨.Name x px, iter, [], 0⟩] scope gpos) X.env) :: backTo pos (starEach [] X.env))) _ _ s
  refine Calls.spliced_cons (gen_list (R := fun xs H1 => ∀ H2, GxR.Tabbed P H1 H2 → Q (.bl ((List.range xs.length).any pb)) H2) hr TB hcode S hi hs I h fun xs H1 g s5 hR hG => ?_)
  obtain ⟨fp, wr, G, F, T, W, hst, htr, hI⟩ := hG
  refine Calls.spliced_nil ?_
  refine call_any_walkS (W.self 0 _ _ _ hst ⟨g, fp, wr, G, _, F, T, _, rfl, W, hst, htr, fun s' hmv => ?_⟩)
  obtain ⟨H2, hT, J⟩ := hI s' hmv
  refine ⟨.bl _, H2, J, rfl, ?_⟩
  exact hR H2 hT
theorem pe_allL {c P : Addr} {elt iter : Expr} {x : Str} {px p pos gpos : Pos} {scope : Scope} {pb : Nat → Bool} {te : TE} {k : Nat}
    (hr : Room k X.A) (hg : Gl X "all") (hm : X.mg "all" = none) (hb : bootBuiltins "all" = some (.builtin "all")) (TB : GxR.TabB X.base X.mg c P) (hcode : X.env.code = .ref c) (S : GxR.GenS X.env scope x) (hi : PE X iter te)
    (hs : ∀ v, genFold iter X.env v = pure v)
    (he : starEach [.GeneratorExp elt [⟨.Name x px, iter, [], 0⟩] scope gpos] X.env = (false, eval (.GeneratorExp elt [⟨.Name x px, iter, [], 0⟩] scope gpos) X.env) :: starEach [] X.env := by rfl) :
    PE X (.Call (.Name "all" p) [.GeneratorExp elt [⟨.Name x px, iter, [], 0⟩] scope gpos] [] pos) (tAllL X scope x elt P pb te) := by
  refine ⟨fun pins s σ H Q I h => ?_⟩
  refine wpAny_Call_Name_kw (ld_blt I hg hm hb ?_)
  refine PyProof.Rows.callWith_builtin1 ?_ he (by rfl)
  rw [he]
  show wpAny _ _ (spliced ((false, eval (.GeneratorExp elt [⟨.Name x px, iter, [], 0⟩] scope gpos) X.env) :: backTo pos (starEach [] X.env))) _ _ s
  refine Calls.spliced_cons (gen_list (R := fun xs H1 => ∀ H2, GxR.Tabbed P H1 H2 → Q (.bl ((List.range xs.length).all pb)) H2) hr TB hcode S hi hs I h fun xs H1 g s5 hR hG => ?_)
  obtain ⟨fp, wr, G, F, T, W, hst, htr, hI⟩ := hG
  refine Calls.spliced_nil ?_
  refine call_all_walkS (W.self 0 _ _ _ hst ⟨g, fp, wr, G, _, F, T, _, rfl, W, hst, htr, fun s' hmv => ?_⟩)
  obtain ⟨H2, hT, J⟩ := hI s' hmv
  refine ⟨.bl _, H2, J, rfl, ?_⟩
  exact hR H2 hT
end
end Ms
namespace Ms
open PySem PySem.Spec PyProof.Rows L2
/-! ### what the walk knows of the top -/
structure Cn (w : World) (K : PySem.W.Frag) (mg : Str → Option Value) (base : Heap) : Prop where
  glo : ∀ x ∈ gl, mg x = some (.ref (He.ga K x))
  fre : ∀ x ∈ frs, mg x = none
  bound : ∃ t, mg "BOUND" = some (.int (10 ^ 30) t)
  longest : ∃ t, mg "LONGEST" = some (.int 200 t)
  before : ∃ t, mg "BEFORE" = some (.str txBefore t)
  behind : ∃ t, mg "BEHIND" = some (.str txBehind t)
  says : He.SaysT fa fn ts w K
  more : ex K = true
  tab : ∀ p ∈ tf, GxR.TabB base mg (He.cT K p).1 (He.cT K p).2
  out : ∀ p ∈ tf, K.lookup (He.cT K p).2 = none
section
variable {P : Program} {w : World} {K : PySem.W.Frag} {mg : Str → Option Value} {base : Heap} {X : Cx}
theorem Cn.peBound (T : Cn w K mg base) {pos : Pos} (hK : X.mg = mg := by rfl) (hg : Gl X "BOUND" := by rfl) : PE X (.Name "BOUND" pos) (tC (.int (10 ^ 30))) := by
  obtain ⟨t, e⟩ := T.bound
  exact pe_glob hg (by rw [hK]; exact e) ⟨t, rfl⟩
theorem Cn.peLongest (T : Cn w K mg base) {pos : Pos} (hK : X.mg = mg := by rfl) (hg : Gl X "LONGEST" := by rfl) : PE X (.Name "LONGEST" pos) (tC (.int 200)) := by
  obtain ⟨t, e⟩ := T.longest
  exact pe_glob hg (by rw [hK]; exact e) ⟨t, rfl⟩
theorem Cn.peBefore (T : Cn w K mg base) {pos : Pos} (hK : X.mg = mg := by rfl) (hg : Gl X "BEFORE" := by rfl) : PE X (.Name "BEFORE" pos) (tC (.str txBefore)) := by
  obtain ⟨t, e⟩ := T.before
  exact pe_glob hg (by rw [hK]; exact e) ⟨t, rfl⟩
theorem Cn.peBehind (T : Cn w K mg base) {pos : Pos} (hK : X.mg = mg := by rfl) (hg : Gl X "BEHIND" := by rfl) : PE X (.Name "BEHIND" pos) (tC (.str txBehind)) := by
  obtain ⟨t, e⟩ := T.behind
  exact pe_glob hg (by rw [hK]; exact e) ⟨t, rfl⟩
theorem Cn.peRef (T : Cn w K mg base) (x : Str) (hx : x ∈ gl) {pos : Pos} (hK : X.mg = mg := by rfl) (hg : Gl X x := by rfl) (hd : (x == ("__debug__" : Str)) = false := by decide) : PE X (.Name x pos) (tC (.ref (He.ga K x))) :=
  pe_glob hg (by rw [hK]; exact T.glo x hx) rfl hd
/-- a def of the top keeps its promise, by its body -/
theorem Cn.cal (T : Cn w K mg base) {i k : Nat} {x : Str} {d : He.DefD} {N ps : List Str} {sp : Sp} (hi : fn[i]? = some d) (ha : d.at_ = (x, none)) (hx : x ∈ gl) (hdf : d.dfl = []) (hkw : d.kwd = []) (S : FnScope N ps d.scope)
    (hb : ∀ (kV doc pm : Value) (an : Option Addr) (cdv ct : Value) (us : List Value), us.length = ps.length → bindArgs (PySem.W.fnOf d.name d.qual d.params d.body d.scope .none kV doc pm an cdv ct) ⟨us, []⟩ = pure (ps.zip us))
    (len : ∀ vs H Q E, sp vs H Q E → vs.length = ps.length)
    (hbody : ∀ (cdv : Value) (A : Around) (outer : List Env) (s : Shared) (H : Hp) (vs : List V) (Q : VK) (E : XK), Room k (A.deeper (envOfC d.qual d.scope s.heap.objs.size (He.ga K x) cdv)) → cdv = .ref (He.codeOf K (x, none)) → sp vs H Q E →
      ∃ t, PSs (cxOf CX0 P w K mg base N d.qual d.scope (He.ga K x) cdv A outer s H E).nox d.body t ∧ t { nx := fun _ H' => Q .non H', rt := Q } (start N vs) H) : C8.Cal P w K mg base (k + 1) x sp [] := by
  obtain ⟨fd, F⟩ := T.says.d.def_ i hi
  have e1 : d.dvs K = [] := by unfold He.DefD.dvs; rw [hdf]; rfl
  have e2 : d.kws K = [] := by unfold He.DefD.kws; rw [hkw]; rfl
  have e3 : He.fAd K d.at_ = He.ga K x := by rw [ha]; rfl
  rw [e1, e2, e3] at F
  have B := F.bindsN hb
  obtain ⟨oc, od, dV, kV, doc, pm, an, cdv, ct, osl, rfl, lk, hcd, _, _⟩ := F.ex
  obtain ⟨c, ec⟩ := He.codeIn_ref hcd
  have ecd : cdv = .ref (He.codeOf K (x, none)) := by
    rw [He.codeOf_eq (K := K) (p := (x, none)) lk ec, ec]
  refine ⟨_, _, ps, [], fn_of lk hcd S len fun A outer s H vs Q E hr hsp => ?_, T.glo x hx, F.kp, B, .nil⟩
  obtain ⟨t, a, b⟩ := hbody cdv A outer s H vs Q E hr ecd hsp
  exact ⟨t, a.nox, b⟩
end
/-! ### data -/
inductive Kd where
  | int | flag | text
  deriving DecidableEq
def Kd.s : Kd → Str
  | .int => "int"
  | .flag => "flag"
  | .text => "text"
inductive Wd where
  | neg | abs | not | miss | len | add | sub | mul | div | mod | joined | eq | ne | lt | le | gt | ge | and | or | ite | orelse
  deriving DecidableEq
def Wd.s : Wd → Str
  | .neg => "neg"
  | .abs => "abs"
  | .not => "not"
  | .miss => "is missing"
  | .len => "length"
  | .add => "add"
  | .sub => "sub"
  | .mul => "mul"
  | .div => "div"
  | .mod => "mod"
  | .joined => "joined"
  | .eq => "eq"
  | .ne => "ne"
  | .lt => "lt"
  | .le => "le"
  | .gt => "gt"
  | .ge => "ge"
  | .and => "and"
  | .or => "or"
  | .ite => "if"
  | .orelse => "or else"
inductive Ex where
  | val (k : Kd) (v : V)
  | attr (n : Str)
  | dim (n : Str)
  | n1 (w : Wd) (a : Ex)
  | n2 (w : Wd) (a b : Ex)
  | n3 (w : Wd) (a b c : Ex)
def Ex.ws : Ex → Str
  | .val _ _ => "value"
  | .attr _ => "attr"
  | .dim _ => "dim"
  | .n1 w _ => w.s
  | .n2 w _ _ => w.s
  | .n3 w _ _ _ => w.s
def Ex.leaf : Ex → Bool
  | .val _ _ => true
  | .attr _ => true
  | .dim _ => true
  | _ => false
def Ex.wd : Ex → Wd
  | .n1 w _ => w
  | .n2 w _ _ => w
  | .n3 w _ _ _ => w
  | _ => .neg
def Ex.parts : Ex → List Ex
  | .n1 _ a => [a]
  | .n2 _ a b => [a, b]
  | .n3 _ a b c => [a, b, c]
  | _ => []
def Ex.ht : Ex → Nat
  | .n1 _ a => a.ht + 1
  | .n2 _ a b => max a.ht b.ht + 1
  | .n3 _ a b c => max a.ht (max b.ht c.ht) + 1
  | _ => 0
theorem Ex.ht_parts {e p : Ex} (h : p ∈ e.parts) : p.ht < e.ht := by
  cases e with
  | n1 w a => rw [List.mem_singleton.mp h]; show a.ht < a.ht + 1; omega
  | n2 w a b =>
    show p.ht < max a.ht b.ht + 1
    rcases List.mem_cons.mp h with e | h
    · rw [e]; omega
    · rw [List.mem_singleton.mp h]; omega
  | n3 w a b c =>
    show p.ht < max a.ht (max b.ht c.ht) + 1
    rcases List.mem_cons.mp h with e | h
    · rw [e]; omega
    · rcases List.mem_cons.mp h with e | h
      · rw [e]; omega
      · rw [List.mem_singleton.mp h]; omega
  | _ => cases h
/-- signs of texts -/
def OkC (c : Nat) : Prop := c ∈ txBefore.cps.toList ∨ c ∈ txBehind.cps.toList ∨ c = 10
def IsV : Kd → V → Prop
  | .int, .int i => -(10 ^ 30) < i ∧ i < 10 ^ 30
  | .flag, .bl _ => True
  | .text, .str s => s.length ≤ 200 ∧ ∀ c ∈ s.cps.toList, OkC c
  | _, _ => False
def IsO (k : Kd) (v : V) : Prop := v = .non ∨ IsV k v
theorem IsV.sk {k : Kd} {x y : V} (h : IsV k x) (h2 : IsV k y) : Ms.sk x y = true := by
  cases k <;> cases x <;> first | exact h.elim | (cases y <;> first | rfl | exact h2.elim)
theorem IsV.ne {k : Kd} {x : V} (h : IsV k x) : x ≠ .non := by
  intro e; subst e; cases k <;> exact h
structure Shp where
  dims : List (Str × Int × Int × Int)
  attrs : List (Str × Kd)
def ixOf (ns : List Str) (n : Str) : Option Nat := ns.findIdx? fun m => decide (m = n)
def Shp.aix (sh : Shp) (n : Str) : Option Nat := ixOf (sh.attrs.map (·.1)) n
def Shp.dix (sh : Shp) (n : Str) : Option Nat := ixOf (sh.dims.map (·.1)) n
/-! ### what an operation gives -/
def bndV (i : Int) : V := if -(10 ^ 30) < i ∧ i < 10 ^ 30 then .int i else .non
def decV (ends : Bool) (a b : V) : V := if a = .bl ends ∨ b = .bl ends then .bl ends else if a = .non ∨ b = .non then .non else .bl (!ends)
def cmpV : Wd → V → V → Bool
  | .eq, x, y => decide (x = y)
  | .ne, x, y => !decide (x = y)
  | .lt, x, y => ltB x y
  | .le, x, y => leB x y
  | .gt, x, y => ltB y x
  | _, x, y => leB y x
def ariV : Wd → Int → Int → V
  | .add, i, j => bndV (i + j)
  | .sub, i, j => bndV (i - j)
  | .mul, i, j => bndV (i * j)
  | .div, i, j => if j = 0 then .non else bndV (i.fdiv j)
  | _, i, j => if j = 0 then .non else bndV (i.fmod j)
def sglV : Wd → V → V
  | .neg, .int i => .int (-i)
  | .abs, .int i => .int (if i < 0 then -i else i)
  | .not, .bl b => .bl (!b)
  | _, .str s => .int s.length
  | _, _ => .non
def Wd.isCmp : Wd → Bool
  | .eq | .ne | .lt | .le | .gt | .ge => true
  | _ => false
def Wd.isAri : Wd → Bool
  | .add | .sub | .mul | .div | .mod => true
  | _ => false
def strV (w : Wd) (rs : List V) : V := match rs with
  | [x] => sglV w x
  | [x, y] => if w.isAri = true then (match x, y with
      | .int i, .int j => ariV w i j
      | _, _ => .non)
    else if w.isCmp = true then .bl (cmpV w x y)
    else (match x, y with
      | .str s, .str t => if s.length + t.length ≤ 200 then .str (s ++ t) else .non
      | _, _ => .non)
  | _ => .non
def opV (w : Wd) (rs : List V) : V := match w with
  | .miss => .bl (decide (rs.getD 0 .non = .non))
  | .and => decV false (rs.getD 0 .non) (rs.getD 1 .non)
  | .or => decV true (rs.getD 0 .non) (rs.getD 1 .non)
  | .ite => if rs.getD 0 .non = .non then .non else if rs.getD 0 .non = .bl true then rs.getD 1 .non else rs.getD 2 .non
  | .orelse => if rs.getD 0 .non = .non then rs.getD 1 .non else rs.getD 0 .non
  | w => if V.non ∈ rs then .non else strV w rs
/-- the value of an expression in a cell -/
def evE (sh : Shp) (pl : List Int) (vs : List V) : Ex → V
  | .val _ v => v
  | .attr n => match sh.aix n with
    | some i => vs.getD i .non
    | none => .non
  | .dim n => match sh.dix n with
    | some i => .int (pl.getD i 0)
    | none => .non
  | .n1 w a => opV w [evE sh pl vs a]
  | .n2 w a b => opV w [evE sh pl vs a, evE sh pl vs b]
  | .n3 w a b c => opV w [evE sh pl vs a, evE sh pl vs b, evE sh pl vs c]
/-! ### kinds -/
def sig : Wd → List Kd → Option Kd
  | .neg, [.int] => some .int
  | .abs, [.int] => some .int
  | .not, [.flag] => some .flag
  | .miss, [_] => some .flag
  | .len, [.text] => some .int
  | .add, [.int, .int] => some .int
  | .sub, [.int, .int] => some .int
  | .mul, [.int, .int] => some .int
  | .div, [.int, .int] => some .int
  | .mod, [.int, .int] => some .int
  | .joined, [.text, .text] => some .text
  | .eq, [a, b] => if a = b then some .flag else none
  | .ne, [a, b] => if a = b then some .flag else none
  | .lt, [a, b] => if a = b then some .flag else none
  | .le, [a, b] => if a = b then some .flag else none
  | .gt, [a, b] => if a = b then some .flag else none
  | .ge, [a, b] => if a = b then some .flag else none
  | .and, [.flag, .flag] => some .flag
  | .or, [.flag, .flag] => some .flag
  | .ite, [.flag, a, b] => if a = b then some a else none
  | .orelse, [a, b] => if a = b then some a else none
  | _, _ => none
inductive HasK (sh : Shp) : Ex → Kd → Prop
  | val {k : Kd} {v : V} : IsO k v → HasK sh (.val k v) k
  | attr {n : Str} {i : Nat} {k : Kd} : sh.aix n = some i → sh.attrs[i]? = some (n, k) → HasK sh (.attr n) k
  | dim {n : Str} {i : Nat} : sh.dix n = some i → i < sh.dims.length → HasK sh (.dim n) .int
  | n1 {w : Wd} {a : Ex} {ka k : Kd} : HasK sh a ka → sig w [ka] = some k → HasK sh (.n1 w a) k
  | n2 {w : Wd} {a b : Ex} {ka kb k : Kd} : HasK sh a ka → HasK sh b kb → sig w [ka, kb] = some k → HasK sh (.n2 w a b) k
  | n3 {w : Wd} {a b c : Ex} {ka kb kc k : Kd} : HasK sh a ka → HasK sh b kb → HasK sh c kc → sig w [ka, kb, kc] = some k → HasK sh (.n3 w a b c) k
/-! ### heaps -/
def stabO : HO → Bool
  | .dK _ => false
  | .tbl _ => false
  | _ => true
def noTbl : HO → Bool
  | .tbl _ => false
  | _ => true
/-- what stands but for tables and dicts with text keys is as it was -/
def Gr (H H' : Hp) : Prop := ∀ b o, H b = some o → stabO o = true → H' b = some o
/-- .. but for tables -/
def Gk (H H' : Hp) : Prop := ∀ b o, H b = some o → noTbl o = true → H' b = some o
theorem Gr.refl (H : Hp) : Gr H H := fun _ _ h _ => h
theorem Gk.refl (H : Hp) : Gk H H := fun _ _ h _ => h
theorem Gr.trans {H H1 H2 : Hp} (a : Gr H H1) (b : Gr H1 H2) : Gr H H2 := fun c o h z => b c o (a c o h z) z
theorem Gk.trans {H H1 H2 : Hp} (a : Gk H H1) (b : Gk H1 H2) : Gk H H2 := fun c o h z => b c o (a c o h z) z
theorem Gk.gr {H H' : Hp} (a : Gk H H') : Gr H H' := fun c o h z => a c o h (by cases o <;> first | rfl | cases z)
theorem Same.gk {H H' : Hp} (a : Same H H') : Gk H H' := fun c o h _ => a c o h
theorem Same.gr {H H' : Hp} (a : Same H H') : Gr H H' := fun c o h _ => a c o h
theorem Same.new {H : Hp} {p : Addr} {o : HO} (h : H p = none) : Same H (upd H p o) := fun b u e => by rw [upd_ne (ne_of_none e h)]; exact e
theorem Gr.new {H : Hp} {p : Addr} {o : HO} (h : H p = none) : Gr H (upd H p o) := Same.gr (Same.new h)
theorem Gk.new {H : Hp} {p : Addr} {o : HO} (h : H p = none) : Gk H (upd H p o) := Same.gk (Same.new h)
/-- the code tables stand -/
def Tabs (K : PySem.W.Frag) (H : Hp) : Prop := ∀ p ∈ tf, GxR.TabG H (He.cT K p).2
theorem Tabs.same {K : PySem.W.Frag} {H H' : Hp} (t : Tabs K H) (a : Same H H') : Tabs K H' := fun p hp => by
  obtain ⟨ps, e, z⟩ := t p hp
  exact ⟨ps, a _ _ e, z⟩
theorem Gr.tupl {K : PySem.W.Frag} {H H' : Hp} {a : Addr} {xs : List V} (g : Gr H H') (h : SqT K H a xs) : SqT K H' a xs := by
  rcases h with (h | ⟨o, h⟩) | h
  · exact .inl (.inl (g _ _ h rfl))
  · exact .inl (.inr ⟨o, g _ _ h rfl⟩)
  · exact .inr h
theorem Gr.seq {K : PySem.W.Frag} {H H' : Hp} {a : Addr} {xs : List V} (g : Gr H H') (h : SqL K H a xs) : SqL K H' a xs := by
  rcases h with (h | ⟨o, h⟩) | h
  · exact .inl (.inl (g _ _ h rfl))
  · exact .inl (.inr ⟨o, g _ _ h rfl⟩)
  · exact .inr h
/-- a span: its ends, whether missing -/
structure Sn where
  lo : V
  hi : V
  ms : Bool
def nothing : Sn := ⟨.non, .non, true⟩
def Sn.vs (s : Sn) : List V := [s.lo, s.hi, .bl s.ms]
def SpanAt (K : PySem.W.Frag) (H : Hp) (v : V) (s : Sn) : Prop := ∃ t, v = .ref t ∧ SqT K H t s.vs
theorem SpanAt.gr {K : PySem.W.Frag} {H H' : Hp} {v : V} {s : Sn} (g : Gr H H') (h : SpanAt K H v s) : SpanAt K H' v s := by
  obtain ⟨t, e, z⟩ := h
  exact ⟨t, e, g.tupl z⟩
/-- a span of a kind -/
def SpanK (k : Kd) (s : Sn) : Prop := s = nothing ∨ (IsV k s.lo ∧ IsV k s.hi)
def InS (v : V) (s : Sn) : Prop := (v = .non ∧ s.ms = true) ∨ (v ≠ .non ∧ s.lo ≠ .non ∧ leB s.lo v = true ∧ leB v s.hi = true)
/-- an expression in the heap -/
inductive ExAt (H : Hp) : V → Ex → Prop
  | val {t : Addr} {k : Kd} {v : V} : H t = some (.tup [.str "value", .str k.s, v]) → ExAt H (.ref t) (.val k v)
  | attr {t : Addr} {n : Str} : H t = some (.tup [.str "attr", .str n]) → ExAt H (.ref t) (.attr n)
  | dim {t : Addr} {n : Str} : H t = some (.tup [.str "dim", .str n]) → ExAt H (.ref t) (.dim n)
  | n1 {t : Addr} {w : Wd} {u : V} {a : Ex} : H t = some (.tup [.str w.s, u]) → ExAt H u a → ExAt H (.ref t) (.n1 w a)
  | n2 {t : Addr} {w : Wd} {u v : V} {a b : Ex} : H t = some (.tup [.str w.s, u, v]) → ExAt H u a → ExAt H v b → ExAt H (.ref t) (.n2 w a b)
  | n3 {t : Addr} {w : Wd} {u v z : V} {a b c : Ex} : H t = some (.tup [.str w.s, u, v, z]) → ExAt H u a → ExAt H v b → ExAt H z c → ExAt H (.ref t) (.n3 w a b c)
theorem ExAt.gr {H H' : Hp} {v : V} {e : Ex} (g : Gr H H') (h : ExAt H v e) : ExAt H' v e := by
  induction h with
  | val h => exact .val (g _ _ h rfl)
  | attr h => exact .attr (g _ _ h rfl)
  | dim h => exact .dim (g _ _ h rfl)
  | n1 h _ ih => exact .n1 (g _ _ h rfl) ih
  | n2 h _ _ i1 i2 => exact .n2 (g _ _ h rfl) i1 i2
  | n3 h _ _ _ i1 i2 i3 => exact .n3 (g _ _ h rfl) i1 i2 i3
theorem ExAt.node {H : Hp} {v : V} {e : Ex} (h : ExAt H v e) (hl : e.leaf = false) : ∃ t us, v = .ref t ∧ H t = some (.tup (.str e.wd.s :: us)) ∧ Paired (ExAt H) us e.parts := by
  cases h with
  | val => cases hl
  | attr => cases hl
  | dim => cases hl
  | n1 h a => exact ⟨_, _, rfl, h, .cons a .nil⟩
  | n2 h a b => exact ⟨_, _, rfl, h, .cons a (.cons b .nil)⟩
  | n3 h a b c => exact ⟨_, _, rfl, h, .cons a (.cons b (.cons c .nil))⟩
theorem ExAt.any {H : Hp} {v : V} {e : Ex} (h : ExAt H v e) : ∃ t us, v = .ref t ∧ H t = some (.tup (.str e.ws :: us)) := by
  cases h with
  | val h => exact ⟨_, _, rfl, h⟩
  | attr h => exact ⟨_, _, rfl, h⟩
  | dim h => exact ⟨_, _, rfl, h⟩
  | n1 h a => exact ⟨_, _, rfl, h⟩
  | n2 h a b => exact ⟨_, _, rfl, h⟩
  | n3 h a b c => exact ⟨_, _, rfl, h⟩
theorem Ex.ws_node {e : Ex} (h : e.leaf = false) : e.ws = e.wd.s := by cases e <;> first | rfl | cases h
theorem Ex.parts_leaf {e : Ex} (h : e.leaf = true) : e.parts = [] := by cases e <;> first | rfl | cases h
/-- dimensions, attributes, a shape in the heap -/
def DimAt (H : Hp) (v : V) (d : Str × Int × Int × Int) : Prop := ∃ t, v = .ref t ∧ H t = some (.tup [.str d.1, .int d.2.1, .int d.2.2.1, .int d.2.2.2])
def AttrAt (H : Hp) (v : V) (a : Str × Kd) : Prop := ∃ t, v = .ref t ∧ H t = some (.tup [.str a.1, .str a.2.s])
def shFlds (d a : Addr) : List (Str × V) := putF "attrs" (.ref a) (putF "dims" (.ref d) [])
structure ShAt (C : Addr) (H : Hp) (p : Addr) (sh : Shp) : Prop where
  len : sh.dims.length ≤ 16 ∧ sh.attrs.length ≤ 16
  ex : ∃ (dx d a : Addr) (ds as : List V), H p = some (.ins C dx (shFlds d a)) ∧ H d = some (.tup ds) ∧ H a = some (.tup as) ∧ Paired (DimAt H) ds sh.dims ∧ Paired (AttrAt H) as sh.attrs
theorem Paired.mapG {α β : Type} {F G : α → β → Prop} (f : ∀ a b, F a b → G a b) : ∀ {l : List α} {m : List β}, Paired F l m → Paired G l m
  | _, _, .nil => .nil
  | _, _, .cons r t => .cons (f _ _ r) (Paired.mapG f t)
theorem DimAt.gr {H H' : Hp} {v : V} {d : Str × Int × Int × Int} (g : Gr H H') (h : DimAt H v d) : DimAt H' v d := by
  obtain ⟨t, e, z⟩ := h
  exact ⟨t, e, g _ _ z rfl⟩
theorem AttrAt.gr {H H' : Hp} {v : V} {d : Str × Kd} (g : Gr H H') (h : AttrAt H v d) : AttrAt H' v d := by
  obtain ⟨t, e, z⟩ := h
  exact ⟨t, e, g _ _ z rfl⟩
theorem ShAt.gr {C : Addr} {H H' : Hp} {p : Addr} {sh : Shp} (g : Gr H H') (h : ShAt C H p sh) : ShAt C H' p sh := by
  obtain ⟨dx, d, a, ds, as, h1, h2, h3, h4, h5⟩ := h.ex
  exact ⟨h.len, dx, d, a, ds, as, g _ _ h1 rfl, g _ _ h2 rfl, g _ _ h3 rfl, Paired.mapG (fun _ _ => DimAt.gr g) h4, Paired.mapG (fun _ _ => AttrAt.gr g) h5⟩
end Ms
namespace Ms
open PySem PySem.Spec PyProof.Rows L2
theorem iteD {p : Prop} [Decidable p] {A B : Prop} (a : p → A) (b : ¬ p → B) : if decide p = true then A else B := by
  by_cases h : p
  · rw [if_pos (decide_eq_true h)]; exact a h
  · rw [if_neg (by rw [decide_eq_false h]; exact Bool.false_ne_true)]; exact b h
theorem iteN {p : Prop} [Decidable p] {A B : Prop} (a : ¬ p → A) (b : p → B) : if (!decide p) = true then A else B := by
  by_cases h : p
  · rw [decide_eq_true h]; exact iteF (b h)
  · rw [decide_eq_false h]; exact iteT (a h)
theorem iteB {c : Bool} {A B : Prop} (a : c = true → A) (b : c = false → B) : if c = true then A else B := by
  cases c with
  | true => exact a rfl
  | false => exact b rfl
theorem iteC {c : Bool} {A B : Prop} (a : c = true → A) (b : c = false → B) : if (!c) = true then B else A := by
  cases c with
  | true => exact a rfl
  | false => exact b rfl
/-! words -/
def allWd : List Wd := [.neg, .abs, .not, .miss, .len, .add, .sub, .mul, .div, .mod, .joined, .eq, .ne, .lt, .le, .gt, .ge, .and, .or, .ite, .orelse]
def rdWd (s : Str) : Option Wd := allWd.find? fun w => decide (w.s = s)
theorem rdWd_s (w : Wd) : rdWd w.s = some w := by cases w <;> decide +kernel
theorem wd_inj {w v : Wd} (h : w.s = v.s) : w = v := by
  have a := rdWd_s w
  rw [h, rdWd_s v] at a
  exact (Option.some.inj a).symm
theorem wd_eq {w v : Wd} (h : V.str w.s = V.str v.s) : w = v := wd_inj (V.str.inj h)
theorem wd_str {w v : Wd} : decide (V.str w.s = V.str v.s) = decide (w = v) := by
  by_cases h : w = v
  · subst h; rw [decide_eq_true rfl, decide_eq_true rfl]
  · rw [decide_eq_false h, decide_eq_false fun z => h (wd_eq z)]
theorem kd_inj {k l : Kd} (h : k.s = l.s) : k = l := by
  cases k <;> cases l <;> first | rfl | exact absurd h (by decide +kernel)
theorem kd_eq {k l : Kd} (h : V.str k.s = V.str l.s) : k = l := kd_inj (V.str.inj h)
theorem kd_str {w v : Kd} : decide (V.str w.s = V.str v.s) = decide (w = v) := by
  by_cases h : w = v
  · subst h; rw [decide_eq_true rfl, decide_eq_true rfl]
  · rw [decide_eq_false h, decide_eq_false fun z => h (kd_eq z)]
theorem wd_value (w : Wd) : V.str w.s ≠ V.str "value" := by cases w <;> decide +kernel
theorem wd_attr (w : Wd) : V.str w.s ≠ V.str "attr" := by cases w <;> decide +kernel
theorem wd_dim (w : Wd) : V.str w.s ≠ V.str "dim" := by cases w <;> decide +kernel
abbrev vLeaves : List V := [.str "value", .str "attr", .str "dim"]
abbrev vArith : List V := [.str "add", .str "sub", .str "mul", .str "div", .str "mod"]
abbrev vComp : List V := [.str "eq", .str "ne", .str "lt", .str "le", .str "gt", .str "ge"]
abbrev vKinds : List V := [.str "int", .str "flag", .str "text"]
theorem in_leaves (w : Wd) : inV (.str w.s) vLeaves = false := by cases w <;> decide +kernel
theorem in_arith (w : Wd) : inV (.str w.s) vArith = w.isAri := by cases w <;> decide +kernel
theorem in_comp (w : Wd) : inV (.str w.s) vComp = w.isCmp := by cases w <;> decide +kernel
theorem in_kinds (k : Kd) : inV (.str k.s) vKinds = true := by cases k <;> decide +kernel
theorem in_andor (w : Wd) : inV (.str w.s) [.str "and", .str "or"] = (decide (w = .and) || decide (w = .or)) := by cases w <;> decide +kernel
theorem in_gtge (w : Wd) : inV (.str w.s) [.str "gt", .str "ge"] = (decide (w = .gt) || decide (w = .ge)) := by cases w <;> decide +kernel
theorem in_eqne (w : Wd) : inV (.str w.s) [.str "eq", .str "ne"] = (decide (w = .eq) || decide (w = .ne)) := by cases w <;> decide +kernel
section
variable {w : World} {K : PySem.W.Frag} {mg : Str → Option Value} {base : Heap}
theorem Cn.tKinds (T : Cn w K mg base) (H : Hp) : SqT K H (He.ga K "KINDS") vKinds := He.tupB_ok (He.ba T.more).1 H
theorem Cn.tLeaves (T : Cn w K mg base) (H : Hp) : SqT K H (He.ga K "LEAVES") vLeaves := He.tupB_ok (He.ba (He.ba T.more).2).1 H
theorem Cn.tArith (T : Cn w K mg base) (H : Hp) : SqT K H (He.ga K "ARITHMETIC") vArith := He.tupB_ok (He.ba (He.ba (He.ba T.more).2).2).1 H
theorem Cn.tComp (T : Cn w K mg base) (H : Hp) : SqT K H (He.ga K "COMPARISONS") vComp := He.tupB_ok (He.ba (He.ba (He.ba (He.ba T.more).2).2).2).1 H
theorem Cn.tNothing (T : Cn w K mg base) (H : Hp) : SqT K H (He.ga K "NOTHING") nothing.vs := He.tupB_ok (He.ba (He.ba (He.ba (He.ba (He.ba T.more).2).2).2).2).1 H
end
/-! isinstance of scalars -/
def tyN : V → String
  | .non => "NoneType"
  | .bl _ => "bool"
  | .int _ => "int"
  | _ => "str"
def isSc : V → Bool
  | .non => true
  | .bl _ => true
  | .int _ => true
  | .str _ => true
  | _ => false
theorem tyx {K : PySem.W.Frag} {H : Hp} {x : V} (hx : isSc x = true) : TyX K H x (.type (tyN x)) := by
  cases x with
  | non => exact .base .non
  | bl b => exact .base (.bl b)
  | int i => exact .base (.int i)
  | str z => exact .base (.str z)
  | _ => cases hx
theorem tyxT {K : PySem.W.Frag} {H : Hp} {a : Addr} {xs : List V} (h : SqT K H a xs) : TyX K H (.ref a) (.type "tuple") := by
  rcases h with (h | ⟨o, h⟩) | ⟨o, its, n, h, hc, _⟩
  · exact .base (.tup h)
  · exact .fTuple h
  · exact .kTuple h hc
theorem rd_isi {K : PySem.W.Frag} {H : Hp} {Q : VK} {x : V} {T : String} {b : Bool} (hx : isSc x = true) (hk : kitB (tyN x) T = some b) (q : Q (.bl b) H) : rIsi K [x, .ty T] H Q := by
  refine ⟨x, .ty T, .type (tyN x), .type T, b, rfl, .ty T, ?_, kit_ty hk, q⟩
  cases x with
  | non => exact .base .non
  | bl b => exact .base (.bl b)
  | int i => exact .base (.int i)
  | str z => exact .base (.str z)
  | _ => cases hx
theorem rd_isiT {K : PySem.W.Frag} {H : Hp} {Q : VK} {a : Addr} {xs : List V} (h : SqT K H a xs) (q : Q (.bl true) H) : rIsi K [.ref a, .ty "tuple"] H Q := by
  refine ⟨.ref a, .ty "tuple", .type "tuple", .type "tuple", true, rfl, .ty "tuple", ?_, kit_ty (by decide +kernel), q⟩
  rcases h with (h | ⟨o, h⟩) | ⟨o, its, n, h, hc, _⟩
  · exact .base (.tup h)
  · exact .fTuple h
  · exact .kTuple h hc
def isI : V → Bool
  | .int _ => true
  | .bl _ => true
  | _ => false
def isB : V → Bool
  | .bl _ => true
  | _ => false
def isS : V → Bool
  | .str _ => true
  | _ => false
theorem kit_int (x : V) (h : isSc x = true) : kitB (tyN x) "int" = some (isI x) := by
  cases x with
  | non => exact (by decide +kernel : kitB "NoneType" "int" = some false)
  | bl b => exact (by decide +kernel : kitB "bool" "int" = some true)
  | int b => exact (by decide +kernel : kitB "int" "int" = some true)
  | str b => exact (by decide +kernel : kitB "str" "int" = some false)
  | _ => cases h
theorem kit_bool (x : V) (h : isSc x = true) : kitB (tyN x) "bool" = some (isB x) := by
  cases x with
  | non => exact (by decide +kernel : kitB "NoneType" "bool" = some false)
  | bl b => exact (by decide +kernel : kitB "bool" "bool" = some true)
  | int b => exact (by decide +kernel : kitB "int" "bool" = some false)
  | str b => exact (by decide +kernel : kitB "str" "bool" = some false)
  | _ => cases h
theorem kit_str (x : V) (h : isSc x = true) : kitB (tyN x) "str" = some (isS x) := by
  cases x with
  | non => exact (by decide +kernel : kitB "NoneType" "str" = some false)
  | bl b => exact (by decide +kernel : kitB "bool" "str" = some false)
  | int b => exact (by decide +kernel : kitB "int" "str" = some false)
  | str b => exact (by decide +kernel : kitB "str" "str" = some true)
  | _ => cases h
theorem IsV.sc {k : Kd} {x : V} (h : IsV k x) : isSc x = true := by
  cases k <;> cases x <;> first | rfl | exact h.elim
/-! readings in short -/
theorem rd_ix {K : PySem.W.Frag} {H : Hp} {Q : VK} {a : Addr} {xs : List V} {j : Nat} {v : V} (h : SqT K H a xs) (e : xs[j]? = some v) (q : Q v H) : rIxT K (.ref a) (.int (j : Int)) H Q := ⟨a, xs, j, v, rfl, rfl, h, atI_nat e, q⟩
theorem rd_ixL {K : PySem.W.Frag} {H : Hp} {Q : VK} {a : Addr} {xs : List V} {j : Nat} {v : V} (h : SqL K H a xs) (e : xs[j]? = some v) (q : Q v H) : rIxL K (.ref a) (.int (j : Int)) H Q := ⟨a, xs, j, v, rfl, rfl, h, atI_nat e, q⟩
end Ms
namespace Ms
open PySem PySem.Spec PyProof.Rows L2
/-! values of operations keep to their kinds -/
theorem bndV_isO (i : Int) : IsO .int (bndV i) := by
  unfold bndV
  by_cases h : -(10 ^ 30) < i ∧ i < 10 ^ 30
  · rw [if_pos h]; exact .inr h
  · rw [if_neg h]; exact .inl rfl
theorem ariV_isO (w : Wd) (i j : Int) : IsO .int (ariV w i j) := by
  unfold ariV
  split
  · exact bndV_isO _
  · exact bndV_isO _
  · exact bndV_isO _
  · split
    · exact .inl rfl
    · exact bndV_isO _
  · split
    · exact .inl rfl
    · exact bndV_isO _
theorem decV_isO (en : Bool) (a b : V) : IsO .flag (decV en a b) := by
  unfold decV
  split
  · exact .inr trivial
  · split
    · exact .inl rfl
    · exact .inr trivial
theorem isO_ov {v : V} (h : IsO .flag v) : v = .non ∨ ∃ b, v = .bl b := by
  rcases h with h | h
  · exact .inl h
  · cases v with
    | bl b => exact .inr ⟨b, rfl⟩
    | _ => exact h.elim
theorem isV_int {v : V} (h : IsV .int v) : ∃ i, v = .int i ∧ -(10 ^ 30) < i ∧ i < 10 ^ 30 := by
  cases v with
  | int i => exact ⟨i, rfl, h⟩
  | _ => exact h.elim
theorem isV_text {v : V} (h : IsV .text v) : ∃ s : Str, v = .str s ∧ s.length ≤ 200 ∧ ∀ c ∈ s.cps.toList, OkC c := by
  cases v with
  | str i => exact ⟨i, rfl, h⟩
  | _ => exact h.elim
theorem isV_flag {v : V} (h : IsV .flag v) : ∃ b, v = .bl b := by
  cases v with
  | bl i => exact ⟨i, rfl⟩
  | _ => exact h.elim
theorem str_app_list (s t : Str) : (s ++ t).cps.toList = s.cps.toList ++ t.cps.toList := by
  show (s.cps ++ t.cps).toList = _
  simp
def Wd.strict : Wd → Bool
  | .miss | .and | .or | .ite | .orelse => false
  | _ => true
theorem opV_strict {w : Wd} (h : w.strict = true) (rs : List V) : opV w rs = if V.non ∈ rs then .non else strV w rs := by
  cases w <;> first | rfl | cases h
/-- the kinds of a strict operation's parts -/
theorem strV_isO {w : Wd} {ks : List Kd} {rs : List V} {k : Kd} (hs : w.strict = true) (hg : sig w ks = some k) (hp : Paired IsV ks rs) : IsO k (strV w rs) := by
  have one : ∀ {a : Kd} {x : V}, ks = [a] → rs = [x] → IsV a x → IsO k (strV w rs) := by
    intro a x e1 e2 hx
    subst e1 e2
    cases w <;> cases a <;> first
      | (cases hg; done)
      | (cases hs; done)
      | skip
    · cases hg
      obtain ⟨i, rfl, h1, h2⟩ := isV_int hx
      exact .inr ⟨by omega, by omega⟩
    · cases hg
      obtain ⟨i, rfl, h1, h2⟩ := isV_int hx
      refine .inr ?_
      show -(10 ^ 30) < (if i < 0 then -i else i) ∧ (if i < 0 then -i else i) < 10 ^ 30
      split <;> omega
    · cases hg
      obtain ⟨i, rfl⟩ := isV_flag hx
      exact .inr trivial
    · cases hg
      obtain ⟨s, rfl, h1, h2⟩ := isV_text hx
      refine .inr ?_
      show -(10 ^ 30) < (s.length : Int) ∧ (s.length : Int) < 10 ^ 30
      have h1' : (s.length : Int) ≤ 200 := by exact_mod_cast h1
      omega
  have two : ∀ {a b : Kd} {x y : V}, ks = [a, b] → rs = [x, y] → IsV a x → IsV b y → IsO k (strV w rs) := by
    intro a b x y e1 e2 hx hy
    subst e1 e2
    by_cases h1 : w.isAri = true
    · have ek : a = .int ∧ b = .int ∧ k = .int := by
        cases w <;> first
          | (cases h1; done)
          | (cases a <;> cases b <;> first | (cases hg; exact ⟨rfl, rfl, rfl⟩) | (cases hg; done))
      obtain ⟨rfl, rfl, rfl⟩ := ek
      obtain ⟨i, rfl, _⟩ := isV_int hx
      obtain ⟨j, rfl, _⟩ := isV_int hy
      show IsO .int (if w.isAri = true then ariV w i j else _)
      rw [if_pos h1]
      exact ariV_isO w i j
    · by_cases h2 : w.isCmp = true
      · have ek : k = .flag := by
          cases w <;> first
            | (cases h2; done)
            | (cases a <;> cases b <;> first | (cases hg; rfl) | (cases hg; done))
        subst ek
        show IsO .flag (if w.isAri = true then _ else if w.isCmp = true then .bl (cmpV w x y) else _)
        rw [if_neg h1, if_pos h2]
        exact .inr trivial
      · have ek : a = .text ∧ b = .text ∧ k = .text := by
          cases w <;> first
            | (cases hs; done)
            | exact absurd rfl h1
            | exact absurd rfl h2
            | (cases a <;> cases b <;> first | (cases hg; exact ⟨rfl, rfl, rfl⟩) | (cases hg; done))
        obtain ⟨rfl, rfl, rfl⟩ := ek
        obtain ⟨s, rfl, s1, s2⟩ := isV_text hx
        obtain ⟨t, rfl, t1, t2⟩ := isV_text hy
        show IsO .text (if w.isAri = true then _ else if w.isCmp = true then _ else if s.length + t.length ≤ 200 then .str (s ++ t) else .non)
        rw [if_neg h1, if_neg h2]
        by_cases hl : s.length + t.length ≤ 200
        · rw [if_pos hl]
          refine .inr ⟨?_, fun c hc => ?_⟩
          · show (s.cps ++ t.cps).size ≤ 200
            rw [Array.size_append]
            exact hl
          · rw [str_app_list] at hc
            rcases List.mem_append.mp hc with z | z
            · exact s2 c z
            · exact t2 c z
        · rw [if_neg hl]; exact .inl rfl
  cases hp with
  | nil => exact .inl rfl
  | cons r t =>
    cases t with
    | nil => exact one rfl rfl r
    | cons r2 t2 =>
      cases t2 with
      | nil => exact two rfl rfl r r2
      | cons r3 t3 => exact .inl rfl
theorem paired_isV : ∀ {ks : List Kd} {rs : List V}, Paired IsO ks rs → V.non ∉ rs → Paired IsV ks rs
  | [], _, .nil, _ => .nil
  | _ :: _, _, .cons r t, h => .cons (r.resolve_left fun e => h (by rw [e]; exact List.mem_cons_self)) (paired_isV t fun z => h (List.mem_cons_of_mem _ z))
theorem sig_miss {ks : List Kd} {k : Kd} (h : sig .miss ks = some k) : (∃ a, ks = [a]) ∧ k = .flag := by
  unfold sig at h
  split at h <;> simp_all
theorem sig_and {ks : List Kd} {k : Kd} (h : sig .and ks = some k) : ks = [.flag, .flag] ∧ k = .flag := by
  unfold sig at h
  split at h <;> simp_all
theorem sig_or {ks : List Kd} {k : Kd} (h : sig .or ks = some k) : ks = [.flag, .flag] ∧ k = .flag := by
  unfold sig at h
  split at h <;> simp_all
theorem sig_ite {ks : List Kd} {k : Kd} (h : sig .ite ks = some k) : ks = [.flag, k, k] := by
  unfold sig at h
  split at h <;> simp_all
theorem sig_orelse {ks : List Kd} {k : Kd} (h : sig .orelse ks = some k) : ks = [k, k] := by
  unfold sig at h
  split at h <;> simp_all
theorem opV_isO {w : Wd} {ks : List Kd} {rs : List V} {k : Kd} (hg : sig w ks = some k) (hp : Paired IsO ks rs) : IsO k (opV w rs) := by
  by_cases hs : w.strict = true
  · rw [opV_strict hs]
    by_cases hn : V.non ∈ rs
    · rw [if_pos hn]; exact .inl rfl
    · rw [if_neg hn]; exact strV_isO hs hg (paired_isV hp hn)
  · have ew : w = .miss ∨ w = .and ∨ w = .or ∨ w = .ite ∨ w = .orelse := by
      cases w <;> first
        | exact absurd rfl hs
        | simp
    rcases ew with rfl | rfl | rfl | rfl | rfl
    · obtain ⟨_, rfl⟩ := sig_miss hg
      exact .inr trivial
    · obtain ⟨_, rfl⟩ := sig_and hg
      exact decV_isO _ _ _
    · obtain ⟨_, rfl⟩ := sig_or hg
      exact decV_isO _ _ _
    · have e := sig_ite hg
      subst e
      cases hp with
      | cons r1 t1 => cases t1 with
        | cons r2 t2 => cases t2 with
          | @cons _ z _ _ r3 t3 =>
            cases t3
            rename_i x y
            show IsO k (if x = .non then .non else if x = .bl true then y else z)
            split
            · exact .inl rfl
            · split
              · exact r2
              · exact r3
    · have e := sig_orelse hg
      subst e
      cases hp with
      | cons r1 t1 => cases t1 with
        | @cons _ y _ _ r2 t2 =>
          cases t2
          rename_i x
          show IsO k (if x = .non then y else x)
          split
          · exact r2
          · exact r1
/-! cells -/
structure CellOk (sh : Shp) (ps : List Int) (us : List V) : Prop where
  lp : ps.length = sh.dims.length
  bd : ∀ i ∈ ps, -(10 ^ 30) < i ∧ i < 10 ^ 30
  lu : us.length = sh.attrs.length
  ok : ∀ (i : Nat) (n : Str) (k : Kd), sh.attrs[i]? = some (n, k) → ∃ v, us[i]? = some v ∧ IsO k v
theorem evE_isO {sh : Shp} {ps : List Int} {us : List V} (c : CellOk sh ps us) {e : Ex} {k : Kd} (h : HasK sh e k) : IsO k (evE sh ps us e) := by
  induction h with
  | val h => exact h
  | @attr n i k h1 h2 =>
    obtain ⟨v, e1, e2⟩ := c.ok i n k h2
    show IsO k (match sh.aix n with | some i => us.getD i .non | none => .non)
    rw [h1]
    show IsO k (us.getD i .non)
    rw [List.getD_eq_getElem?_getD, e1]
    exact e2
  | @dim n i h1 h2 =>
    show IsO .int (match sh.dix n with | some i => .int (ps.getD i 0) | none => .non)
    rw [h1]
    have lt : i < ps.length := by rw [c.lp]; exact h2
    have e : ps.getD i 0 = ps[i] := by rw [List.getD_eq_getElem?_getD, List.getElem?_eq_getElem lt]; rfl
    show IsO .int (.int (ps.getD i 0))
    rw [e]
    exact .inr (c.bd _ (List.getElem_mem lt))
  | n1 _ hg ih => exact opV_isO hg (.cons ih .nil)
  | n2 _ _ hg i1 i2 => exact opV_isO hg (.cons i1 (.cons i2 .nil))
  | n3 _ _ _ hg i1 i2 i3 => exact opV_isO hg (.cons i1 (.cons i2 (.cons i3 .nil)))
/-- a node's parts have kinds -/
theorem HasK.node {sh : Shp} {e : Ex} {k : Kd} (h : HasK sh e k) (hl : e.leaf = false) : ∃ ks, sig e.wd ks = some k ∧ Paired (fun k p => HasK sh p k) ks e.parts := by
  cases h with
  | val => cases hl
  | attr => cases hl
  | dim => cases hl
  | n1 a hg => exact ⟨_, hg, .cons a .nil⟩
  | n2 a b hg => exact ⟨_, hg, .cons a (.cons b .nil)⟩
  | n3 a b c hg => exact ⟨_, hg, .cons a (.cons b (.cons c .nil))⟩
theorem evE_node {sh : Shp} {ps : List Int} {us : List V} {e : Ex} (hl : e.leaf = false) : evE sh ps us e = opV e.wd (e.parts.map (evE sh ps us)) := by
  cases e <;> first | rfl | cases hl
end Ms
namespace Ms
open PySem PySem.Spec PyProof.Rows L2
section
variable {P : Program} {w : World} {K : PySem.W.Frag} {mg : Str → Option Value} {base : Heap}
/-! bounded -/
def spBounded : Sp := fun vs H Q _ => ∃ i : Int, vs = [.int i] ∧ Q (bndV i) H
theorem sc_bounded : FnScope ["number"] ["number"] (defScope s_bounded) := ⟨rfl, rfl, rfl, by decide +kernel, rfl, by decide +kernel, by decide +kernel⟩
theorem ok_bounded (T : Cn w K mg base) : C8.Cal P w K mg base 1 "bounded" spBounded [] := by
  refine T.cal (i := 14) (d := d_bounded) (k := 0) rfl rfl (by decide +kernel) rfl rfl sc_bounded (fun _ _ _ _ _ _ us hl => match us, hl with | [_], _ => rfl) (fun vs H Q E h => ?_) (fun cdv A outer s H vs Q E hr hcd h => ?_)
  · obtain ⟨i, rfl, _⟩ := h
    rfl
  obtain ⟨i, rfl, q⟩ := h
  refine ⟨_, (pss_one (ps_ret (pe_ifExp (pt_chain op_lt op_lt (pe_un un_neg T.peBound) (pv 0) T.peBound) (pv 0) pe_non))), ?_⟩
  refine ⟨_, rfl, _, rfl, _, _, rfl, rfl, _, rfl, ?_⟩
  unfold bndV at q
  refine iteD (fun h1 => ⟨_, _, rfl, rfl, _, rfl, ?_⟩) (fun h1 => ⟨_, rfl, ?_⟩)
  · refine iteD (fun h2 => ⟨_, rfl, ?_⟩) (fun h2 => ?_)
    · rw [if_pos ⟨h1, h2⟩] at q
      exact q
    · rw [if_neg (fun z => h2 z.2)] at q
      exact q
  · refine iteF ?_
    rw [if_neg (fun z => h1 z.1)] at q
    exact q
/-! is_text: of a text whose signs are all right -/
def spIsText : Sp := fun vs H Q _ => ∃ s : Str, vs = [.str s] ∧ (∀ c ∈ s.cps.toList, OkC c) ∧ Q (.bl true) H
theorem sc_is_text : FnScope ["text", "char"] ["text"] (defScope s_is_text) := ⟨rfl, rfl, rfl, by decide +kernel, rfl, by decide +kernel, by decide +kernel⟩
theorem ok_is_text (T : Cn w K mg base) : C8.Cal P w K mg base 1 "is_text" spIsText [] := by
  refine T.cal (i := 0) (d := d_is_text) (k := 0) rfl rfl (by decide +kernel) rfl rfl sc_is_text (fun _ _ _ _ _ _ us hl => match us, hl with | [_], _ => rfl) (fun vs H Q E h => ?_) (fun cdv A outer s H vs Q E hr hcd h => ?_)
  · obtain ⟨i, rfl, _⟩ := h
    rfl
  obtain ⟨z, rfl, hz, q⟩ := h
  refine ⟨_, (pss_cons (ps_for PassesOwn.never rfl (pi_str (pv 0)) (pg_name (i := 1) sc_is_text.nd rfl (Or.inl rfl))
  (pss_one (ps_if (PW.pt (pw_and (pt_cmpR op_notIn_sign (pv 1) T.peBefore (by rfl)) (pw_and (pt_cmpR op_notIn_sign (pv 1) T.peBehind (by rfl)) (pw_and1 (pt_cmpR op_ne (pv 1) pe_str (nomark _))))))
  (pss_one (ps_ret pe_bl))
  pss_nil)))
  (pss_one (ps_ret pe_bl))), ?_⟩
  refine ⟨_, rfl, _, rfl, for_it walk_str (fun i σ H' => H' = H ∧ ∃ o, σ = [some (.str z), o]) ⟨rfl, _, rfl⟩ (fun _ _ _ _ _ => trivial) (fun i x σ H1 H2 hi hP hY => ?_) (fun σ H1 hP => ?_)⟩
  · obtain ⟨rfl, o, rfl⟩ := hP
    obtain ⟨rfl, c, hc, rfl⟩ := hY
    have ok := hz c (by rw [← Array.getElem?_toList] at hc; exact List.mem_of_getElem? hc)
    refine ⟨_, rfl, c, txBefore, rfl, rfl, _, rfl, iteN (fun h1 => ?_) (fun h1 => ?_)⟩
    · refine ⟨_, rfl, c, txBehind, rfl, rfl, _, rfl, iteN (fun h2 => ?_) (fun h2 => ?_)⟩
      · refine ⟨_, rfl, rfl, _, rfl, iteN (fun h3 => ?_) (fun h3 => ?_)⟩
        · exfalso
          rcases ok with ok | ok | ok
          · exact h1 ok
          · exact h2 ok
          · subst ok
            exact h3 (by decide +kernel)
        · exact ⟨rfl, _, rfl⟩
      · exact iteF ⟨rfl, _, rfl⟩
    · exact iteF ⟨rfl, _, rfl⟩
  · obtain ⟨rfl, o, rfl⟩ := hP
    exact q
/-! is_integer -/
def spIsInteger : Sp := fun vs H Q _ => ∃ v : V, vs = [v] ∧ isSc v = true ∧ Q (.bl (isI v && !isB v)) H
theorem sc_is_integer : FnScope ["value"] ["value"] (defScope s_is_integer) := ⟨rfl, rfl, rfl, by decide +kernel, rfl, by decide +kernel, by decide +kernel⟩
theorem ok_is_integer (T : Cn w K mg base) : C8.Cal P w K mg base 1 "is_integer" spIsInteger [] := by
  refine T.cal (i := 1) (d := d_is_integer) (k := 0) rfl rfl (by decide +kernel) rfl rfl sc_is_integer (fun _ _ _ _ _ _ us hl => match us, hl with | [_], _ => rfl) (fun vs H Q E h => ?_) (fun cdv A outer s H vs Q E hr hcd h => ?_)
  · obtain ⟨i, rfl, _⟩ := h
    rfl
  obtain ⟨v, rfl, hs, q⟩ := h
  refine ⟨_, (pss_one (ps_ret (pe_and (pe_callB call_isi (by rfl) (T.fre "isinstance" (by decide +kernel)) (by decide +kernel) (pa_cons (pv 0) (pa_cons (pe_bltn (v := .ty "int") (by rfl) (T.fre "int" (by decide +kernel)) (by decide +kernel) rfl) pa_nil))) (pe_one (pe_not (pe_callB call_isi (by rfl) (T.fre "isinstance" (by decide +kernel)) (by decide +kernel) (pa_cons (pv 0) (pa_cons (pe_bltn (v := .ty "bool") (by rfl) (T.fre "bool" (by decide +kernel)) (by decide +kernel) rfl) pa_nil)))))))), ?_⟩
  refine ⟨_, rfl, _, _, _, _, _, rfl, .ty _, tyx hs, kit_ty (kit_int _ hs), _, rfl, iteB (fun h1 => ?_) (fun h1 => ?_)⟩
  · refine ⟨_, rfl, _, _, _, _, _, rfl, .ty _, tyx hs, kit_ty (kit_bool _ hs), _, rfl, ?_⟩
    rw [h1] at q
    exact q
  · rw [h1] at q
    exact q
/-! is_value: of a value of the kind -/
def spIsValue : Sp := fun vs H Q _ => ∃ (k : Kd) (v : V), vs = [.str k.s, v] ∧ IsV k v ∧ Q (.bl true) H
theorem sc_is_value : FnScope ["kind", "value"] ["kind", "value"] (defScope s_is_value) := ⟨rfl, rfl, rfl, by decide +kernel, rfl, by decide +kernel, by decide +kernel⟩
theorem ok_is_value (T : Cn w K mg base) : C8.Cal P w K mg base 2 "is_value" spIsValue [] := by
  refine T.cal (i := 2) (d := d_is_value) (k := 1) rfl rfl (by decide +kernel) rfl rfl sc_is_value (fun _ _ _ _ _ _ us hl => match us, hl with | [_, _], _ => rfl) (fun vs H Q E h => ?_) (fun cdv A outer s H vs Q E hr hcd h => ?_)
  · obtain ⟨k, v, rfl, _⟩ := h
    rfl
  obtain ⟨k, v, rfl, hv, q⟩ := h
  have c1 := ok_is_integer (P := P) T
  have c2 := ok_is_text (P := P) T
  refine ⟨_, (pss_cons (ps_if (pt_cmpR op_eq (pv 0) pe_str (nomark _))
  (pss_one (ps_ret (pe_and (C8.pe_c c1 hr (by omega) rfl (pa_cons (pv 1) pa_nil)) (pe_one (pe_chain op_lt op_lt (pe_un un_neg T.peBound) (pv 1) T.peBound)))))
  pss_nil)
  (pss_cons (ps_if (pt_cmpR op_eq (pv 0) pe_str (nomark _))
  (pss_one (ps_ret (pe_callB call_isi (by rfl) (T.fre "isinstance" (by decide +kernel)) (by decide +kernel) (pa_cons (pv 1) (pa_cons (pe_bltn (v := .ty "bool") (by rfl) (T.fre "bool" (by decide +kernel)) (by decide +kernel) rfl) pa_nil)))))
  pss_nil)
  (pss_one (ps_ret (pe_and (pe_callB call_isi (by rfl) (T.fre "isinstance" (by decide +kernel)) (by decide +kernel) (pa_cons (pv 1) (pa_cons (pe_bltn (v := .ty "str") (by rfl) (T.fre "str" (by decide +kernel)) (by decide +kernel) rfl) pa_nil))) (pe_and (pe_cmpR op_le (pe_callB call_len_str (by rfl) (T.fre "len" (by decide +kernel)) (by decide +kernel) (pa_cons (pv 1) pa_nil)) T.peLongest (nomark _)) (pe_one (C8.pe_c c2 hr (by omega) rfl (pa_cons (pv 1) pa_nil))))))))), ?_⟩
  cases k with
  | int =>
    cases v with
    | int i =>
      refine ⟨_, rfl, rfl, _, rfl, iteD (fun _ => ?_) (fun h => absurd rfl h)⟩
      refine ⟨_, rfl, _, rfl, rfl, _, rfl, ?_⟩
      refine iteT ⟨_, rfl, _, rfl, _, _, rfl, rfl, _, rfl, iteD (fun _ => ⟨_, _, rfl, rfl, ?_⟩) (fun h => absurd hv.1 h)⟩
      show Q (V.bl (decide (i < 10 ^ 30))) H
      rw [decide_eq_true hv.2]
      exact q
    | _ => exact hv.elim
  | flag =>
    cases v with
    | bl i =>
      refine ⟨_, rfl, rfl, _, rfl, iteD (fun h => absurd h (by decide +kernel)) (fun _ => ?_)⟩
      refine ⟨_, rfl, rfl, _, rfl, iteD (fun _ => ?_) (fun h => absurd rfl h)⟩
      exact ⟨_, rfl, _, _, _, _, _, rfl, .ty _, .base (.bl _), kit_ty (show kitB "bool" "bool" = some true by decide +kernel), q⟩
    | _ => exact hv.elim
  | text =>
    cases v with
    | str i =>
      refine ⟨_, rfl, rfl, _, rfl, iteD (fun h => absurd h (by decide +kernel)) (fun _ => ?_)⟩
      refine ⟨_, rfl, rfl, _, rfl, iteD (fun h => absurd h (by decide +kernel)) (fun _ => ?_)⟩
      refine ⟨_, rfl, _, _, _, _, _, rfl, .ty _, .base (.str _), kit_ty (show kitB "str" "str" = some true by decide +kernel), _, rfl, iteT ?_⟩
      have h1 : i.length ≤ 200 := hv.1
      refine ⟨_, rfl, _, rfl, Nat.le_trans h1 (by rw [sizeLine_eq]; decide), _, _, rfl, rfl, _, rfl, iteD (fun _ => ?_) (fun h => absurd (by omega) h)⟩
      exact ⟨_, rfl, _, rfl, hv.2, q⟩
    | _ => exact hv.elim
/-! greatest_of: of "text" -/
def tildes : Str := Txt.mul "~" 200
def spGreatest : Sp := fun vs H Q _ => vs = [.str "text"] ∧ Q (.str tildes) H
theorem sc_greatest_of : FnScope ["kind"] ["kind"] (defScope s_greatest_of) := ⟨rfl, rfl, rfl, by decide +kernel, rfl, by decide +kernel, by decide +kernel⟩
theorem ok_greatest_of (T : Cn w K mg base) : C8.Cal P w K mg base 1 "greatest_of" spGreatest [] := by
  refine T.cal (i := 3) (d := d_greatest_of) (k := 0) rfl rfl (by decide +kernel) rfl rfl sc_greatest_of (fun _ _ _ _ _ _ us hl => match us, hl with | [_], _ => rfl) (fun vs H Q E h => ?_) (fun cdv A outer s H vs Q E hr hcd h => ?_)
  · obtain ⟨rfl, _⟩ := h
    rfl
  obtain ⟨rfl, q⟩ := h
  refine ⟨_, (pss_cons (ps_if (pt_cmpR op_eq (pv 0) pe_str (nomark _))
  (pss_one (ps_ret (pe_op op_sub T.peBound pe_int)))
  pss_nil)
  (pss_one (ps_ret (pe_ifExp (pt_cmpR op_eq (pv 0) pe_str (nomark _)) pe_bl (pe_op op_repS pe_str T.peLongest))))), ?_⟩
  refine ⟨_, rfl, rfl, _, rfl, iteD (fun h => absurd h (by decide +kernel)) (fun _ => ?_)⟩
  refine ⟨_, rfl, rfl, _, rfl, iteD (fun h => absurd h (by decide +kernel)) (fun _ => ?_)⟩
  exact ⟨_, _, rfl, rfl, by decide +kernel, by decide, by decide, q⟩
/-! _index_of -/
def RowAt (H : Hp) (v : V) (n : Str) : Prop := ∃ t r, v = .ref t ∧ H t = some (.tup (.str n :: r))
def ixV : Option Nat → V
  | some i => .int (i : Int)
  | none => .non
def spIndexOf (K : PySem.W.Frag) : Sp := fun vs H Q _ => ∃ (a : Addr) (rs : List V) (ns : List Str) (n : Str), vs = [.ref a, .str n] ∧ SqT K H a rs ∧ Paired (RowAt H) rs ns ∧ ns.length ≤ 16 ∧ Q (ixV (ixOf ns n)) H
theorem sc_u_index_of : FnScope ["rows", "name", "at"] ["rows", "name"] (defScope s_u_index_of) := ⟨rfl, rfl, rfl, by decide +kernel, rfl, by decide +kernel, by decide +kernel⟩
theorem ok_u_index_of (T : Cn w K mg base) : C8.Cal P w K mg base 1 "_index_of" (spIndexOf K) [] := by
  refine T.cal (i := 5) (d := d_u_index_of) (k := 0) rfl rfl (by decide +kernel) rfl rfl sc_u_index_of (fun _ _ _ _ _ _ us hl => match us, hl with | [_, _], _ => rfl) (fun vs H Q E h => ?_) (fun cdv A outer s H vs Q E hr hcd h => ?_)
  · obtain ⟨_, _, _, _, rfl, _⟩ := h
    rfl
  obtain ⟨a, rs, ns, n, rfl, ha, hp, hl, q⟩ := h
  refine ⟨_, (pss_cons (ps_for PassesOwn.never rfl (pi_range1 (by rfl) (T.fre "range" (by decide +kernel)) (pa_cons (pe_callB call_len_seq (by rfl) (T.fre "len" (by decide +kernel)) (by decide +kernel) (pa_cons (pv 0) pa_nil)) pa_nil)) (pg_name (i := 2) sc_u_index_of.nd rfl (Or.inl rfl))
  (pss_one (ps_if (pt_cmpR op_eq (pe_ix ix_tup (pe_ix ix_tup (pv 0) (pv 2) (fun _ _ => rfl)) pe_int (fun _ _ => rfl)) (pv 1) (nomark _))
  (pss_one (ps_ret (pv 2)))
  pss_nil)))
  (pss_one (ps_ret pe_non))), ?_⟩
  have lr : rs.length = ns.length := Paired.length hp
  refine ⟨_, rfl, _, _, rfl, .inr ha, _, rfl, by omega, by omega, ?_⟩
  refine for_range (lo := 0) (n := ((rs.length : Nat) : Int).toNat) (fun i σ H' => H' = H ∧ (∃ o, σ = [some (.ref a), some (.str n), o]) ∧ ∀ j, j < i → ns[j]? ≠ some n) ⟨rfl, ⟨_, rfl⟩, fun j hj => absurd hj (Nat.not_lt_zero j)⟩ (fun i σ H1 hi hP => ?_) (fun σ H1 hP => ?_)
  · obtain ⟨rfl, ⟨o, rfl⟩, hj⟩ := hP
    rw [Int.toNat_natCast] at hi
    obtain ⟨m, hm1, t, r, et, hm2⟩ := paired_get hp (List.getElem?_eq_getElem hi)
    refine ⟨_, rfl, _, rfl, _, _, _, _, rfl, rfl, ha, at_of (j := i) (by omega) (by rw [List.getElem?_eq_getElem hi, et]), ?_⟩
    refine ⟨_, _, _, _, rfl, rfl, .inl (.inl hm2), at_of (j := 0) rfl rfl, ?_⟩
    refine ⟨_, rfl, rfl, _, rfl, iteD (fun h => ?_) (fun h => ?_)⟩
    · refine ⟨_, rfl, ?_⟩
      have em : m = n := V.str.inj h
      subst em
      have e : ixOf ns m = some i := by
        unfold ixOf
        rw [List.findIdx?_eq_some_iff_getElem]
        obtain ⟨hlt, e1⟩ := List.getElem?_eq_some_iff.mp hm1
        refine ⟨hlt, by rw [e1]; exact decide_eq_true rfl, fun j hji z => ?_⟩
        have z2 : ns[j] = m := of_decide_eq_true z
        exact hj j hji (by rw [List.getElem?_eq_getElem (Nat.lt_trans hji hlt), z2])
      rw [e] at q
      show Q (V.int (0 + (i : Int))) H1
      rw [Int.zero_add]
      exact q
    · refine ⟨rfl, ⟨_, rfl⟩, fun j hji z => ?_⟩
      by_cases e : j = i
      · subst e
        rw [hm1] at z
        exact h (congrArg V.str (Option.some.inj z))
      · exact hj j (by omega) z
  · obtain ⟨rfl, ⟨o, rfl⟩, hj⟩ := hP
    rw [Int.toNat_natCast] at hj
    have e : ixOf ns n = none := by
      unfold ixOf
      rw [List.findIdx?_eq_none_iff]
      intro x hx
      refine decide_eq_false fun z => ?_
      subst z
      obtain ⟨j, hj1, hj2⟩ := List.getElem_of_mem hx
      exact hj j (by omega) (by rw [List.getElem?_eq_getElem hj1, hj2])
    rw [e] at q
    exact q
end
end Ms
namespace Ms
open PySem PySem.Spec PyProof.Rows L2
section
variable {P : Program} {w : World} {K : PySem.W.Frag} {mg : Str → Option Value} {base : Heap}
/-! the classes -/
theorem Cn.fo (T : Cn w K mg base) (i : Nat) {f : He.Fa} (h : fo[i]? = some f := by rfl) : f.ok K = true :=
  T.says.d.facts (List.mem_append_right _ (List.mem_append_right _ (List.mem_of_getElem? h)))
theorem Cn.shCls (T : Cn w K mg base) : Cls K (He.ga K "Shape") := He.cls_ok (T.fo 4)
theorem Cn.chCls (T : Cn w K mg base) : Cls K (He.ga K "Checker") := He.cls_ok (T.fo 5)
theorem Cn.shDims (T : Cn w K mg base) : NoAttr K (He.ga K "Shape") "dims" := He.noat_ok (T.fo 6)
theorem Cn.shAttrs (T : Cn w K mg base) : NoAttr K (He.ga K "Shape") "attrs" := He.noat_ok (T.fo 7)
theorem Cn.chShape (T : Cn w K mg base) : NoAttr K (He.ga K "Checker") "shape" := He.noat_ok (T.fo 8)
theorem Cn.chCount (T : Cn w K mg base) : NoAttr K (He.ga K "Checker") "count" := He.noat_ok (T.fo 9)
theorem fl_dims (d a : Addr) : (shFlds d a).lookup ("dims" : Str) = some (.ref d) := by
  unfold shFlds
  rw [lookup_putF, if_neg (by decide +kernel), lookup_putF, if_pos rfl]
theorem fl_attrs (d a : Addr) : (shFlds d a).lookup ("attrs" : Str) = some (.ref a) := by
  unfold shFlds
  rw [lookup_putF, if_pos rfl]
abbrev shC (K : PySem.W.Frag) : Addr := He.ga K "Shape"
theorem Paired.mapR {α β γ : Type} {F : α → β → Prop} {G : α → γ → Prop} (g : β → γ) (f : ∀ a b, F a b → G a (g b)) : ∀ {l : List α} {m : List β}, Paired F l m → Paired G l (m.map g)
  | _, _, .nil => .nil
  | _, _, .cons r t => .cons (f _ _ r) (Paired.mapR g f t)
/-! dim_index, attr_index -/
def spDimIx (K : PySem.W.Frag) : Sp := fun vs H Q _ => ∃ (p : Addr) (sh : Shp) (n : Str), vs = [.ref p, .str n] ∧ ShAt (shC K) H p sh ∧ Q (ixV (sh.dix n)) H
def spAttrIx (K : PySem.W.Frag) : Sp := fun vs H Q _ => ∃ (p : Addr) (sh : Shp) (n : Str), vs = [.ref p, .str n] ∧ ShAt (shC K) H p sh ∧ Q (ixV (sh.aix n)) H
theorem sc_dim_index : FnScope ["shape", "name"] ["shape", "name"] (defScope s_dim_index) := ⟨rfl, rfl, rfl, by decide +kernel, rfl, by decide +kernel, by decide +kernel⟩
theorem ok_dim_index (T : Cn w K mg base) : C8.Cal P w K mg base 2 "dim_index" (spDimIx K) [] := by
  refine T.cal (i := 6) (d := d_dim_index) (k := 1) rfl rfl (by decide +kernel) rfl rfl sc_dim_index (fun _ _ _ _ _ _ us hl => match us, hl with | [_, _], _ => rfl) (fun vs H Q E h => ?_) (fun cdv A outer s H vs Q E hr hcd h => ?_)
  · obtain ⟨_, _, _, rfl, _⟩ := h
    rfl
  obtain ⟨p, sh, n, rfl, S, q⟩ := h
  have c1 := ok_u_index_of (P := P) T
  refine ⟨_, (pss_one (ps_ret (C8.pe_c c1 hr (by omega) rfl (pa_cons (pe_fld (pv 0) rfl) (pa_cons (pv 1) pa_nil))))), ?_⟩
  obtain ⟨dx, d, a, ds, as, h1, h2, h3, h4, h5⟩ := S.ex
  refine ⟨_, rfl, _, _, _, _, _, rfl, h1, T.shCls, T.shDims, fl_dims d a, _, rfl, d, ds, (sh.dims.map fun z : Str × Int × Int × Int => z.1), n, rfl, .inl (.inl h2), Paired.mapR (fun z : Str × Int × Int × Int => z.1) ?_ h4, by rw [List.length_map]; exact S.len.1, q⟩
  intro x y z
  obtain ⟨t, e1, e2⟩ := z
  exact ⟨t, _, e1, e2⟩
theorem sc_attr_index : FnScope ["shape", "name"] ["shape", "name"] (defScope s_attr_index) := ⟨rfl, rfl, rfl, by decide +kernel, rfl, by decide +kernel, by decide +kernel⟩
theorem ok_attr_index (T : Cn w K mg base) : C8.Cal P w K mg base 2 "attr_index" (spAttrIx K) [] := by
  refine T.cal (i := 7) (d := d_attr_index) (k := 1) rfl rfl (by decide +kernel) rfl rfl sc_attr_index (fun _ _ _ _ _ _ us hl => match us, hl with | [_, _], _ => rfl) (fun vs H Q E h => ?_) (fun cdv A outer s H vs Q E hr hcd h => ?_)
  · obtain ⟨_, _, _, rfl, _⟩ := h
    rfl
  obtain ⟨p, sh, n, rfl, S, q⟩ := h
  have c1 := ok_u_index_of (P := P) T
  refine ⟨_, (pss_one (ps_ret (C8.pe_c c1 hr (by omega) rfl (pa_cons (pe_fld (pv 0) rfl) (pa_cons (pv 1) pa_nil))))), ?_⟩
  obtain ⟨dx, d, a, ds, as, h1, h2, h3, h4, h5⟩ := S.ex
  refine ⟨_, rfl, _, _, _, _, _, rfl, h1, T.shCls, T.shAttrs, fl_attrs d a, _, rfl, a, as, (sh.attrs.map fun z : Str × Kd => z.1), n, rfl, .inl (.inl h3), Paired.mapR (fun z : Str × Kd => z.1) ?_ h5, by rw [List.length_map]; exact S.len.2, q⟩
  intro x y z
  obtain ⟨t, e1, e2⟩ := z
  exact ⟨t, _, e1, e2⟩
/-! parts_of -/
def spPartsOf : Sp := fun vs H Q _ => ∃ (v : V) (e : Ex), vs = [v] ∧ ExAt H v e ∧ ∀ (l : Addr) (us : List V) (H' : Hp), Same H H' → H l = none → H' l = some (.lst us) → Paired (ExAt H) us e.parts → Q (.ref l) H'
theorem in_leaf {e : Ex} : inV (.str e.ws) vLeaves = e.leaf := by
  cases e with
  | n1 w a => exact in_leaves w
  | n2 w a b => exact in_leaves w
  | n3 w a b c => exact in_leaves w
  | val k v => exact (by decide +kernel : inV (.str "value") vLeaves = true)
  | attr n => exact (by decide +kernel : inV (.str "attr") vLeaves = true)
  | dim n => exact (by decide +kernel : inV (.str "dim") vLeaves = true)
theorem cut1 (x : V) (us : List V) (h : us.length ≤ 8) : cutV (x :: us) (some 1) none = us := by
  unfold cutV
  rw [show (some (1 : Int)) = some ((1 : Nat) : Int) from rfl, HT.sIx_nat, HT.sIx_none]
  rw [List.length_cons, Nat.min_eq_left (by omega)]
  show us.take (us.length + 1 - 1) = us
  exact List.take_of_length_le (by omega)
theorem Paired.len {α β : Type} {G : α → β → Prop} {l : List α} {m : List β} (h : Paired G l m) : l.length = m.length := Paired.length h
theorem parts_len (e : Ex) : e.parts.length ≤ 3 := by
  cases e with
  | n1 w a => exact (by decide : 1 ≤ 3)
  | n2 w a b => exact (by decide : 2 ≤ 3)
  | n3 w a b c => exact (by decide : 3 ≤ 3)
  | _ => exact (by decide : 0 ≤ 3)
theorem sc_parts_of : FnScope ["expression"] ["expression"] (defScope s_parts_of) := ⟨rfl, rfl, rfl, by decide +kernel, rfl, by decide +kernel, by decide +kernel⟩
theorem ok_parts_of (T : Cn w K mg base) : C8.Cal P w K mg base 1 "parts_of" spPartsOf [] := by
  refine T.cal (i := 8) (d := d_parts_of) (k := 0) rfl rfl (by decide +kernel) rfl rfl sc_parts_of (fun _ _ _ _ _ _ us hl => match us, hl with | [_], _ => rfl) (fun vs H Q E h => ?_) (fun cdv A outer s H vs Q E hr hcd h => ?_)
  · obtain ⟨_, _, rfl, _⟩ := h
    rfl
  obtain ⟨v, e, rfl, hx, q⟩ := h
  refine ⟨_, (pss_cons (ps_if (pt_cmpR op_in_seq (pe_ix ix_tup (pv 0) pe_int (fun _ _ => rfl)) (T.peRef "LEAVES" (by decide +kernel)) (by rfl))
  (pss_one (ps_ret (pe_lst pa_nil)))
  pss_nil)
  (pss_one (ps_ret (pe_callTy call_list_of (by rfl) (T.fre "list" (by decide +kernel)) (by decide +kernel) (pa_cons (pe_slice sl_tupA (pv 0) (po_some pe_int) po_none) pa_nil))))), ?_⟩
  obtain ⟨t, us, rfl, ht⟩ := hx.any
  refine ⟨_, rfl, _, _, _, _, rfl, rfl, .inl (.inl ht), at_of (j := 0) rfl rfl, _, _, rfl, .inr (T.tLeaves H), rfl, rfl, _, rfl, ?_⟩
  refine iteB (fun h1 => ?_) (fun h1 => ?_)
  · refine ⟨by decide, fun p hp => q p [] _ (Same.new hp) hp upd_same ?_⟩
    have hl : e.leaf = true := by rw [← in_leaf]; exact h1
    rw [Ex.parts_leaf hl]
    exact .nil
  · have hl : e.leaf = false := by rw [← in_leaf]; exact h1
    obtain ⟨t', us', et, ht', hp'⟩ := hx.node hl
    cases et
    rw [ht] at ht'
    have e2 : us = us' := (List.cons.inj (HO.tup.inj (Option.some.inj ht'))).2
    subst e2
    have l3 : us.length ≤ 3 := by rw [Paired.len hp']; exact parts_len e
    refine ⟨_, rfl, _, rfl, _, _, rfl, .inl (.inl ht), fun z => ?_, fun _ p hp => ?_⟩
    · exfalso
      have z1 := z.1
      rw [show (some (1 : Int)) = some ((1 : Nat) : Int) from rfl, HT.sIx_nat] at z1
      rw [List.length_cons] at z1
      omega
    · refine ⟨_, _, rfl, .inr (.inl (.inl upd_same)), fun l hl2 => ?_⟩
      have np : H l = none := by
        by_cases e : l = p
        · subst e; exact hp
        · rw [upd_ne e] at hl2; exact hl2
      rw [cut1 _ _ (by omega)] at hl2 ⊢
      exact q l us _ (Same.trans (Same.new hp) (Same.new hl2)) np upd_same hp'
end
end Ms
namespace Ms
open PySem PySem.Spec PyProof.Rows L2
section
variable {P : Program} {w : World} {K : PySem.W.Frag} {mg : Str → Option Value} {base : Heap}
theorem sk_scal {x y : V} (h : sk x y = true) : scal x y = true := by cases x <;> cases y <;> first | rfl | cases h
/-! compared -/
def spCompared : Sp := fun vs H Q _ => ∃ (w : Wd) (x y : V), vs = [.str w.s, x, y] ∧ sk x y = true ∧ w.isCmp = true ∧ Q (.bl (cmpV w x y)) H
theorem sc_compared : FnScope ["word", "a", "b"] ["word", "a", "b"] (defScope s_compared) := ⟨rfl, rfl, rfl, by decide +kernel, rfl, by decide +kernel, by decide +kernel⟩
theorem ok_compared (T : Cn w K mg base) : C8.Cal P w K mg base 1 "compared" spCompared [] := by
  refine T.cal (i := 16) (d := d_compared) (k := 0) rfl rfl (by decide +kernel) rfl rfl sc_compared (fun _ _ _ _ _ _ us hl => match us, hl with | [_, _, _], _ => rfl) (fun vs H Q E h => ?_) (fun cdv A outer s H vs Q E hr hcd h => ?_)
  · obtain ⟨_, _, _, rfl, _⟩ := h
    rfl
  obtain ⟨w, x, y, rfl, hs, hc, q⟩ := h
  have hu : _ + 1 < cLine := hu_of hr
  refine ⟨_, (pss_cons (ps_if (pt_cmpR op_eq (pv 0) pe_str (nomark _))
  (pss_one (ps_ret (pe_cmpR op_eq (pv 1) (pv 2) (nomark _))))
  pss_nil)
  (pss_cons (ps_if (pt_cmpR op_eq (pv 0) pe_str (nomark _))
  (pss_one (ps_ret (pe_cmpR op_ne (pv 1) (pv 2) (nomark _))))
  pss_nil)
  (pss_cons (ps_if (pt_cmpR op_eq (pv 0) pe_str (nomark _))
  (pss_one (ps_ret (pe_cmpR (op_ltK hu) (pv 1) (pv 2) (nomark _))))
  pss_nil)
  (pss_cons (ps_if (pt_cmpR op_eq (pv 0) pe_str (nomark _))
  (pss_one (ps_ret (pe_cmpR (op_leK hu) (pv 1) (pv 2) (nomark _))))
  pss_nil)
  (pss_one (ps_ret (pe_ifExp (pt_cmpR op_eq (pv 0) pe_str (nomark _)) (pe_cmpR (op_gtK hu) (pv 1) (pv 2) (nomark _)) (pe_cmpR (op_geK hu) (pv 1) (pv 2) (nomark _))))))))), ?_⟩
  refine ⟨_, rfl, rfl, _, rfl, iteD (fun h => ?_) (fun h1 => ?_)⟩
  · obtain rfl := wd_eq (v := .eq) h
    exact ⟨_, rfl, _, rfl, sk_scal hs, q⟩
  refine ⟨_, rfl, rfl, _, rfl, iteD (fun h => ?_) (fun h2 => ?_)⟩
  · obtain rfl := wd_eq (v := .ne) h
    exact ⟨_, rfl, _, rfl, sk_scal hs, q⟩
  refine ⟨_, rfl, rfl, _, rfl, iteD (fun h => ?_) (fun h3 => ?_)⟩
  · obtain rfl := wd_eq (v := .lt) h
    exact ⟨_, rfl, _, rfl, hs, q⟩
  refine ⟨_, rfl, rfl, _, rfl, iteD (fun h => ?_) (fun h4 => ?_)⟩
  · obtain rfl := wd_eq (v := .le) h
    exact ⟨_, rfl, _, rfl, hs, q⟩
  refine ⟨_, rfl, rfl, _, rfl, iteD (fun h => ?_) (fun h5 => ?_)⟩
  · obtain rfl := wd_eq (v := .gt) h
    exact ⟨_, rfl, _, rfl, hs, q⟩
  · have e : w = .ge := by
      cases w <;> first
        | rfl
        | (cases hc; done)
        | exact absurd rfl h1
        | exact absurd rfl h2
        | exact absurd rfl h3
        | exact absurd rfl h4
        | exact absurd rfl h5
    subst e
    exact ⟨_, rfl, _, rfl, hs, q⟩
/-! decided -/
def isOB : V → Bool
  | .non => true
  | .bl _ => true
  | _ => false
theorem scal_ob {x : V} {b : Bool} (h : isOB x = true) : scal x (.bl b) = true := by cases x <;> first | rfl | cases h
def spDecided : Sp := fun vs H Q _ => ∃ (w : Wd) (x y : V), vs = [.str w.s, x, y] ∧ (w = .and ∨ w = .or) ∧ isOB x = true ∧ isOB y = true ∧ Q (decV (decide (w = .or)) x y) H
theorem sc_decided : FnScope ["word", "a", "b", "ends"] ["word", "a", "b"] (defScope s_decided) := ⟨rfl, rfl, rfl, by decide +kernel, rfl, by decide +kernel, by decide +kernel⟩
theorem ok_decided (T : Cn w K mg base) : C8.Cal P w K mg base 1 "decided" spDecided [] := by
  refine T.cal (i := 17) (d := d_decided) (k := 0) rfl rfl (by decide +kernel) rfl rfl sc_decided (fun _ _ _ _ _ _ us hl => match us, hl with | [_, _, _], _ => rfl) (fun vs H Q E h => ?_) (fun cdv A outer s H vs Q E hr hcd h => ?_)
  · obtain ⟨_, _, _, rfl, _⟩ := h
    rfl
  obtain ⟨w, x, y, rfl, hw, hx, hy, q⟩ := h
  refine ⟨_, (pss_cons (ps_set (i := 3) sc_decided.nd rfl (Or.inl rfl) (pe_cmpR op_eq (pv 0) pe_str (nomark _)))
  (pss_cons (ps_if (PW.pt (pw_or (pt_cmpR op_eq (pv 1) (pv 3) (nomark _)) (pw_or1 (pt_cmpR op_eq (pv 2) (pv 3) (nomark _)))))
  (pss_one (ps_ret (pv 3)))
  pss_nil)
  (pss_cons (ps_if (PW.pt (pw_or (pt_cmpR op_isN (pv 1) pe_non (nomark _)) (pw_or1 (pt_cmpR op_isN (pv 2) pe_non (nomark _)))))
  (pss_one (ps_ret pe_non))
  pss_nil)
  (pss_one (ps_ret (pe_not (pv 3))))))), ?_⟩
  refine ⟨_, rfl, rfl, ?_⟩
  have ew : decide (V.str w.s = V.str (Str.ofString "or")) = decide (w = .or) := wd_str (v := .or)
  rw [ew]
  generalize decide (w = .or) = en at q ⊢
  unfold decV at q
  refine ⟨_, rfl, _, rfl, scal_ob hx, _, rfl, iteD (fun h1 => ?_) (fun h1 => ?_)⟩
  · refine ⟨_, rfl, ?_⟩
    rw [if_pos (.inl h1)] at q
    exact q
  refine ⟨_, rfl, _, rfl, scal_ob hy, _, rfl, iteD (fun h2 => ?_) (fun h2 => ?_)⟩
  · refine ⟨_, rfl, ?_⟩
    rw [if_pos (.inr h2)] at q
    exact q
  rw [if_neg (fun z => z.elim h1 h2)] at q
  refine ⟨_, rfl, rfl, _, rfl, iteD (fun h3 => ?_) (fun h3 => ?_)⟩
  · rw [if_pos (.inl h3)] at q
    exact q
  refine ⟨_, rfl, rfl, _, rfl, iteD (fun h4 => ?_) (fun h4 => ?_)⟩
  · rw [if_pos (.inr h4)] at q
    exact q
  rw [if_neg (fun z => z.elim h3 h4)] at q
  exact ⟨_, rfl, _, rfl, q⟩
/-! _arithmetic of expressions -/
def Bd (i : Int) : Prop := -(10 ^ 30) < i ∧ i < 10 ^ 30
theorem Bd.nat {i : Int} (h : Bd i) : i.natAbs < 2 ^ 100 := by
  obtain ⟨a, b⟩ := h
  have e : (10 : Int) ^ 30 < 2 ^ 100 := by decide
  omega
def spAri : Sp := fun vs H Q _ => ∃ (w : Wd) (i j : Int), vs = [.str w.s, .int i, .int j] ∧ w.isAri = true ∧ Bd i ∧ Bd j ∧ Q (ariV w i j) H
theorem sc_arithmetic_expressions : FnScope ["word", "a", "b"] ["word", "a", "b"] (defScope s_arithmetic_expressions) := ⟨rfl, rfl, rfl, by decide +kernel, rfl, by decide +kernel, by decide +kernel⟩
theorem ok_arithmetic_expressions (T : Cn w K mg base) : C8.Cal P w K mg base 2 "arithmetic_expressions" spAri [] := by
  refine T.cal (i := 15) (d := d_arithmetic_expressions) (k := 1) rfl rfl (by decide +kernel) rfl rfl sc_arithmetic_expressions (fun _ _ _ _ _ _ us hl => match us, hl with | [_, _, _], _ => rfl) (fun vs H Q E h => ?_) (fun cdv A outer s H vs Q E hr hcd h => ?_)
  · obtain ⟨_, _, _, rfl, _⟩ := h
    rfl
  obtain ⟨w, i, j, rfl, hw, hi, hj, q⟩ := h
  have c1 := ok_bounded (P := P) T
  refine ⟨_, (pss_cons (ps_if (pt_cmpR op_eq (pv 0) pe_str (nomark _))
  (pss_one (ps_ret (C8.pe_c c1 hr (by omega) rfl (pa_cons (pe_op op_add (pv 1) (pv 2)) pa_nil))))
  pss_nil)
  (pss_cons (ps_if (pt_cmpR op_eq (pv 0) pe_str (nomark _))
  (pss_one (ps_ret (C8.pe_c c1 hr (by omega) rfl (pa_cons (pe_op op_sub (pv 1) (pv 2)) pa_nil))))
  pss_nil)
  (pss_cons (ps_if (pt_cmpR op_eq (pv 0) pe_str (nomark _))
  (pss_one (ps_ret (C8.pe_c c1 hr (by omega) rfl (pa_cons (pe_op op_mulW (pv 1) (pv 2)) pa_nil))))
  pss_nil)
  (pss_cons (ps_if (pt_cmpR op_eq (pv 2) pe_int (nomark _))
  (pss_one (ps_ret pe_non))
  pss_nil)
  (pss_one (ps_ret (pe_ifExp (pt_cmpR op_eq (pv 0) pe_str (nomark _)) (C8.pe_c c1 hr (by omega) rfl (pa_cons (pe_op op_fdivB (pv 1) (pv 2)) pa_nil)) (C8.pe_c c1 hr (by omega) rfl (pa_cons (pe_op op_modN (pv 1) (pv 2)) pa_nil))))))))), ?_⟩
  refine ⟨_, rfl, rfl, _, rfl, iteD (fun h => ?_) (fun h1 => ?_)⟩
  · obtain rfl := wd_eq (v := .add) h
    exact ⟨_, rfl, _, rfl, _, _, rfl, rfl, _, rfl, q⟩
  refine ⟨_, rfl, rfl, _, rfl, iteD (fun h => ?_) (fun h2 => ?_)⟩
  · obtain rfl := wd_eq (v := .sub) h
    exact ⟨_, rfl, _, rfl, _, _, rfl, rfl, _, rfl, q⟩
  refine ⟨_, rfl, rfl, _, rfl, iteD (fun h => ?_) (fun h3 => ?_)⟩
  · obtain rfl := wd_eq (v := .mul) h
    exact ⟨_, rfl, _, rfl, _, _, rfl, rfl, wide_mul hi.nat hj.nat (by decide) (by decide) (by decide), _, rfl, q⟩
  refine ⟨_, rfl, rfl, _, rfl, iteD (fun h => ?_) (fun h4 => ?_)⟩
  · have e0 : j = 0 := V.int.inj h
    have e : ariV w i j = .non := by
      cases w <;> first
        | (cases hw; done)
        | exact absurd rfl h1
        | exact absurd rfl h2
        | exact absurd rfl h3
        | exact if_pos e0
    rw [e] at q
    exact q
  have hj0 : j ≠ 0 := fun z => h4 (congrArg V.int z)
  refine ⟨_, rfl, rfl, _, rfl, iteD (fun h => ?_) (fun h5 => ?_)⟩
  · obtain rfl := wd_eq (v := .div) h
    have e : ariV .div i j = bndV (i.fdiv j) := if_neg hj0
    rw [e] at q
    exact ⟨_, rfl, _, rfl, _, _, rfl, rfl, ⟨hj0, Nat.lt_trans hj.nat (by decide)⟩, _, rfl, q⟩
  · have e : ariV w i j = bndV (i.fmod j) := by
      cases w <;> first
        | (cases hw; done)
        | exact absurd rfl h1
        | exact absurd rfl h2
        | exact absurd rfl h3
        | exact absurd rfl h5
        | exact if_neg hj0
    rw [e] at q
    exact ⟨_, rfl, _, rfl, _, _, rfl, rfl, hj0, _, rfl, q⟩
/-! _single of expressions -/
def spSgl : Sp := fun vs H Q _ => ∃ (w : Wd) (k r : Kd) (x : V), vs = [.str w.s, x] ∧ w ≠ .miss ∧ sig w [k] = some r ∧ IsV k x ∧ Q (sglV w x) H
theorem sc_single_expressions : FnScope ["word", "value"] ["word", "value"] (defScope s_single_expressions) := ⟨rfl, rfl, rfl, by decide +kernel, rfl, by decide +kernel, by decide +kernel⟩
theorem ok_single_expressions (T : Cn w K mg base) : C8.Cal P w K mg base 1 "single_expressions" spSgl [] := by
  refine T.cal (i := 18) (d := d_single_expressions) (k := 0) rfl rfl (by decide +kernel) rfl rfl sc_single_expressions (fun _ _ _ _ _ _ us hl => match us, hl with | [_, _], _ => rfl) (fun vs H Q E h => ?_) (fun cdv A outer s H vs Q E hr hcd h => ?_)
  · obtain ⟨_, _, _, _, rfl, _⟩ := h
    rfl
  obtain ⟨w, k, r, x, rfl, hm, hg, hx, q⟩ := h
  refine ⟨_, (pss_cons (ps_if (pt_cmpR op_eq (pv 0) pe_str (nomark _))
  (pss_one (ps_ret (pe_un un_neg (pv 1))))
  pss_nil)
  (pss_cons (ps_if (pt_cmpR op_eq (pv 0) pe_str (nomark _))
  (pss_one (ps_ret (pe_callB call_abs (by rfl) (T.fre "abs" (by decide +kernel)) (by decide +kernel) (pa_cons (pv 1) pa_nil))))
  pss_nil)
  (pss_one (ps_ret (pe_ifExp (pt_cmpR op_eq (pv 0) pe_str (nomark _)) (pe_not (pv 1)) (pe_callB call_len_str (by rfl) (T.fre "len" (by decide +kernel)) (by decide +kernel) (pa_cons (pv 1) pa_nil))))))), ?_⟩
  refine ⟨_, rfl, rfl, _, rfl, iteD (fun h => ?_) (fun h1 => ?_)⟩
  · obtain rfl := wd_eq (v := .neg) h
    cases k <;> cases hg
    cases x with
    | int i => exact ⟨_, rfl, _, rfl, q⟩
    | _ => exact hx.elim
  refine ⟨_, rfl, rfl, _, rfl, iteD (fun h => ?_) (fun h2 => ?_)⟩
  · obtain rfl := wd_eq (v := .abs) h
    cases k <;> cases hg
    cases x with
    | int i => exact ⟨_, rfl, _, rfl, q⟩
    | _ => exact hx.elim
  refine ⟨_, rfl, rfl, _, rfl, iteD (fun h => ?_) (fun h3 => ?_)⟩
  · obtain rfl := wd_eq (v := .not) h
    cases k <;> cases hg
    cases x with
    | bl i => exact ⟨_, rfl, _, rfl, q⟩
    | _ => exact hx.elim
  · have e : w = .len := by
      cases w <;> first
        | rfl
        | exact absurd rfl h1
        | exact absurd rfl h2
        | exact absurd rfl h3
        | exact absurd rfl hm
        | (cases k <;> cases hg)
    subst e
    cases k <;> cases hg
    cases x with
    | str i => exact ⟨_, rfl, _, rfl, Nat.le_trans hx.1 (by rw [sizeLine_eq]; decide), q⟩
    | _ => exact hx.elim
end
end Ms
namespace Ms
open PySem PySem.Spec PyProof.Rows L2
section
variable {P : Program} {w : World} {K : PySem.W.Frag} {mg : Str → Option Value} {base : Heap}
/-! _strict -/
def spStrict (K : PySem.W.Frag) : Sp := fun vs H Q _ => ∃ (w : Wd) (l : Addr) (rs : List V) (ks : List Kd) (k : Kd), vs = [.str w.s, .ref l] ∧ SqL K H l rs ∧ w.strict = true ∧ sig w ks = some k ∧ Paired IsV ks rs ∧ Q (strV w rs) H
theorem sig_one {w : Wd} {a k : Kd} (h : sig w [a] = some k) : w.isAri = false ∧ w.isCmp = false := by
  cases w <;> first
    | exact ⟨rfl, rfl⟩
    | (cases a <;> cases h)
theorem sig_len {w : Wd} {ks : List Kd} {k : Kd} (h : sig w ks = some k) (hs : w.strict = true) : (∃ a, ks = [a]) ∨ ∃ a b, ks = [a, b] := by
  unfold sig at h
  split at h <;> first
    | exact .inl ⟨_, rfl⟩
    | exact .inr ⟨_, _, rfl⟩
    | (cases hs; done)
    | (cases h; done)
theorem sc_u_strict : FnScope ["word", "values", "text"] ["word", "values"] (defScope s_u_strict) := ⟨rfl, rfl, rfl, by decide +kernel, rfl, by decide +kernel, by decide +kernel⟩
theorem ok_u_strict (T : Cn w K mg base) : C8.Cal P w K mg base 3 "_strict" (spStrict K) [] := by
  refine T.cal (i := 19) (d := d_u_strict) (k := 2) rfl rfl (by decide +kernel) rfl rfl sc_u_strict (fun _ _ _ _ _ _ us hl => match us, hl with | [_, _], _ => rfl) (fun vs H Q E h => ?_) (fun cdv A outer s H vs Q E hr hcd h => ?_)
  · obtain ⟨_, _, _, _, _, rfl, _⟩ := h
    rfl
  obtain ⟨w, l, rs, ks, k, rfl, hl, hs, hg, hp, q⟩ := h
  have c1 := ok_single_expressions (P := P) T
  have c2 := ok_arithmetic_expressions (P := P) T
  have c3 := ok_compared (P := P) T
  refine ⟨_, (pss_cons (ps_if (pt_cmpR op_eq (pe_callB call_len_seq (by rfl) (T.fre "len" (by decide +kernel)) (by decide +kernel) (pa_cons (pv 1) pa_nil)) pe_int (nomark _))
  (pss_one (ps_ret (C8.pe_c c1 hr (by omega) rfl (pa_cons (pv 0) (pa_cons (pe_ix ix_list (pv 1) pe_int (fun _ _ => rfl)) pa_nil)))))
  pss_nil)
  (pss_cons (ps_if (pt_cmpR op_in_seq (pv 0) (T.peRef "ARITHMETIC" (by decide +kernel)) (by rfl))
  (pss_one (ps_ret (C8.pe_c c2 hr (by omega) rfl (pa_cons (pv 0) (pa_cons (pe_ix ix_list (pv 1) pe_int (fun _ _ => rfl)) (pa_cons (pe_ix ix_list (pv 1) pe_int (fun _ _ => rfl)) pa_nil))))))
  pss_nil)
  (pss_cons (ps_if (pt_cmpR op_in_seq (pv 0) (T.peRef "COMPARISONS" (by decide +kernel)) (by rfl))
  (pss_one (ps_ret (C8.pe_c c3 hr (by omega) rfl (pa_cons (pv 0) (pa_cons (pe_ix ix_list (pv 1) pe_int (fun _ _ => rfl)) (pa_cons (pe_ix ix_list (pv 1) pe_int (fun _ _ => rfl)) pa_nil))))))
  pss_nil)
  (pss_cons (ps_set (i := 2) sc_u_strict.nd rfl (Or.inl rfl) (pe_op op_add_str (pe_ix ix_list (pv 1) pe_int (fun _ _ => rfl)) (pe_ix ix_list (pv 1) pe_int (fun _ _ => rfl))))
  (pss_one (ps_ret (pe_ifExp (pt_cmpR op_le (pe_callB call_len_str (by rfl) (T.fre "len" (by decide +kernel)) (by decide +kernel) (pa_cons (pv 2) pa_nil)) T.peLongest (nomark _)) (pv 2) pe_non))))))), ?_⟩
  have lr : ks.length = rs.length := Paired.length hp
  rcases sig_len hg hs with ⟨a, rfl⟩ | ⟨a, b, rfl⟩
  · cases hp with
    | cons r t =>
      cases t
      rename_i x
      refine ⟨_, rfl, _, _, rfl, .inl hl, rfl, _, rfl, iteD (fun _ => ?_) (fun h => absurd rfl h)⟩
      refine ⟨_, rfl, _, rfl, _, _, _, _, rfl, rfl, hl, at_of (j := 0) rfl rfl, w, a, k, x, rfl, ?_, hg, r, q⟩
      intro e
      subst e
      cases hs
  · cases hp with
    | cons r t =>
      cases t with
      | cons r2 t2 =>
        cases t2
        rename_i x y
        refine ⟨_, rfl, _, _, rfl, .inl hl, rfl, _, rfl, iteD (fun h => absurd h (by show ¬ V.int ((2 : Nat) : Int) = V.int 1; decide)) (fun _ => ?_)⟩
        refine ⟨_, rfl, _, _, rfl, .inr (T.tArith H), rfl, rfl, _, rfl, ?_⟩
        show if inV (V.str w.s) vArith = true then _ else _
        rw [in_arith]
        refine iteB (fun h1 => ?_) (fun h1 => ?_)
        · have ek : a = .int ∧ b = .int := by
            cases w <;> first
              | (cases h1; done)
              | (cases a <;> cases b <;> first | exact ⟨rfl, rfl⟩ | (cases hg; done))
          obtain ⟨rfl, rfl⟩ := ek
          obtain ⟨i, rfl, i1, i2⟩ := isV_int r
          obtain ⟨j, rfl, j1, j2⟩ := isV_int r2
          have e : strV w [.int i, .int j] = ariV w i j := by
            show (if w.isAri = true then ariV w i j else _) = _
            rw [if_pos h1]
          rw [e] at q
          exact ⟨_, rfl, _, rfl, _, _, _, _, rfl, rfl, hl, at_of (j := 0) rfl rfl, _, rfl, _, _, _, _, rfl, rfl, hl, at_of (j := 1) rfl rfl, w, i, j, rfl, h1, ⟨i1, i2⟩, ⟨j1, j2⟩, q⟩
        refine ⟨_, rfl, _, _, rfl, .inr (T.tComp H), rfl, rfl, _, rfl, ?_⟩
        show if inV (V.str w.s) vComp = true then _ else _
        rw [in_comp]
        refine iteB (fun h2 => ?_) (fun h2 => ?_)
        · have ek : a = b := by
            cases w <;> first
              | (cases h2; done)
              | (cases a <;> cases b <;> first | rfl | (cases hg; done))
          subst ek
          have e : strV w [x, y] = .bl (cmpV w x y) := by
            show (if w.isAri = true then _ else if w.isCmp = true then V.bl (cmpV w x y) else _) = _
            rw [if_neg (by rw [h1]; exact Bool.false_ne_true), if_pos h2]
          rw [e] at q
          exact ⟨_, rfl, _, rfl, _, _, _, _, rfl, rfl, hl, at_of (j := 0) rfl rfl, _, rfl, _, _, _, _, rfl, rfl, hl, at_of (j := 1) rfl rfl, w, x, y, rfl, r.sk r2, h2, q⟩
        · have ek : a = .text ∧ b = .text := by
            cases w <;> first
              | (cases hs; done)
              | (cases h1; done)
              | (cases h2; done)
              | (cases a <;> cases b <;> first | exact ⟨rfl, rfl⟩ | (cases hg; done))
          obtain ⟨rfl, rfl⟩ := ek
          obtain ⟨s1, rfl, i1, i2⟩ := isV_text r
          obtain ⟨s2, rfl, j1, j2⟩ := isV_text r2
          have e : strV w [.str s1, .str s2] = if s1.length + s2.length ≤ 200 then .str (s1 ++ s2) else .non := by
            show (if w.isAri = true then _ else if w.isCmp = true then _ else if s1.length + s2.length ≤ 200 then V.str (s1 ++ s2) else .non) = _
            rw [if_neg (by rw [h1]; exact Bool.false_ne_true), if_neg (by rw [h2]; exact Bool.false_ne_true)]
          rw [e] at q
          have la : (s1 ++ s2).length = s1.length + s2.length := by
            show (s1.cps ++ s2.cps).size = _
            rw [Array.size_append]
            rfl
          refine ⟨_, rfl, _, _, _, _, rfl, rfl, hl, at_of (j := 0) rfl rfl, _, rfl, _, _, _, _, rfl, rfl, hl, at_of (j := 1) rfl rfl, _, _, rfl, rfl, ?_, ?_⟩
          · rw [sizeLine_eq]; omega
          refine ⟨_, rfl, _, rfl, ?_, _, _, rfl, rfl, _, rfl, iteD (fun h => ?_) (fun h => ?_)⟩
          · rw [la, sizeLine_eq]; omega
          · rw [la] at h
            rw [if_pos (by omega)] at q
            exact ⟨_, rfl, q⟩
          · rw [la] at h
            rw [if_neg (by omega)] at q
            exact q
end
end Ms
namespace Ms
open PySem PySem.Spec PyProof.Rows L2
theorem Same.put {H H1 : Hp} {D : Addr} {o : HO} (s : Same H H1) (h : H D = none) : Same H (upd H1 D o) := fun b u e => by
  rw [upd_ne (ne_of_none e h)]
  exact s b u e
theorem Same.none {H H1 : Hp} {D : Addr} (s : Same H H1) (h : H1 D = none) : H D = none := s.free h
theorem not_whole {x : V} {us : List V} : ¬ (HT.sIx (x :: us).length 0 (some 1) = 0 ∧ HT.sIx (x :: us).length (x :: us).length none = (x :: us).length) := by
  intro z
  have z1 := z.1
  rw [show (some (1 : Int)) = some ((1 : Nat) : Int) from rfl, HT.sIx_nat, List.length_cons] at z1
  omega
theorem flat_sc {x : V} (h : isSc x = true) : flatV x = true := by cases x <;> first | rfl | cases h
theorem IsO.sc {k : Kd} {x : V} (h : IsO k x) : isSc x = true := by
  rcases h with h | h
  · rw [h]; rfl
  · exact h.sc
theorem inV_non {xs : List V} (h : ∀ x ∈ xs, isSc x = true) : inV .non xs = decide (V.non ∈ xs) := by
  unfold inV
  by_cases m : V.non ∈ xs
  · rw [decide_eq_true m]
    exact List.any_eq_true.mpr ⟨_, m, rfl⟩
  · rw [decide_eq_false m]
    refine List.any_eq_false.mpr fun y hy z => m ?_
    have hs := h y hy
    cases y with
    | non => exact hy
    | bl b => cases z
    | int b => cases z
    | str b => cases z
    | _ => cases hs
theorem Paired.memR {α β : Type} {G : α → β → Prop} : ∀ {l : List α} {m : List β} {b : β}, Paired G l m → b ∈ m → ∃ a, a ∈ l ∧ G a b
  | _, _, b, .cons r t, h => by
    rcases List.mem_cons.mp h with e | h
    · rw [e]; exact ⟨_, List.mem_cons_self, r⟩
    · obtain ⟨a, h1, h2⟩ := Paired.memR t h
      exact ⟨a, List.mem_cons_of_mem _ h1, h2⟩
theorem sz2 : 2 ≤ sizeLine := by rw [sizeLine_eq]; decide
theorem ne_av : ¬ V.str (Str.ofString "attr") = V.str (Str.ofString "value") := by decide +kernel
theorem ne_dv : ¬ V.str (Str.ofString "dim") = V.str (Str.ofString "value") := by decide +kernel
theorem ne_da : ¬ V.str (Str.ofString "dim") = V.str (Str.ofString "attr") := by decide +kernel
section
variable {P : Program} {w : World} {K : PySem.W.Frag} {mg : Str → Option Value} {base : Heap}
/-! value_of -/
def spValueOf (K : PySem.W.Frag) (n : Nat) : Sp := fun vs H Q _ => ∃ (v : V) (p pl va : Addr) (e : Ex) (k : Kd) (sh : Shp) (ps : List Int) (us : List V), vs = [v, .ref p, .ref pl, .ref va] ∧ ExAt H v e ∧ e.ht < n ∧ ShAt (shC K) H p sh ∧ HasK sh e k ∧
  SqT K H pl (ps.map V.int) ∧ SqT K H va us ∧ CellOk sh ps us ∧ ∀ H', Same H H' → Q (evE sh ps us e) H'
theorem sc_value_of : FnScope ["expression", "shape", "place", "values", "word", "results", "part"] ["expression", "shape", "place", "values"] (defScope s_value_of) := ⟨rfl, rfl, rfl, by decide +kernel, rfl, by decide +kernel, by decide +kernel⟩
theorem ok_value_of (T : Cn w K mg base) : ∀ n, C8.Cal P w K mg base (n + 4) "value_of" (spValueOf K n) []
  | 0 => by
    have no : ∀ vs H Q E, ¬ spValueOf K 0 vs H Q E := fun vs H Q E h => by
      obtain ⟨_, _, _, _, _, _, _, _, _, _, _, h, _⟩ := h
      exact absurd h (Nat.not_lt_zero _)
    exact T.cal (i := 20) (d := d_value_of) (k := 3) rfl rfl (by decide +kernel) rfl rfl sc_value_of (fun _ _ _ _ _ _ us hl => match us, hl with | [_, _, _, _], _ => rfl) (fun vs H Q E h => (no _ _ _ _ h).elim) (fun cdv A outer s H vs Q E hr hcd h => (no _ _ _ _ h).elim)
  | n + 1 => by
    have c0 := ok_value_of T n
    refine T.cal (i := 20) (d := d_value_of) (k := (n+4)) rfl rfl (by decide +kernel) rfl rfl sc_value_of (fun _ _ _ _ _ _ us hl => match us, hl with | [_, _, _, _], _ => rfl) (fun vs H Q E h => ?_) (fun cdv A outer s H vs Q E hr hcd h => ?_)
    · obtain ⟨_, _, _, _, _, _, _, _, _, rfl, _⟩ := h
      rfl
    obtain ⟨v, p, pl, va, e, k, sh, ps, us, rfl, hx, hn, S, hk, hpl, hva, cok, q⟩ := h
    have c1 := ok_attr_index (P := P) T
    have c2 := ok_dim_index (P := P) T
    have c3 := ok_decided (P := P) T
    have c4 := ok_u_strict (P := P) T
    refine ⟨_, (pss_cons (ps_set (i := 4) sc_value_of.nd rfl (Or.inl rfl) (pe_ix ix_tup (pv 0) pe_int (fun _ _ => rfl)))
  (pss_cons (ps_if (pt_cmpR op_eq (pv 4) pe_str (nomark _))
  (pss_one (ps_ret (pe_ix ix_tup (pv 0) pe_int (fun _ _ => rfl))))
  pss_nil)
  (pss_cons (ps_if (pt_cmpR op_eq (pv 4) pe_str (nomark _))
  (pss_one (ps_ret (pe_ix ix_tup (pv 3) (C8.pe_c c1 hr (by omega) rfl (pa_cons (pv 1) (pa_cons (pe_ix ix_tup (pv 0) pe_int (fun _ _ => rfl)) pa_nil))) (fun _ _ => rfl))))
  pss_nil)
  (pss_cons (ps_if (pt_cmpR op_eq (pv 4) pe_str (nomark _))
  (pss_one (ps_ret (pe_ix ix_tup (pv 2) (C8.pe_c c2 hr (by omega) rfl (pa_cons (pv 1) (pa_cons (pe_ix ix_tup (pv 0) pe_int (fun _ _ => rfl)) pa_nil))) (fun _ _ => rfl))))
  pss_nil)
  (pss_cons (ps_setLc (i := 5) (own := [("part", 6)]) (by rfl) sc_value_of.nd rfl rfl (sw_true rfl rfl rfl (by decide +kernel)) (pi_tup (pe_slice sl_tupA (pv 0) (po_some pe_int) po_none)) (blkOk_by (own := [("part", 6)]) (N := ["expression", "shape", "place", "values", "word", "results", "part"]) (sc := defScope s_value_of) (by decide +kernel)) (fun _ _ _ _ _ => (pg_name (i := 6) sc_value_of.nd rfl (Or.inl rfl))) (fun _ _ _ _ _ => pts_nil) (fun _ _ _ _ _ => (C8.pe_c c0 hr (by omega) rfl (pa_cons (pv 6) (pa_cons (pv 1) (pa_cons (pv 2) (pa_cons (pv 3) pa_nil)))))))
  (pss_cons (ps_if (pt_cmpR op_eq (pv 4) pe_str (nomark _))
  (pss_one (ps_ret (pe_cmpR op_isN (pe_ix ix_list (pv 5) pe_int (fun _ _ => rfl)) pe_non (nomark _))))
  pss_nil)
  (pss_cons (ps_if (pt_cmpR op_in_seq (pv 4) (pe_tup (pa_cons pe_str (pa_cons pe_str pa_nil))) (by rfl))
  (pss_one (ps_ret (C8.pe_c c3 hr (by omega) rfl (pa_cons (pv 4) (pa_cons (pe_ix ix_list (pv 5) pe_int (fun _ _ => rfl)) (pa_cons (pe_ix ix_list (pv 5) pe_int (fun _ _ => rfl)) pa_nil))))))
  pss_nil)
  (pss_cons (ps_if (pt_cmpR op_eq (pv 4) pe_str (nomark _))
  (pss_cons (ps_if (pt_cmpR op_isN (pe_ix ix_list (pv 5) pe_int (fun _ _ => rfl)) pe_non (nomark _))
  (pss_one (ps_ret pe_non))
  pss_nil)
  (pss_one (ps_ret (pe_ifExp (pt_val (pe_ix ix_list (pv 5) pe_int (fun _ _ => rfl))) (pe_ix ix_list (pv 5) pe_int (fun _ _ => rfl)) (pe_ix ix_list (pv 5) pe_int (fun _ _ => rfl))))))
  pss_nil)
  (pss_cons (ps_if (pt_cmpR op_eq (pv 4) pe_str (nomark _))
  (pss_one (ps_ret (pe_ifExp (pt_cmpR op_isN (pe_ix ix_list (pv 5) pe_int (fun _ _ => rfl)) pe_non (nomark _)) (pe_ix ix_list (pv 5) pe_int (fun _ _ => rfl)) (pe_ix ix_list (pv 5) pe_int (fun _ _ => rfl)))))
  pss_nil)
  (pss_one (ps_ret (pe_ifExp (pt_cmpR op_in_seq pe_non (pv 5) (by rfl)) pe_non (C8.pe_c c4 hr (by omega) rfl (pa_cons (pv 4) (pa_cons (pv 5) pa_nil))))))))))))))), ?_⟩
    obtain ⟨t, ws, rfl, ht⟩ := hx.any
    cases hl : e.leaf with
    | true =>
      refine ⟨_, rfl, _, _, _, _, rfl, rfl, .inl (.inl ht), at_of (j := 0) rfl rfl, ?_⟩
      cases hx with
      | val h =>
        rw [ht] at h
        cases h
        refine ⟨_, rfl, rfl, _, rfl, iteD (fun _ => ?_) (fun h => absurd rfl h)⟩
        exact ⟨_, rfl, _, _, _, _, rfl, rfl, .inl (.inl ht), at_of (j := 2) rfl rfl, q H (Same.refl H)⟩
      | @attr _ nm h =>
        rw [ht] at h
        cases h
        refine ⟨_, rfl, rfl, _, rfl, iteD (fun h => absurd h ne_av) (fun _ => ?_)⟩
        refine ⟨_, rfl, rfl, _, rfl, iteD (fun _ => ?_) (fun h => absurd rfl h)⟩
        cases hk with
        | @attr _ i _ h1 h2 =>
          obtain ⟨u, hu, _⟩ := cok.ok i _ _ h2
          have e1 : evE sh ps us (.attr nm) = u := by
            show (match sh.aix nm with | some i => us.getD i .non | none => .non) = u
            rw [h1]
            show us.getD i .non = u
            rw [List.getD_eq_getElem?_getD, hu]
            rfl
          rw [e1] at q
          refine ⟨_, rfl, _, rfl, _, rfl, _, _, _, _, rfl, rfl, .inl (.inl ht), at_of (j := 1) rfl rfl, p, sh, nm, rfl, S, ?_⟩
          rw [h1]
          exact ⟨_, _, _, _, rfl, rfl, hva, at_of (j := i) rfl hu, q H (Same.refl H)⟩
      | @dim _ nm h =>
        rw [ht] at h
        cases h
        refine ⟨_, rfl, rfl, _, rfl, iteD (fun h => absurd h ne_dv) (fun _ => ?_)⟩
        refine ⟨_, rfl, rfl, _, rfl, iteD (fun h => absurd h ne_da) (fun _ => ?_)⟩
        refine ⟨_, rfl, rfl, _, rfl, iteD (fun _ => ?_) (fun h => absurd rfl h)⟩
        cases hk with
        | @dim _ i h1 h2 =>
          have lt : i < ps.length := by rw [cok.lp]; exact h2
          have e1 : evE sh ps us (.dim nm) = .int ps[i] := by
            show (match sh.dix nm with | some i => V.int (ps.getD i 0) | none => .non) = _
            rw [h1]
            show V.int (ps.getD i 0) = _
            rw [List.getD_eq_getElem?_getD, List.getElem?_eq_getElem lt]
            rfl
          rw [e1] at q
          refine ⟨_, rfl, _, rfl, _, rfl, _, _, _, _, rfl, rfl, .inl (.inl ht), at_of (j := 1) rfl rfl, p, sh, nm, rfl, S, ?_⟩
          rw [h1]
          exact ⟨_, _, _, _, rfl, rfl, hpl, at_of (j := i) rfl (by rw [List.getElem?_map, List.getElem?_eq_getElem lt]; rfl), q H (Same.refl H)⟩
      | n1 => cases hl
      | n2 => cases hl
      | n3 => cases hl
    | false =>
      obtain ⟨t', us', et, ht', hp'⟩ := hx.node hl
      cases et
      rw [ht] at ht'
      have e2 : ws = us' := (List.cons.inj (HO.tup.inj (Option.some.inj ht'))).2
      subst e2
      have ew := Ex.ws_node hl
      rw [ew] at ht
      refine ⟨_, rfl, _, _, _, _, rfl, rfl, .inl (.inl ht), at_of (j := 0) rfl rfl, ?_⟩
      refine ⟨_, rfl, rfl, _, rfl, iteD (fun h => absurd h (wd_value _)) (fun _ => ?_)⟩
      refine ⟨_, rfl, rfl, _, rfl, iteD (fun h => absurd h (wd_attr _)) (fun _ => ?_)⟩
      refine ⟨_, rfl, rfl, _, rfl, iteD (fun h => absurd h (wd_dim _)) (fun _ => ?_)⟩
      obtain ⟨ks, hsg, hpk⟩ := hk.node hl
      have l3 : e.parts.length ≤ 3 := parts_len e
      have lw : ws.length = e.parts.length := Paired.len hp'
      -- the parts' values
      refine ⟨_, rfl, _, rfl, _, _, rfl, .inl (.inl ht), fun z => absurd z not_whole, fun _ a ha => ⟨a, rfl, ⟨_, .inl (.inl upd_same)⟩, fun D hD => ?_⟩⟩
      rw [cut1 _ _ (by omega)] at hD ⊢
      have hDn : H D = none := (Same.new ha).free hD
      refine lc_tup (K := K) (a := a) (xs := ws) (fun i H' => Same (upd H a (.tup ws)) H' ∧ H' D = some (.lst ((e.parts.take i).map (evE sh ps us)))) ⟨Same.new hD, upd_same⟩ (fun i H' hi hP => .inl (.inl (hP.1 _ _ upd_same))) (fun i x H' hi hP => ?_) (fun H' hP => ?_)
      · obtain ⟨s1, s2⟩ := hP
        have g0 : Same H H' := (Same.new ha).trans s1
        obtain ⟨pe, e1, e2⟩ := paired_get hp' hi
        obtain ⟨kp, _, e3⟩ := Paired.memR hpk (List.mem_of_getElem? e1)
        refine ⟨rfl, _, rfl, _, rfl, _, rfl, _, rfl, x, p, pl, va, pe, kp, sh, ps, us, rfl, e2.gr (Same.gr g0), Nat.lt_of_lt_of_le (Ex.ht_parts (List.mem_of_getElem? e1)) (by omega), S.gr (Same.gr g0), e3, (Same.gr g0).tupl hpl, (Same.gr g0).tupl hva, cok, fun H4 g4 => ?_⟩
        have lt : i < e.parts.length := (List.getElem?_eq_some_iff.mp e1).1
        refine ⟨_, g4 _ _ s2, ?_, Same.put (s1.trans g4) hD, ?_⟩
        · rw [List.length_map, List.length_take, sizeLine_eq]; omega
        · rw [upd_same, List.take_add_one, e1, List.map_append]
          rfl
      · obtain ⟨s1, s2⟩ := hP
        have g0 : Same H H' := (Same.new ha).trans s1
        rw [lw, List.take_length] at s2
        have hS : SqL K H' D (e.parts.map (evE sh ps us)) := .inl (.inl s2)
        have hO : Paired IsO ks (e.parts.map (evE sh ps us)) := Paired.mapR _ (fun k p h => evE_isO cok h) hpk
        rw [evE_node hl] at q
        generalize hrs : e.parts.map (evE sh ps us) = rs at hS hO q
        have hN : ∀ x ∈ rs, isSc x = true := fun x hx => by
          obtain ⟨_, _, z⟩ := Paired.memR hO hx
          exact z.sc
        refine ⟨_, rfl, rfl, _, rfl, iteD (fun h => ?_) (fun h1 => ?_)⟩
        · have ewd := wd_eq (v := .miss) h
          rw [ewd] at hsg q
          obtain ⟨⟨b, rfl⟩, _⟩ := sig_miss hsg
          cases hO with
          | cons r t =>
            cases t
            exact ⟨_, rfl, _, _, _, _, rfl, rfl, hS, at_of (j := 0) rfl rfl, rfl, q _ g0⟩
        refine ⟨_, rfl, sz2, fun tp htp => ⟨tp, _, rfl, .inr (.inl (.inl upd_same)), rfl, rfl, _, rfl, ?_⟩⟩
        have g1 := g0.trans (Same.new (o := HO.tup [.str "and", .str "or"]) htp)
        have hS1 := (Same.gr (Same.new (o := HO.tup [.str "and", .str "or"]) htp)).seq hS
        show if inV (V.str e.wd.s) [.str "and", .str "or"] = true then _ else _
        rw [in_andor]
        refine iteB (fun h => ?_) (fun h2 => ?_)
        · have hw : e.wd = .and ∨ e.wd = .or := by
            rcases Bool.or_eq_true_iff.mp h with z | z
            · exact .inl (of_decide_eq_true z)
            · exact .inr (of_decide_eq_true z)
          have e4 : ks = [.flag, .flag] ∧ opV e.wd rs = decV (decide (e.wd = .or)) (rs.getD 0 .non) (rs.getD 1 .non) := by
            rcases hw with z | z
            · rw [z] at hsg ⊢; exact ⟨(sig_and hsg).1, rfl⟩
            · rw [z] at hsg ⊢; exact ⟨(sig_or hsg).1, rfl⟩
          obtain ⟨rfl, e5⟩ := e4
          rw [e5] at q
          cases hO with
          | cons r t => cases t with
            | cons r2 t2 =>
              cases t2
              have ob : ∀ {x : V}, IsO .flag x → isOB x = true := fun h => by
                rcases isO_ov h with rfl | ⟨b, rfl⟩ <;> rfl
              exact ⟨_, rfl, _, rfl, _, _, _, _, rfl, rfl, hS1, at_of (j := 0) rfl rfl, _, rfl, _, _, _, _, rfl, rfl, hS1, at_of (j := 1) rfl rfl, _, _, _, rfl, hw, ob r, ob r2, q _ g1⟩
        refine ⟨_, rfl, rfl, _, rfl, iteD (fun h => ?_) (fun h3 => ?_)⟩
        · have ewd := wd_eq (v := .ite) h
          rw [ewd] at hsg q
          have e4 := sig_ite hsg
          subst e4
          cases hO with
          | cons r t => cases t with
            | cons r2 t2 => cases t2 with
              | cons r3 t3 =>
                cases t3
                rename_i x y z
                have e5 : opV .ite [x, y, z] = if x = .non then .non else if x = .bl true then y else z := rfl
                rw [e5] at q
                refine ⟨_, rfl, _, _, _, _, rfl, rfl, hS1, at_of (j := 0) rfl rfl, rfl, _, rfl, iteD (fun h => ?_) (fun h4 => ?_)⟩
                · rw [if_pos h] at q
                  exact q _ g1
                · rw [if_neg h4] at q
                  rcases isO_ov r with e6 | ⟨b, rfl⟩
                  · exact absurd e6 h4
                  · refine ⟨_, rfl, _, _, _, _, rfl, rfl, hS1, at_of (j := 0) rfl rfl, b, rfl, iteB (fun h => ?_) (fun h => ?_)⟩
                    · subst h
                      rw [if_pos rfl] at q
                      exact ⟨_, rfl, _, _, _, _, rfl, rfl, hS1, at_of (j := 1) rfl rfl, q _ g1⟩
                    · subst h
                      rw [if_neg (by decide)] at q
                      exact ⟨_, rfl, _, _, _, _, rfl, rfl, hS1, at_of (j := 2) rfl rfl, q _ g1⟩
        refine ⟨_, rfl, rfl, _, rfl, iteD (fun h => ?_) (fun h4 => ?_)⟩
        · have ewd := wd_eq (v := .orelse) h
          rw [ewd] at hsg q
          have e4 := sig_orelse hsg
          subst e4
          cases hO with
          | cons r t => cases t with
            | cons r2 t2 =>
              cases t2
              rename_i x y
              have e5 : opV .orelse [x, y] = if x = .non then y else x := rfl
              rw [e5] at q
              refine ⟨_, rfl, _, _, _, _, rfl, rfl, hS1, at_of (j := 0) rfl rfl, rfl, _, rfl, iteD (fun h => ?_) (fun h5 => ?_)⟩
              · rw [if_pos h] at q
                exact ⟨_, rfl, _, _, _, _, rfl, rfl, hS1, at_of (j := 1) rfl rfl, q _ g1⟩
              · rw [if_neg h5] at q
                exact ⟨_, rfl, _, _, _, _, rfl, rfl, hS1, at_of (j := 0) rfl rfl, q _ g1⟩
        have hst : e.wd.strict = true := by
          have z2 := Bool.or_eq_false_iff.mp h2
          have n1 : e.wd ≠ .miss := fun z => h1 (by rw [z]; rfl)
          have n2 : e.wd ≠ .and := of_decide_eq_false z2.1
          have n3 : e.wd ≠ .or := of_decide_eq_false z2.2
          have n4 : e.wd ≠ .ite := fun z => h3 (by rw [z]; rfl)
          have n5 : e.wd ≠ .orelse := fun z => h4 (by rw [z]; rfl)
          generalize e.wd = w at n1 n2 n3 n4 n5
          cases w <;> first
            | rfl
            | exact absurd rfl n1
            | exact absurd rfl n2
            | exact absurd rfl n3
            | exact absurd rfl n4
            | exact absurd rfl n5
        rw [opV_strict hst] at q
        refine ⟨_, rfl, D, rs, rfl, .inl hS1, rfl, List.all_eq_true.mpr fun x hx => flat_sc (hN x hx), _, rfl, ?_⟩
        show if inV V.non rs = true then _ else _
        rw [inV_non hN]
        refine iteD (fun h => ?_) (fun h5 => ?_)
        · rw [if_pos h] at q
          exact q _ g1
        · rw [if_neg h5] at q
          exact ⟨_, rfl, _, rfl, e.wd, D, rs, ks, k, rfl, hS1, hst, hsg, paired_isV hO h5, q _ g1⟩
end
end Ms
namespace Ms
open PySem PySem.Spec PyProof.Rows L2
section
variable {P : Program} {w : World} {K : PySem.W.Frag} {mg : Str → Option Value} {base : Heap}
/-! the dicts of kinds -/
def partsKd : Wd → Option Kd
  | .neg => some .int
  | .abs => some .int
  | .not => some .flag
  | .len => some .text
  | .joined => some .text
  | .and => some .flag
  | .or => some .flag
  | _ => none
def resKd : Wd → Kd
  | .neg => .int
  | .abs => .int
  | .len => .int
  | .joined => .text
  | _ => .flag
theorem Cn.valP (T : Cn w K mg base) : He.valsB K (He.ga K "PARTS_KIND") dicParts = true := (He.ba (He.ba (He.ba (He.ba (He.ba (He.ba T.more).2).2).2).2).2).1
theorem Cn.valR (T : Cn w K mg base) : He.valsB K (He.ga K "RESULT_KIND") dicResult = true := (He.ba (He.ba (He.ba (He.ba (He.ba (He.ba (He.ba T.more).2).2).2).2).2).2).1
theorem Cn.noP (T : Cn w K mg base) : (outParts.all fun x => He.eqO (PySem.W.nsIn K (He.ga K "PARTS_KIND") x) (some none)) = true := (He.ba (He.ba (He.ba (He.ba (He.ba (He.ba (He.ba T.more).2).2).2).2).2).2).2
theorem Cn.pk (T : Cn w K mg base) {v : Wd} {k : Kd} (h : partsKd v = some k) : ∃ u, PySem.W.nsIn K (He.ga K "PARTS_KIND") v.s = some (some u) ∧ RelV (.str k.s) u := by
  have m : (v.s, He.Dv.str k.s) ∈ dicParts := by
    cases v <;> cases h
    · exact List.mem_of_getElem? (i := 0) rfl
    · exact List.mem_of_getElem? (i := 1) rfl
    · exact List.mem_of_getElem? (i := 2) rfl
    · exact List.mem_of_getElem? (i := 3) rfl
    · exact List.mem_of_getElem? (i := 4) rfl
    · exact List.mem_of_getElem? (i := 5) rfl
    · exact List.mem_of_getElem? (i := 6) rfl
  exact He.valsB_ok T.valP m
theorem Cn.rk (T : Cn w K mg base) {v : Wd} {k : Kd} (h : partsKd v = some k) : ∃ u, PySem.W.nsIn K (He.ga K "RESULT_KIND") v.s = some (some u) ∧ RelV (.str (resKd v).s) u := by
  have m : (v.s, He.Dv.str (resKd v).s) ∈ dicResult := by
    cases v <;> cases h
    · exact List.mem_of_getElem? (i := 0) rfl
    · exact List.mem_of_getElem? (i := 1) rfl
    · exact List.mem_of_getElem? (i := 2) rfl
    · exact List.mem_of_getElem? (i := 3) rfl
    · exact List.mem_of_getElem? (i := 4) rfl
    · exact List.mem_of_getElem? (i := 5) rfl
    · exact List.mem_of_getElem? (i := 6) rfl
  exact He.valsB_ok T.valR m
theorem Cn.pno (T : Cn w K mg base) {v : Wd} (h : partsKd v = none) : PySem.W.nsIn K (He.ga K "PARTS_KIND") v.s = some none := by
  have m : v.s ∈ outParts := by
    cases v <;> first
      | (cases h; done)
      | exact List.mem_of_getElem? (i := 0) rfl
      | exact List.mem_of_getElem? (i := 1) rfl
      | exact List.mem_of_getElem? (i := 2) rfl
      | exact List.mem_of_getElem? (i := 3) rfl
      | exact List.mem_of_getElem? (i := 4) rfl
      | exact List.mem_of_getElem? (i := 5) rfl
      | exact List.mem_of_getElem? (i := 6) rfl
      | exact List.mem_of_getElem? (i := 7) rfl
      | exact List.mem_of_getElem? (i := 8) rfl
      | exact List.mem_of_getElem? (i := 9) rfl
      | exact List.mem_of_getElem? (i := 10) rfl
      | exact List.mem_of_getElem? (i := 11) rfl
      | exact List.mem_of_getElem? (i := 12) rfl
      | exact List.mem_of_getElem? (i := 13) rfl
  exact He.eqO_ok (List.all_eq_true.mp T.noP _ m)
theorem Cn.dP (T : Cn w K mg base) : ∃ es n, KDict K w (He.ga K "PARTS_KIND") es n := T.says.tab 0
theorem Cn.dR (T : Cn w K mg base) : ∃ es n, KDict K w (He.ga K "RESULT_KIND") es n := T.says.tab 1
/-! the code tables -/
abbrev pKind (K : PySem.W.Frag) : Addr := (He.cT K ("_kind_from", none)).2
abbrev pTog (K : PySem.W.Frag) : Addr := (He.cT K ("_together", none)).2
abbrev pSpan (K : PySem.W.Frag) : Addr := (He.cT K ("span_from", none)).2
theorem tabbed_gk {H H' : Hp} {p : Addr} (h : GxR.TabG H p) (z : GxR.Tabbed p H H') : Gk H H' := fun b o e t => by
  have hb : b ≠ p := fun q => by
    obtain ⟨ps, e2, _⟩ := h
    rw [q, e2] at e
    cases e
    cases t
  rw [z.2 b hb]
  exact e
theorem tabbed_tabs {H H' : Hp} {p : Addr} (h : Tabs K H) (z : GxR.Tabbed p H H') : Tabs K H' := fun q hq => by
  by_cases e : (He.cT K q).2 = p
  · rw [e]; exact z.1
  · obtain ⟨ps, e2, e3⟩ := h q hq
    exact ⟨ps, by rw [z.2 _ e]; exact e2, e3⟩
/-! the element kind == PARTS_KIND[word] -/
theorem elt_kind {X : Cx} {σ : L2.St} {H1 : Hp} {sc : Scope} {p1 p2 p3 p4 p5 : Pos} {i0 : Nat} {v : Wd} {k : Kd} {ks : List Kd} {base : Heap} (T : Cn w K mg base) (hK : X.K = K) (hw : X.w = w) (hmg : X.mg = mg) (hN : X.N[i0]? = some ("word" : Str)) (hs : σ[i0]? = some (some (.str v.s)))
    (hv : X.env.scope.names.lookup ("word" : Str) = some .cell) (TB : GxR.TabB X.base X.mg (He.cT K ("_kind_from", none)).1 (pKind K)) (hout : K.lookup (pKind K) = none) (hk : partsKd v = some k)
    (s0 : sc.kind = .function) (s1 : sc.names.lookup ("kind" : Str) = some .local) (s2 : sc.names.lookup ("word" : Str) = some .free) (s3 : sc.names.lookup ("PARTS_KIND" : Str) = some .globalImplicit)
    (s4 : ∀ cl : List (Str × Addr), (cloFrom cl sc.names []).lookup ("word" : Str) = some ((cl.lookup ("word" : Str)).getD 0)) (hP : GxR.TabG H1 (pKind K)) :
    GEl X σ sc "kind" (.Compare (.Name "kind" p1) [.Eq] [.Subscript (.Name "PARTS_KIND" p2) (.Name "word" p3) p4] p5) (pKind K) (ks.map fun k => V.str k.s) (fun j => decide (ks[j]? = some k)) H1 := by
  intro pins st I cenv A' E' j x u s5 m5 hx ru hsc hcl hgl hA hns hm keep
  subst hK hw hmg
  obtain ⟨ps, eP, _⟩ := hP
  have eP2 := I.hok (pKind X.K) _ eP
  have eP3 : st.heap.get? (pKind X.K) = some { cls := .none, data := .fields ps } := eP2
  obtain ⟨kj, ekj, rfl⟩ : ∃ kj, ks[j]? = some kj ∧ x = V.str kj.s := by
    rw [List.getElem?_map] at hx
    cases e : ks[j]? with
    | none => rw [e] at hx; cases hx
    | some q => rw [e] at hx; exact ⟨q, rfl, (Option.some.inj hx).symm⟩
  obtain ⟨tk, rfl⟩ := ru
  -- the cell of word
  obtain ⟨m, hnm, hloc⟩ := I.loc
  obtain ⟨uw, ruw, hlook⟩ := hloc i0 ("word" : Str) _ hN hs (.inr (.inl hv))
  obtain ⟨tw, rfl⟩ := ruw
  have hcell : ∃ c, X.env.cells.lookup ("word" : Str) = some c ∧ st.heap.IsCell c (some (.str v.s tw)) := by
    rcases hlook with ⟨q, _⟩ | ⟨_, c, e1, e2⟩
    · have q2 : X.env.scope.names.lookup ("word" : Str) = some .local := q
      rw [hv] at q2; cases q2
    · exact ⟨c, e1, e2⟩
  obtain ⟨c, hc1, ⟨oc, hc2, hc3⟩⟩ := hcell
  have hcP : c ≠ pKind X.K := fun z => by
    rw [z, eP3] at hc2
    cases hc2
    cases hc3
  have ck : s5.heap.IsCell c (some (.str v.s tw)) := ⟨oc, keep c oc hcP hc2, hc3⟩
  have KI : X.K.In s5.heap := fun a o e => keep a o (fun z => by rw [z, hout] at e; cases e) (I.kIn a o e)
  have hgl2 : s5.heap.Ns cenv.globals X.mg := by
    rw [hgl]
    obtain ⟨o, es, ep, e1, e2⟩ := I.mod.glob
    exact ⟨o, es, ep, keep _ _ TB.gP (I.bk _ _ e1), e2⟩
  obtain ⟨es, n, D⟩ := T.dP
  obtain ⟨up, hup, rup⟩ := T.pk hk
  obtain ⟨tp, rfl⟩ := rup
  have hmap := PySem.W.mapOf_K (prog := X.prog) (w := X.w) KI D.at_ D.lit
  refine wpAny_Compare1 ?_
  refine wpAny_Name (wpAny_loadName_local (by rw [hsc]; exact s0) (show cenv.scope.names.lookup _ = _ by rw [hsc]; exact s1) hns hm ?_) (by decide)
  refine Subscript_ ?_
  refine Calls.Name_function_global (by rw [hsc]; exact s0) (show cenv.scope.names.lookup _ = _ by rw [hsc]; exact s3) (Calls.loadGlobal_global hgl2 (T.glo "PARTS_KIND" (by decide +kernel)) ?_) (by decide)
  refine wpAny_Name (wpAny_loadName_free (by rw [hsc]; exact s0) (show cenv.scope.names.lookup _ = _ by rw [hsc]; exact s2) (by rw [hcl, s4, hc1]; rfl) ck ?_) (by decide)
  refine tail_any hmap.typeIs slot_dict_getitem.lookup (wpAny_getItem_of (strKind_is X.prog X.w v.s tw) hmap (PySem.W.find_K D.at_ hup) ?_) rfl
  refine PyProof.Rows.eq_str ⟨?_, GxR.keeps_tok _ _⟩
  refine congrArg Value.bool ?_
  show (kj.s == k.s) = decide (ks[j]? = some k)
  rw [ekj]
  by_cases e : kj = k
  · subst e
    rw [decide_eq_true rfl]
    exact beq_self_eq_true _
  · rw [decide_eq_false (fun z => e (Option.some.inj z))]
    exact beq_eq_false_iff_ne.mpr fun z => e (kd_inj z)
/-! _kind_from -/
theorem sig_parts {v : Wd} {p k : Kd} {ks : List Kd} (h : partsKd v = some p) (hg : sig v ks = some k) : (∀ x ∈ ks, x = p) ∧ k = resKd v := by
  unfold sig at hg
  split at hg <;> first
    | (cases h; done)
    | (cases h; cases hg; refine ⟨fun x hx => ?_, rfl⟩; simp at hx; first | exact hx | simp_all)
    | (cases hg; done)
theorem sig_ari {v : Wd} {k : Kd} {ks : List Kd} (h : v.isAri = true) (hg : sig v ks = some k) : ks = [.int, .int] ∧ k = .int := by
  unfold sig at hg
  split at hg <;> first
    | (cases h; done)
    | (cases hg; exact ⟨rfl, rfl⟩)
    | (cases hg; done)
theorem sig_two {v : Wd} {k : Kd} {ks : List Kd} (hm : v ≠ .miss) (hp : partsKd v = none) (ha : v.isAri = false) (hi : v ≠ .ite) (hg : sig v ks = some k) : ∃ a, ks = [a, a] ∧ (if v.isCmp = true then k = .flag else k = a) := by
  unfold sig at hg
  split at hg <;> first
    | exact absurd rfl hm
    | exact absurd rfl hi
    | (cases hp; done)
    | (cases ha; done)
    | (split at hg <;> first | (rename_i e; subst e; cases hg; exact ⟨_, rfl, rfl⟩) | (cases hg; done))
    | (cases hg; done)
def kstrs (ks : List Kd) : List V := ks.map fun k => .str k.s
def spKindFrom (K : PySem.W.Frag) : Sp := fun vs H Q _ => ∃ (v : Wd) (l : Addr) (ks : List Kd) (k : Kd), vs = [.str v.s, .ref l] ∧ SqL K H l (kstrs ks) ∧ sig v ks = some k ∧ ks.length ≤ 3 ∧ Tabs K H ∧ ∀ H', Gk H H' → Tabs K H' → Q (.str k.s) H'
theorem sc_u_kind_from : FnScope ["word", "kinds"] ["word", "kinds"] (defScope s_u_kind_from) := ⟨rfl, rfl, rfl, by decide +kernel, rfl, by decide +kernel, by decide +kernel⟩
theorem ok_u_kind_from (T : Cn w K mg base) : C8.Cal P w K mg base 1 "_kind_from" (spKindFrom K) [] := by
  refine T.cal (i := 12) (d := d_u_kind_from) (k := 0) rfl rfl (by decide +kernel) rfl rfl sc_u_kind_from (fun _ _ _ _ _ _ us hl => match us, hl with | [_, _], _ => rfl) (fun vs H Q E h => ?_) (fun cdv A outer s H vs Q E hr hcd h => ?_)
  · obtain ⟨_, _, _, _, rfl, _⟩ := h
    rfl
  obtain ⟨v, l, ks, k, rfl, hl, hg, hlen, tb, q⟩ := h
  obtain ⟨e1, n1, D1⟩ := T.dP
  have TB := T.tab ("_kind_from", none) (List.mem_of_getElem? (i := 0) rfl)
  have hu : _ + 64 < cLine := hr.units
  refine ⟨_, (pss_cons (ps_if (pt_cmpR op_eq (pv 0) pe_str (nomark _))
  (pss_one (ps_ret pe_str))
  pss_nil)
  (pss_cons (ps_if (pt_cmpR (op_in_kd D1) (pv 0) (T.peRef "PARTS_KIND" (by decide +kernel)) (by rfl))
  (pss_one (ps_ret (pe_ifExp (pt_val (pe_allL (pb := fun j => decide (ks[j]? = some ((partsKd v).getD .int))) hr (by rfl) (T.fre "all" (by decide +kernel)) (by decide +kernel) TB hcd ⟨rfl, rfl, by decide +kernel, by decide +kernel, by decide +kernel, fun y hy hf => ?_⟩ (pv 1) (fun _ => rfl))) (pe_ix ix_kdict (T.peRef "RESULT_KIND" (by decide +kernel)) (pv 0) (fun _ _ => rfl)) pe_non)))
  pss_nil)
  (pss_cons (ps_if (pt_cmpR op_in_seq (pv 0) (T.peRef "ARITHMETIC" (by decide +kernel)) (by rfl))
  (pss_one (ps_ret (pe_ifExp (pt_cmpR (op_eqD hu) (pv 1) (pe_lst (pa_cons pe_str (pa_cons pe_str pa_nil))) (nomark _)) pe_str pe_non)))
  pss_nil)
  (pss_cons (ps_if (pt_cmpR op_eq (pv 0) pe_str (nomark _))
  (pss_one (ps_ret (pe_ifExp (PW.pt (pw_and (pt_cmpR op_eq (pe_ix ix_list (pv 1) pe_int (fun _ _ => rfl)) pe_str (nomark _)) (pw_and1 (pt_cmpR op_eq (pe_ix ix_list (pv 1) pe_int (fun _ _ => rfl)) (pe_ix ix_list (pv 1) pe_int (fun _ _ => rfl)) (nomark _))))) (pe_ix ix_list (pv 1) pe_int (fun _ _ => rfl)) pe_non)))
  pss_nil)
  (pss_cons (ps_if (pt_cmpR op_ne (pe_ix ix_list (pv 1) pe_int (fun _ _ => rfl)) (pe_ix ix_list (pv 1) pe_int (fun _ _ => rfl)) (nomark _))
  (pss_one (ps_ret pe_non))
  pss_nil)
  (pss_one (ps_ret (pe_ifExp (pt_cmpR op_in_seq (pv 0) (T.peRef "COMPARISONS" (by decide +kernel)) (by rfl)) pe_str (pe_ix ix_list (pv 1) pe_int (fun _ _ => rfl)))))))))), ?_⟩
  · simp only [List.mem_cons, List.not_mem_nil, or_false] at hy
    rcases hy with rfl | rfl | rfl | rfl
    · cases hf
    · cases hf
    · exact cell_has rfl
    · cases hf
  have hI : ∀ {i : Nat} {a : Kd}, ks[i]? = some a → atI (kstrs ks) ((i : Nat) : Int) = some (.str a.s) := fun h => atI_nat (by unfold kstrs; rw [List.getElem?_map, h]; rfl)
  refine ⟨_, rfl, rfl, _, rfl, iteD (fun h => ?_) (fun h1 => ?_)⟩
  · have ev := wd_eq (v := .miss) h
    rw [ev] at hg
    rw [(sig_miss hg).2] at q
    exact q H (Gk.refl H) tb
  have nm : v ≠ .miss := fun z => h1 (by rw [z]; rfl)
  cases hp : partsKd v with
  | some p =>
    obtain ⟨u, hu1, hu2⟩ := T.pk hp
    obtain ⟨a1, a2⟩ := sig_parts hp hg
    refine ⟨_, rfl, v.s, _, rfl, rfl, hu1, _, rfl, ?_⟩
    refine ⟨_, rfl, l, kstrs ks, rfl, hl, tb _ (List.mem_of_getElem? (i := 0) rfl), T.out _ (List.mem_of_getElem? (i := 0) rfl), ?_, fun H2 hT => ⟨_, rfl, ?_⟩⟩
    · exact elt_kind (k := p) (ks := ks) (i0 := 0) T rfl rfl rfl rfl rfl rfl TB (T.out _ (List.mem_of_getElem? (i := 0) rfl)) hp rfl rfl rfl rfl (fun cl => rfl) (tb _ (List.mem_of_getElem? (i := 0) rfl))
    · have e2 : ((List.range (kstrs ks).length).all fun j => decide (ks[j]? = some ((some p).getD .int))) = true := by
        refine List.all_eq_true.mpr fun j hj => ?_
        have lt : j < ks.length := by
          have z := List.mem_range.mp hj
          unfold kstrs at z
          rw [List.length_map] at z
          exact z
        rw [List.getElem?_eq_getElem lt, a1 _ (List.getElem_mem lt)]
        exact decide_eq_true rfl
      show if ((List.range (kstrs ks).length).all fun j => decide (ks[j]? = some ((some p).getD .int))) = true then _ else _
      rw [e2]
      obtain ⟨u3, hu3, hu4⟩ := T.rk hp
      obtain ⟨es, n, D2⟩ := T.dR
      refine iteT ⟨_, rfl, _, v.s, _, rfl, rfl, ⟨es, n, u3, D2.at_, D2.lit, hu3, hu4⟩, ?_⟩
      rw [← a2]
      exact q H2 (tabbed_gk (tb _ (List.mem_of_getElem? (i := 0) rfl)) hT) (tabbed_tabs tb hT)
  | none =>
    refine ⟨_, rfl, v.s, _, rfl, rfl, T.pno hp, _, rfl, ?_⟩
    refine ⟨_, rfl, _, _, rfl, .inr (T.tArith H), rfl, rfl, _, rfl, ?_⟩
    show if inV (V.str v.s) vArith = true then _ else _
    rw [in_arith]
    refine iteB (fun h2 => ?_) (fun h2 => ?_)
    · obtain ⟨rfl, rfl⟩ := sig_ari h2 hg
      refine ⟨_, rfl, sz2, fun p hp => ⟨.list [.str "int", .str "int"], .list [.str "int", .str "int"], .lst ((Same.gr (Same.new hp)).seq hl) (.cons (.str _) (.cons (.str _) .nil)), .lst (.inl (.inl upd_same)) (.cons (.str _) (.cons (.str _) .nil)), by decide +kernel, by decide +kernel, ?_⟩⟩
      have e9 : PyData.eqv (.list [.str "int", .str "int"]) (.list [.str "int", .str "int"]) = true := by decide +kernel
      rw [e9]
      exact ⟨_, rfl, iteT (q _ (Gk.new hp) (tb.same (Same.new hp)))⟩
    refine ⟨_, rfl, rfl, _, rfl, iteD (fun h => ?_) (fun h3 => ?_)⟩
    · have ev := wd_eq (v := .ite) h
      rw [ev] at hg
      have e4 := sig_ite hg
      subst e4
      refine ⟨_, rfl, _, _, _, _, rfl, rfl, hl, hI (i := 0) rfl, rfl, _, rfl, iteD (fun _ => ?_) (fun h => absurd rfl h)⟩
      have e5 : scal (V.str k.s) (V.str k.s) = true := rfl
      refine ⟨_, rfl, _, _, _, _, rfl, rfl, hl, hI (i := 1) rfl, _, rfl, _, _, _, _, rfl, rfl, hl, hI (i := 2) rfl, e5, _, rfl, iteD (fun _ => ?_) (fun h => absurd rfl h)⟩
      exact ⟨_, rfl, _, _, _, _, rfl, rfl, hl, hI (i := 1) rfl, q H (Gk.refl H) tb⟩
    obtain ⟨a, rfl, e6⟩ := sig_two nm hp h2 (fun z => h3 (by rw [z]; rfl)) hg
    have e5 : scal (V.str a.s) (V.str a.s) = true := rfl
    refine ⟨_, rfl, _, _, _, _, rfl, rfl, hl, hI (i := 0) rfl, _, rfl, _, _, _, _, rfl, rfl, hl, hI (i := 1) rfl, e5, _, rfl, iteN (fun h => absurd rfl h) (fun _ => ?_)⟩
    refine ⟨_, rfl, _, _, rfl, .inr (T.tComp H), rfl, rfl, _, rfl, ?_⟩
    show if inV (V.str v.s) vComp = true then _ else _
    rw [in_comp]
    refine iteB (fun h4 => ?_) (fun h4 => ?_)
    · rw [if_pos h4] at e6
      rw [e6] at q
      exact q H (Gk.refl H) tb
    · rw [if_neg (by rw [h4]; exact Bool.false_ne_true)] at e6
      rw [e6] at q
      exact ⟨_, rfl, _, _, _, _, rfl, rfl, hl, hI (i := 0) rfl, q H (Gk.refl H) tb⟩
end
end Ms
namespace Ms
open PySem PySem.Spec PyProof.Rows L2
section
variable {P : Program} {w : World} {K : PySem.W.Frag} {mg : Str → Option Value} {base : Heap}
/-- a method of a class of the top keeps its promise, by its body -/
theorem Cn.met (T : Cn w K mg base) {i k : Nat} {x m : Str} {d : He.DefD} {N ps : List Str} {sp : Sp} (hi : fn[i]? = some d) (ha : d.at_ = (x, some m)) (hC : Cls K (He.ga K x)) (hM : Meth K (He.ga K x) m (He.ma K (He.ga K x) m)) (hdf : d.dfl = []) (hkw : d.kwd = []) (S : FnScope N ps d.scope)
    (hb : ∀ (kV doc pm : Value) (an : Option Addr) (cdv ct : Value) (us : List Value), us.length = ps.length → bindArgs (PySem.W.fnOf d.name d.qual d.params d.body d.scope .none kV doc pm an cdv ct) ⟨us, []⟩ = pure (ps.zip us))
    (len : ∀ vs H Q E, sp vs H Q E → vs.length = ps.length)
    (hbody : ∀ (cdv : Value) (A : Around) (outer : List Env) (s : Shared) (H : Hp) (vs : List V) (Q : VK) (E : XK), Room k (A.deeper (envOfC d.qual d.scope s.heap.objs.size (He.ma K (He.ga K x) m) cdv)) → cdv = .ref (He.codeOf K (x, some m)) → sp vs H Q E →
      ∃ t, PSs (cxOf CX0 P w K mg base N d.qual d.scope (He.ma K (He.ga K x) m) cdv A outer s H E).nox d.body t ∧ t { nx := fun _ H' => Q .non H', rt := Q } (start N vs) H) : C8.Met P w K mg base (k + 1) (He.ga K x) m sp [] := by
  obtain ⟨fd, F⟩ := T.says.d.def_ i hi
  have e1 : d.dvs K = [] := by unfold He.DefD.dvs; rw [hdf]; rfl
  have e2 : d.kws K = [] := by unfold He.DefD.kws; rw [hkw]; rfl
  have e3 : He.fAd K d.at_ = He.ma K (He.ga K x) m := by rw [ha]; rfl
  rw [e1, e2, e3] at F
  have B := F.bindsN hb
  obtain ⟨oc, od, dV, kV, doc, pm, an, cdv, ct, osl, rfl, lk, hcd, _, _⟩ := F.ex
  obtain ⟨c, ec⟩ := He.codeIn_ref hcd
  have ecd : cdv = .ref (He.codeOf K (x, some m)) := by
    rw [He.codeOf_eq (K := K) (p := (x, some m)) lk ec, ec]
  refine ⟨_, _, ps, [], hC, hM, fn_of lk hcd S len fun A outer s H vs Q E hr hsp => ?_, B, .nil⟩
  obtain ⟨t, a, b⟩ := hbody cdv A outer s H vs Q E hr ecd hsp
  exact ⟨t, a.nox, b⟩
/-- a class of the top is made, by its __init__'s body -/
theorem Cn.mak (T : Cn w K mg base) {i k : Nat} {x : Str} {d : He.DefD} {N ps : List Str} {sp : Sp} (hi : fn[i]? = some d) (ha : d.at_ = (x, some ("__init__" : Str))) (hx : x ∈ gl) (hM : Mk K (He.ga K x) (He.ma K (He.ga K x) "__init__")) (hdf : d.dfl = []) (hkw : d.kwd = []) (S : FnScope N ps d.scope)
    (hb : ∀ (kV doc pm : Value) (an : Option Addr) (cdv ct : Value) (us : List Value), us.length = ps.length → bindArgs (PySem.W.fnOf d.name d.qual d.params d.body d.scope .none kV doc pm an cdv ct) ⟨us, []⟩ = pure (ps.zip us))
    (len : ∀ vs H Q E, sp vs H Q E → vs.length = ps.length)
    (hbody : ∀ (cdv : Value) (A : Around) (outer : List Env) (s : Shared) (H : Hp) (vs : List V) (Q : VK) (E : XK), Room k (A.deeper (envOfC d.qual d.scope s.heap.objs.size (He.ma K (He.ga K x) "__init__") cdv)) → sp vs H Q E →
      ∃ t, PSs (cxOf CX0 P w K mg base N d.qual d.scope (He.ma K (He.ga K x) "__init__") cdv A outer s H E).nox d.body t ∧ t { nx := fun _ H' => Q .non H', rt := Q } (start N vs) H) : C8.Mak P w K mg base (k + 1) x (He.ga K x) sp [] := by
  obtain ⟨fd, F⟩ := T.says.d.def_ i hi
  have e1 : d.dvs K = [] := by unfold He.DefD.dvs; rw [hdf]; rfl
  have e2 : d.kws K = [] := by unfold He.DefD.kws; rw [hkw]; rfl
  have e3 : He.fAd K d.at_ = He.ma K (He.ga K x) "__init__" := by rw [ha]; rfl
  rw [e1, e2, e3] at F
  have B := F.bindsN hb
  obtain ⟨oc, od, dV, kV, doc, pm, an, cdv, ct, osl, rfl, lk, hcd, _, _⟩ := F.ex
  refine ⟨_, _, ps, [], hM, fn_of lk hcd S len fun A outer s H vs Q E hr hsp => ?_, T.glo x hx, B, .nil⟩
  obtain ⟨t, a, b⟩ := hbody cdv A outer s H vs Q E hr hsp
  exact ⟨t, a.nox, b⟩
abbrev chC (K : PySem.W.Frag) : Addr := He.ga K "Checker"
def chFlds (p : Addr) (c : Int) : List (Str × V) := [("shape", .ref p), ("count", .int c)]
theorem ch_put (p : Addr) (c d : Int) : putF "count" (.int d) (chFlds p c) = chFlds p d := by
  unfold chFlds
  show (if ("shape" : Str) = "count" then _ else _) = _
  rw [if_neg (by decide +kernel)]
  show _ :: (if ("count" : Str) = "count" then _ else _) = _
  rw [if_pos rfl]
theorem ch_put0 (p : Addr) (d : Int) : putF "count" (.int d) (putF "shape" (.ref p) []) = chFlds p d := by
  show (if ("shape" : Str) = "count" then _ else _) = _
  rw [if_neg (by decide +kernel)]
  rfl
theorem ch_shape (p : Addr) (c : Int) : (chFlds p c).lookup ("shape" : Str) = some (.ref p) := rfl
theorem ch_count (p : Addr) (c : Int) : (chFlds p c).lookup ("count" : Str) = some (.int c) := by rw [← ch_put p c c, lookup_putF, if_pos rfl]
theorem ch_leaf (p : Addr) (c : Int) : (chFlds p c).lookup ("leaf" : Str) = none := by rw [← ch_put0, lookup_putF, if_neg (by decide +kernel), lookup_putF, if_neg (by decide +kernel)]; rfl
theorem ch_kind (p : Addr) (c : Int) : (chFlds p c).lookup ("kind" : Str) = none := by rw [← ch_put0, lookup_putF, if_neg (by decide +kernel), lookup_putF, if_neg (by decide +kernel)]; rfl
/-! Shape(..), Checker(..) -/
def spShape (K : PySem.W.Frag) : Sp := fun vs H Q _ => ∃ (x dx d a : Addr), vs = [.ref x, .ref d, .ref a] ∧ H x = some (.ins (shC K) dx []) ∧ Q .non (upd H x (.ins (shC K) dx (shFlds d a)))
theorem sc_Shape_init : FnScope ["self", "dims", "attrs"] ["self", "dims", "attrs"] (defScope s_Shape_init) := ⟨rfl, rfl, rfl, by decide +kernel, rfl, by decide +kernel, by decide +kernel⟩
theorem mk_Shape (T : Cn w K mg base) : C8.Mak P w K mg base 1 "Shape" (shC K) (spShape K) [] := by
  refine T.mak (i := 4) (d := d_Shape_init) (k := 0) rfl rfl (by decide +kernel) (He.mkr_ok (T.fo 12)) rfl rfl sc_Shape_init (fun _ _ _ _ _ _ us hl => match us, hl with | [_, _, _], _ => rfl) (fun vs H Q E h => ?_) (fun cdv A outer s H vs Q E hr h => ?_)
  · obtain ⟨_, _, _, _, rfl, _⟩ := h
    rfl
  obtain ⟨x, dx, d, a, rfl, h1, q⟩ := h
  refine ⟨_, (pss_cons (ps_fld (pv 0) (pv 1) rfl)
  (pss_one (ps_fld (pv 0) (pv 2) rfl))), ?_⟩
  refine ⟨_, rfl, _, rfl, _, _, _, _, rfl, h1, T.shCls, T.shDims, by decide, ?_⟩
  refine ⟨_, rfl, _, rfl, _, _, _, _, rfl, upd_same, T.shCls, T.shAttrs, show 1 < 1000 from by decide, ?_⟩
  rw [upd_upd]
  exact q
def spChecker (K : PySem.W.Frag) : Sp := fun vs H Q _ => ∃ (x dx p : Addr), vs = [.ref x, .ref p] ∧ H x = some (.ins (chC K) dx []) ∧ Q .non (upd H x (.ins (chC K) dx (chFlds p 0)))
theorem sc_Checker_init : FnScope ["self", "shape"] ["self", "shape"] (defScope s_Checker_init) := ⟨rfl, rfl, rfl, by decide +kernel, rfl, by decide +kernel, by decide +kernel⟩
theorem mk_Checker (T : Cn w K mg base) : C8.Mak P w K mg base 1 "Checker" (chC K) (spChecker K) [] := by
  refine T.mak (i := 9) (d := d_Checker_init) (k := 0) rfl rfl (by decide +kernel) (He.mkr_ok (T.fo 13)) rfl rfl sc_Checker_init (fun _ _ _ _ _ _ us hl => match us, hl with | [_, _], _ => rfl) (fun vs H Q E h => ?_) (fun cdv A outer s H vs Q E hr h => ?_)
  · obtain ⟨_, _, _, rfl, _⟩ := h
    rfl
  obtain ⟨x, dx, p, rfl, h1, q⟩ := h
  refine ⟨_, (pss_cons (ps_fld (pv 0) (pv 1) rfl)
  (pss_one (ps_fld (pv 0) pe_int rfl))), ?_⟩
  refine ⟨_, rfl, _, rfl, _, _, _, _, rfl, h1, T.chCls, T.chShape, by decide, ?_⟩
  refine ⟨_, rfl, _, _, _, _, rfl, upd_same, T.chCls, T.chCount, show 1 < 1000 from by decide, ?_⟩
  rw [upd_upd, ch_put0]
  exact q
/-! leaf -/
theorem paired_getR {α β : Type} {G : α → β → Prop} : ∀ {l : List α} {m : List β} {i : Nat} {b : β}, Paired G l m → m[i]? = some b → ∃ a, l[i]? = some a ∧ G a b
  | _, _, 0, b, .cons r t, h => by cases h; exact ⟨_, rfl, r⟩
  | _, _, i + 1, b, .cons r t, h => by
    obtain ⟨a, h1, h2⟩ := paired_getR (i := i) t h
    exact ⟨a, h1, h2⟩
theorem ixV_ne {o : Option Nat} : (ixV o = .non) ↔ o = none := by cases o <;> simp [ixV]
def spLeafK (K : PySem.W.Frag) : Sp := fun vs H Q _ => ∃ (x dx p : Addr) (c m : Int) (v : V) (e : Ex) (k : Kd) (sh : Shp), vs = [.ref x, v, .int m] ∧ H x = some (.ins (chC K) dx (chFlds p c)) ∧ ExAt H v e ∧ e.leaf = true ∧ ShAt (shC K) H p sh ∧ HasK sh e k ∧ ∀ H', Same H H' → Q (.str k.s) H'
theorem sc_Checker_leaf : FnScope ["self", "expression", "number", "kind", "word", "value", "at"] ["self", "expression", "number"] (defScope s_Checker_leaf) := ⟨rfl, rfl, rfl, by decide +kernel, rfl, by decide +kernel, by decide +kernel⟩
theorem mt_leaf (T : Cn w K mg base) : C8.Met P w K mg base 3 (chC K) "leaf" (spLeafK K) [] := by
  refine T.met (i := 10) (d := d_Checker_leaf) (k := 2) rfl rfl T.chCls (He.meth_ok (T.fo 10)) rfl rfl sc_Checker_leaf (fun _ _ _ _ _ _ us hl => match us, hl with | [_, _, _], _ => rfl) (fun vs H Q E h => ?_) (fun cdv A outer s H vs Q E hr hcd h => ?_)
  · obtain ⟨_, _, _, _, _, _, _, _, _, rfl, _⟩ := h
    rfl
  obtain ⟨x, dx, p, c, m, v, e, k, sh, rfl, hx, he, hl, S, hk, q⟩ := h
  have c1 := ok_is_value (P := P) T
  have c2 := ok_attr_index (P := P) T
  have c3 := ok_dim_index (P := P) T
  refine ⟨_, (pss_cons (ps_set (i := 3) sc_Checker_leaf.nd rfl (Or.inl rfl) pe_non)
  (pss_cons (ps_if (pt_cmpR op_eq (pe_ix ix_tup (pv 1) pe_int (fun _ _ => rfl)) pe_str (nomark _))
  (pss_cons (ps_asg (pe_slice sl_tupA (pv 1) (po_some pe_int) po_none) (pg_tup (by rfl) (pgs_cons (pg_name (i := 4) sc_Checker_leaf.nd rfl (Or.inl rfl)) (pgs_cons (pg_name (i := 5) sc_Checker_leaf.nd rfl (Or.inl rfl)) pgs_nil))))
  (pss_one (ps_if (PW.pt (pw_and (pt_cmpR op_in_seq (pv 4) (T.peRef "KINDS" (by decide +kernel)) (by rfl)) (pw_and1 (PW.pt (pw_or (pt_cmpR op_isN (pv 5) pe_non (nomark _)) (pw_or1 (pt_val (C8.pe_c c1 hr (by omega) rfl (pa_cons (pv 4) (pa_cons (pv 5) pa_nil))))))))))
  (pss_one (ps_set (i := 3) sc_Checker_leaf.nd rfl (Or.inl rfl) (pv 4)))
  pss_nil)))
  (pss_one (ps_if (pt_cmpR op_eq (pe_ix ix_tup (pv 1) pe_int (fun _ _ => rfl)) pe_str (nomark _))
  (pss_cons (ps_set (i := 6) sc_Checker_leaf.nd rfl (Or.inl rfl) (C8.pe_c c2 hr (by omega) rfl (pa_cons (pe_fld (pv 0) rfl) (pa_cons (pe_ix ix_tup (pv 1) pe_int (fun _ _ => rfl)) pa_nil))))
  (pss_one (ps_set (i := 3) sc_Checker_leaf.nd rfl (Or.inl rfl) (pe_ifExp (pt_cmpR op_isN (pv 6) pe_non (nomark _)) pe_non (pe_ix ix_tup (pe_ix ix_tup (pe_fld (pe_fld (pv 0) rfl) rfl) (pv 6) (fun _ _ => rfl)) pe_int (fun _ _ => rfl))))))
  (pss_one (ps_if (pt_cmpR op_notN (C8.pe_c c3 hr (by omega) rfl (pa_cons (pe_fld (pv 0) rfl) (pa_cons (pe_ix ix_tup (pv 1) pe_int (fun _ _ => rfl)) pa_nil))) pe_non (nomark _))
  (pss_one (ps_set (i := 3) sc_Checker_leaf.nd rfl (Or.inl rfl) pe_str))
  pss_nil)))))
  (pss_cons (ps_if (pt_cmpR op_isN (pv 3) pe_non (nomark _))
  (pss_one ps_never)
  pss_nil)
  (pss_one (ps_ret (pv 3)))))), ?_⟩
  cases he with
  | n1 => cases hl
  | n2 => cases hl
  | n3 => cases hl
  | @val t k' v' h =>
    cases hk with
    | val ho =>
      refine ⟨_, rfl, _, _, _, _, rfl, rfl, .inl (.inl h), at_of (j := 0) rfl rfl, rfl, _, rfl, iteD (fun _ => ?_) (fun h => absurd rfl h)⟩
      refine ⟨_, rfl, _, rfl, _, _, rfl, .inl (.inl h), fun z => absurd z not_whole, fun _ a ha => ?_⟩
      rw [cut1 (.str ("value" : Str)) [.str k.s, v'] (Nat.le_of_ble_eq_true rfl)]
      have g1 := Same.new (o := HO.tup [.str k.s, v']) ha
      refine ⟨_, _, rfl, .inl (.inl upd_same), rfl, _, _, rfl, _, _, rfl, rfl, ?_⟩
      refine ⟨_, rfl, _, _, rfl, .inr (T.tKinds _), rfl, rfl, _, rfl, ?_⟩
      show if inV (V.str k.s) vKinds = true then _ else _
      rw [in_kinds]
      refine iteT ⟨_, rfl, rfl, _, rfl, ?_⟩
      rcases ho with h2 | h2
      · subst h2
        exact iteD (fun _ => ⟨_, rfl, _, rfl, rfl, _, rfl, iteD (fun h => by cases h) (fun _ => ⟨_, rfl, q _ g1⟩)⟩) (fun h => absurd rfl h)
      · refine iteD (fun h => absurd h h2.ne) (fun _ => ?_)
        exact ⟨_, rfl, _, rfl, _, _, rfl, h2, _, rfl, iteT ⟨_, rfl, _, rfl, rfl, _, rfl, iteD (fun h => by cases h) (fun _ => ⟨_, rfl, q _ g1⟩)⟩⟩
  | @attr t nm h =>
    cases hk with
    | @attr _ i _ h1 h2 =>
      refine ⟨_, rfl, _, _, _, _, rfl, rfl, .inl (.inl h), at_of (j := 0) rfl rfl, rfl, _, rfl, iteD (fun h => absurd h ne_av) (fun _ => ?_)⟩
      refine ⟨_, rfl, _, _, _, _, rfl, rfl, .inl (.inl h), at_of (j := 0) rfl rfl, rfl, _, rfl, iteD (fun _ => ?_) (fun h => absurd rfl h)⟩
      refine ⟨_, rfl, _, _, _, _, _, rfl, hx, T.chCls, T.chShape, ch_shape p c, _, rfl, _, _, _, _, rfl, rfl, .inl (.inl h), at_of (j := 1) rfl rfl, p, sh, nm, rfl, S, ?_⟩
      rw [h1]
      obtain ⟨dx2, d, a, ds, as, g1, g2, g3, g4, g5⟩ := S.ex
      obtain ⟨r, e1, t2, e2, e3⟩ := paired_getR g5 h2
      subst e2
      refine ⟨_, rfl, rfl, _, rfl, iteD (fun h => by cases h) (fun _ => ?_)⟩
      refine ⟨_, rfl, _, _, _, _, _, rfl, hx, T.chCls, T.chShape, ch_shape p c, _, _, _, _, _, rfl, g1, T.shCls, T.shAttrs, fl_attrs d a, _, rfl, _, _, _, _, rfl, rfl, .inl (.inl g3), at_of (j := i) rfl e1, ?_⟩
      exact ⟨_, _, _, _, rfl, rfl, .inl (.inl e3), at_of (j := 1) rfl rfl, _, rfl, rfl, _, rfl, iteD (fun h => by cases h) (fun _ => ⟨_, rfl, q _ (Same.refl H)⟩)⟩
  | @dim t nm h =>
    cases hk with
    | @dim _ i h1 h2 =>
      refine ⟨_, rfl, _, _, _, _, rfl, rfl, .inl (.inl h), at_of (j := 0) rfl rfl, rfl, _, rfl, iteD (fun h => absurd h ne_dv) (fun _ => ?_)⟩
      refine ⟨_, rfl, _, _, _, _, rfl, rfl, .inl (.inl h), at_of (j := 0) rfl rfl, rfl, _, rfl, iteD (fun h => absurd h ne_da) (fun _ => ?_)⟩
      refine ⟨_, rfl, _, _, _, _, _, rfl, hx, T.chCls, T.chShape, ch_shape p c, _, rfl, _, _, _, _, rfl, rfl, .inl (.inl h), at_of (j := 1) rfl rfl, p, sh, nm, rfl, S, ?_⟩
      rw [h1]
      exact ⟨rfl, _, rfl, iteN (fun _ => ⟨_, rfl, rfl, _, rfl, iteD (fun h => by cases h) (fun _ => ⟨_, rfl, q _ (Same.refl H)⟩)⟩) (fun h => by cases h)⟩
end
end Ms
namespace Ms
open PySem PySem.Spec PyProof.Rows L2
/-- all but x and the tables is as it was -/
def Gx (x : Addr) (H H' : Hp) : Prop := ∀ b o, b ≠ x → H b = some o → noTbl o = true → H' b = some o
theorem Gx.refl (x : Addr) (H : Hp) : Gx x H H := fun _ _ _ h _ => h
theorem Gx.trans {x : Addr} {H H1 H2 : Hp} (a : Gx x H H1) (b : Gx x H1 H2) : Gx x H H2 := fun c o n h z => b c o n (a c o n h z) z
theorem Gk.gx {x : Addr} {H H' : Hp} (a : Gk H H') : Gx x H H' := fun c o _ h z => a c o h z
theorem Same.gx {x : Addr} {H H' : Hp} (a : Same H H') : Gx x H H' := fun c o _ h _ => a c o h
theorem Gx.put {x : Addr} {H : Hp} {o : HO} : Gx x H (upd H x o) := fun b u n e _ => by rw [upd_ne n]; exact e
theorem ch_dims (p : Addr) (c : Int) : (chFlds p c).lookup ("dims" : Str) = none := by rw [← ch_put0, lookup_putF, if_neg (by decide +kernel), lookup_putF, if_neg (by decide +kernel)]; rfl
theorem ExAt.gx {x C dx : Addr} {fs : List (Str × V)} {H H' : Hp} {v : V} {e : Ex} (g : Gx x H H') (hx : H x = some (.ins C dx fs)) (h : ExAt H v e) : ExAt H' v e := by
  have k : ∀ {t : Addr} {xs : List V}, H t = some (.tup xs) → H' t = some (.tup xs) := fun {t xs} h => g t _ (fun z => by rw [z, hx] at h; cases h) h rfl
  induction h with
  | val h => exact .val (k h)
  | attr h => exact .attr (k h)
  | dim h => exact .dim (k h)
  | n1 h _ ih => exact .n1 (k h) ih
  | n2 h _ _ i1 i2 => exact .n2 (k h) i1 i2
  | n3 h _ _ _ i1 i2 i3 => exact .n3 (k h) i1 i2 i3
theorem ShAt.gx {x C C2 dx p q : Addr} {c : Int} {H H' : Hp} {sh : Shp} (g : Gx x H H') (hx : H x = some (.ins C2 dx (chFlds q c))) (h : ShAt C H p sh) : ShAt C H' p sh := by
  have k : ∀ {t : Addr} {xs : List V}, H t = some (.tup xs) → H' t = some (.tup xs) := fun {t xs} h => g t _ (fun z => by rw [z, hx] at h; cases h) h rfl
  obtain ⟨dx, d, a, ds, as, h1, h2, h3, h4, h5⟩ := h.ex
  refine ⟨h.len, dx, d, a, ds, as, g _ _ (fun z => ?_) h1 rfl, k h2, k h3, Paired.mapG (fun _ _ ⟨t, e, z⟩ => ⟨t, e, k z⟩) h4, Paired.mapG (fun _ _ ⟨t, e, z⟩ => ⟨t, e, k z⟩) h5⟩
  rw [z, hx] at h1
  have e : chFlds q c = shFlds d a := (HO.ins.inj (Option.some.inj h1)).2.2
  have e2 := fl_dims d a
  rw [← e, ch_dims] at e2
  cases e2
theorem Tabs.gx {K : PySem.W.Frag} {x C dx : Addr} {fs : List (Str × V)} {o : HO} {H : Hp} (t : Tabs K H) (hx : H x = some (.ins C dx fs)) : Tabs K (upd H x o) := fun p hp => by
  obtain ⟨ps, e, z⟩ := t p hp
  refine ⟨ps, ?_, z⟩
  rw [upd_ne (fun z => by rw [z, hx] at e; cases e)]
  exact e
section
variable {P : Program} {w : World} {K : PySem.W.Frag} {mg : Str → Option Value} {base : Heap}
def spKindM (K : PySem.W.Frag) (n : Nat) : Sp := fun vs H Q _ => ∃ (x dx p : Addr) (c : Int) (v : V) (e : Ex) (k : Kd) (sh : Shp), vs = [.ref x, v] ∧ H x = some (.ins (chC K) dx (chFlds p c)) ∧ ExAt H v e ∧ e.ht < n ∧ ShAt (shC K) H p sh ∧ HasK sh e k ∧ Tabs K H ∧
  ∀ c' H', Gx x H H' → H' x = some (.ins (chC K) dx (chFlds p c')) → Tabs K H' → Q (.str k.s) H'
theorem sc_Checker_kind : FnScope ["self", "expression", "number", "kinds", "part", "result"] ["self", "expression"] (defScope s_Checker_kind) := ⟨rfl, rfl, rfl, by decide +kernel, rfl, by decide +kernel, by decide +kernel⟩
theorem mt_kind (T : Cn w K mg base) : ∀ n, C8.Met P w K mg base (n + 4) (chC K) "kind" (spKindM K n) []
  | 0 => by
    have no : ∀ vs H Q E, ¬ spKindM K 0 vs H Q E := fun vs H Q E h => by
      obtain ⟨_, _, _, _, _, _, _, _, _, _, _, h, _⟩ := h
      exact absurd h (Nat.not_lt_zero _)
    exact T.met (i := 11) (d := d_Checker_kind) (k := 3) rfl rfl T.chCls (He.meth_ok (T.fo 11)) rfl rfl sc_Checker_kind (fun _ _ _ _ _ _ us hl => match us, hl with | [_, _], _ => rfl) (fun vs H Q E h => (no _ _ _ _ h).elim) (fun cdv A outer s H vs Q E hr hcd h => (no _ _ _ _ h).elim)
  | n + 1 => by
    have c0 := mt_kind T n
    refine T.met (i := 11) (d := d_Checker_kind) (k := n + 4) rfl rfl T.chCls (He.meth_ok (T.fo 11)) rfl rfl sc_Checker_kind (fun _ _ _ _ _ _ us hl => match us, hl with | [_, _], _ => rfl) (fun vs H Q E h => ?_) (fun cdv A outer s H vs Q E hr hcd h => ?_)
    · obtain ⟨_, _, _, _, _, _, _, _, rfl, _⟩ := h
      rfl
    obtain ⟨x, dx, p, c, v, e, k, sh, rfl, hx, he, hn, S, hk, tb, q⟩ := h
    have c1 := mt_leaf (P := P) T
    have c2 := ok_u_kind_from (P := P) T
    refine ⟨_, (pss_cons (ps_set (i := 2) sc_Checker_kind.nd rfl (Or.inl rfl) (pe_fld (pv 0) rfl))
  (pss_cons (ps_fldaug (pv 0) pe_int in_add)
  (pss_cons (ps_if (pt_cmpR op_in_seq (pe_ix ix_tup (pv 1) pe_int (fun _ _ => rfl)) (T.peRef "LEAVES" (by decide +kernel)) (by rfl))
  (pss_one (ps_ret (C8.pe_mt c1 hr (by omega) (pv 0) (pa_cons (pv 1) (pa_cons (pv 2) pa_nil)))))
  pss_nil)
  (pss_cons (ps_setLc (i := 3) (own := [("part", 4)]) (by rfl) sc_Checker_kind.nd rfl rfl (sw_true rfl rfl rfl (by decide +kernel)) (pi_tup (pe_slice sl_tupA (pv 1) (po_some pe_int) po_none)) (blkOk_by (own := [("part", 4)]) (N := ["self", "expression", "number", "kinds", "part", "result"]) (sc := defScope s_Checker_kind) (by decide +kernel)) (fun _ _ _ _ _ => (pg_name (i := 4) sc_Checker_kind.nd rfl (Or.inl rfl))) (fun _ _ _ _ _ => pts_nil) (fun _ _ _ _ _ => (C8.pe_mt c0 hr (by omega) (pv 0) (pa_cons (pv 4) pa_nil))))
  (pss_cons (ps_set (i := 5) sc_Checker_kind.nd rfl (Or.inl rfl) (C8.pe_c c2 hr (by omega) rfl (pa_cons (pe_ix ix_tup (pv 1) pe_int (fun _ _ => rfl)) (pa_cons (pv 3) pa_nil))))
  (pss_cons (ps_if (pt_cmpR op_isN (pv 5) pe_non (nomark _))
  (pss_one ps_never)
  pss_nil)
  (pss_one (ps_ret (pv 5))))))))), ?_⟩
    obtain ⟨t, ws, rfl, ht⟩ := he.any
    have g1 : Gx x H (upd H x (.ins (chC K) dx (chFlds p (c + 1)))) := Gx.put
    refine ⟨_, rfl, _, _, _, _, _, rfl, hx, T.chCls, T.chCount, ch_count p c, ?_⟩
    refine ⟨_, rfl, _, _, _, _, _, rfl, hx, T.chCls, T.chCount, ch_count p c, _, _, rfl, rfl, _, _, hx, show 2 < 1000 from by decide, ?_⟩
    rw [ch_put]
    generalize hH1 : upd H x (.ins (chC K) dx (chFlds p (c + 1))) = H1 at g1
    have hx1 : H1 x = some (.ins (chC K) dx (chFlds p (c + 1))) := by rw [← hH1]; exact upd_same
    have tb1 : Tabs K H1 := by rw [← hH1]; exact tb.gx hx
    have he1 := he.gx g1 hx
    have S1 := S.gx g1 hx
    have ht1 : H1 t = _ := g1 _ _ (fun z => by rw [z, hx] at ht; cases ht) ht rfl
    refine ⟨_, rfl, _, _, _, _, rfl, rfl, .inl (.inl ht1), at_of (j := 0) rfl rfl, _, _, rfl, .inr (T.tLeaves _), rfl, rfl, _, rfl, ?_⟩
    show if inV (V.str e.ws) vLeaves = true then _ else _
    rw [in_leaf]
    refine iteB (fun hl => ?_) (fun hl => ?_)
    · refine ⟨_, rfl, _, _, _, rfl, hx1, ch_leaf _ _, _, rfl, _, rfl, x, dx, p, c + 1, c, _, e, k, sh, rfl, hx1, he1, hl, S1, hk, fun H2 s2 => ?_⟩
      exact q (c + 1) H2 (g1.trans (Same.gx s2)) (s2 _ _ hx1) (tb1.same s2)
    · obtain ⟨t', us', et, ht', hp'⟩ := he1.node hl
      cases et
      rw [ht1] at ht'
      have e2 : ws = us' := (List.cons.inj (HO.tup.inj (Option.some.inj ht'))).2
      subst e2
      have ew := Ex.ws_node hl
      rw [ew] at ht1
      obtain ⟨ks, hsg, hpk⟩ := hk.node hl
      have l3 : e.parts.length ≤ 3 := parts_len e
      have lw : ws.length = e.parts.length := Paired.len hp'
      have lk : ks.length = e.parts.length := Paired.len hpk
      refine ⟨_, rfl, _, rfl, _, _, rfl, .inl (.inl ht1), fun z => absurd z not_whole, fun _ a ha => ⟨a, rfl, ⟨_, .inl (.inl upd_same)⟩, fun D hD => ?_⟩⟩
      rw [cut1 _ _ (by omega)] at hD ⊢
      have hDn : H1 D = none := (Same.new ha).free hD
      have nx : ∀ {b : Addr}, H1 b = none → b ≠ x := fun h z => by rw [z, hx1] at h; cases h
      refine lc_tup (K := K) (a := a) (xs := ws) (fun i H' => Gx x (upd H1 a (.tup ws)) H' ∧ (∃ c', H' x = some (.ins (chC K) dx (chFlds p c'))) ∧ Tabs K H' ∧ H' D = some (.lst (kstrs (ks.take i)))) ⟨Same.gx (Same.new hD), ⟨_, (Same.new hD) _ _ ((Same.new ha) _ _ hx1)⟩, (tb1.same (Same.new ha)).same (Same.new hD), upd_same⟩ (fun i H' hi hP => .inl (.inl (hP.1 _ _ (nx ha) upd_same rfl))) (fun i y H' hi hP => ?_) (fun H' hP => ?_)
      · obtain ⟨s1, ⟨c', sx⟩, s3, s4⟩ := hP
        have g0 : Gx x H1 H' := (Same.gx (Same.new ha)).trans s1
        obtain ⟨pe, e1, e2⟩ := paired_get hp' hi
        obtain ⟨kp, hkp, e3⟩ := paired_getR hpk e1
        refine ⟨rfl, _, rfl, _, _, _, rfl, sx, ch_kind _ _, _, rfl, x, dx, p, c', y, pe, kp, sh, rfl, sx, e2.gx g0 hx1, Nat.lt_of_lt_of_le (Ex.ht_parts (List.mem_of_getElem? e1)) (by omega), S1.gx g0 hx1, e3, s3, fun c4 H4 g4 x4 t4 => ?_⟩
        have D4 := g4 _ _ (nx hDn) s4 rfl
        refine ⟨_, D4, ?_, fun b o nb eb no => ?_, ⟨c4, ?_⟩, fun pp hpp => ?_, ?_⟩
        · unfold kstrs
          rw [List.length_map, List.length_take, sizeLine_eq]; omega
        · have hb : b ≠ D := ne_of_none eb hD
          rw [upd_ne hb]
          exact g4 _ _ nb (s1 _ _ nb eb no) no
        · rw [upd_ne (Ne.symm (nx hDn))]
          exact x4
        · obtain ⟨ps, e5, z5⟩ := t4 pp hpp
          refine ⟨ps, ?_, z5⟩
          rw [upd_ne (fun z => by rw [z, D4] at e5; cases e5)]
          exact e5
        · rw [upd_same, List.take_add_one, hkp]
          unfold kstrs
          rw [List.map_append]
          rfl
      · obtain ⟨s1, ⟨c', sx⟩, s3, s4⟩ := hP
        have g0 : Gx x H1 H' := (Same.gx (Same.new ha)).trans s1
        rw [lw, ← lk, List.take_length] at s4
        have ht2 : H' t = _ := g0 _ _ (fun z => by rw [z, hx1] at ht1; cases ht1) ht1 rfl
        refine ⟨_, rfl, _, _, _, _, rfl, rfl, .inl (.inl ht2), at_of (j := 0) rfl rfl, _, rfl, e.wd, D, ks, k, rfl, .inl (.inl s4), hsg, by omega, s3, fun H2 g2 t2 => ?_⟩
        refine ⟨_, rfl, rfl, _, rfl, iteD (fun h => by cases h) (fun _ => ⟨_, rfl, ?_⟩)⟩
        exact q c' H2 (g1.trans (g0.trans g2.gx)) (g2 _ _ sx rfl) t2
/-! kind_of -/
def spKindOf (K : PySem.W.Frag) (n : Nat) : Sp := fun vs H Q _ => ∃ (p : Addr) (v : V) (e : Ex) (k : Kd) (sh : Shp), vs = [v, .ref p] ∧ ExAt H v e ∧ e.ht < n ∧ ShAt (shC K) H p sh ∧ HasK sh e k ∧ Tabs K H ∧
  ∀ H', Gk H H' → Tabs K H' → Q (.str k.s) H'
theorem sc_kind_of : FnScope ["expression", "shape"] ["expression", "shape"] (defScope s_kind_of) := ⟨rfl, rfl, rfl, by decide +kernel, rfl, by decide +kernel, by decide +kernel⟩
theorem ok_kind_of (T : Cn w K mg base) (n : Nat) : C8.Cal P w K mg base (n + 5) "kind_of" (spKindOf K n) [] := by
  refine T.cal (i := 13) (d := d_kind_of) (k := (n+4)) rfl rfl (by decide +kernel) rfl rfl sc_kind_of (fun _ _ _ _ _ _ us hl => match us, hl with | [_, _], _ => rfl) (fun vs H Q E h => ?_) (fun cdv A outer s H vs Q E hr hcd h => ?_)
  · obtain ⟨_, _, _, _, _, rfl, _⟩ := h
    rfl
  obtain ⟨p, v, e, k, sh, rfl, he, hn, S, hk, tb, q⟩ := h
  have c1 := mk_Checker (P := P) T
  have c2 := mt_kind (P := P) T n
  refine ⟨_, (pss_one (ps_ret (C8.pe_mt c2 hr (by omega) (C8.pe_mk c1 hr (by omega) rfl (pa_cons (pv 1) pa_nil)) (pa_cons (pv 0) pa_nil)))), ?_⟩
  refine ⟨_, rfl, fun x dx hx hdx ne => ⟨x, dx, p, rfl, upd_same, rfl, ?_⟩⟩
  rw [upd_upd]
  have s1 : Same H (upd (upd H dx (.own x)) x (.ins (chC K) dx (chFlds p 0))) := fun b o e => by
    rw [upd_ne (ne_of_none e hx), upd_ne (ne_of_none e hdx)]
    exact e
  refine ⟨_, _, _, rfl, upd_same, ch_kind _ _, _, rfl, x, dx, p, 0, v, e, k, sh, rfl, upd_same, he.gr (Same.gr s1), hn, S.gr (Same.gr s1), hk, tb.same s1, fun c' H' g hx' t' => ?_⟩
  refine q H' (fun b o e no => g b o (ne_of_none e hx) (s1 b o e) no) t'
end
end Ms
namespace Ms
open PySem PySem.Spec PyProof.Rows L2
/-! ### the plain law of spans -/
def alwB (s : Sn) (v : V) : Bool := if v = .non then s.ms else if s.lo = .non then false else (leB s.lo v && leB v s.hi)
theorem alwB_iff {s : Sn} {v : V} : alwB s v = true ↔ InS v s := by
  unfold alwB InS
  by_cases h : v = .non
  · rw [if_pos h]
    constructor
    · intro z; exact .inl ⟨h, z⟩
    · rintro (z | z)
      · exact z.2
      · exact absurd h z.1
  · rw [if_neg h]
    by_cases h2 : s.lo = .non
    · rw [if_pos h2]
      constructor
      · intro z; cases z
      · rintro (z | z)
        · exact absurd z.1 h
        · exact absurd h2 z.2.1
    · rw [if_neg h2]
      constructor
      · intro z
        have z := Bool.and_eq_true_iff.mp z
        exact .inr ⟨h, h2, z.1, z.2⟩
      · rintro (z | z)
        · exact absurd z.1 h
        · exact Bool.and_eq_true_iff.mpr ⟨z.2.2.1, z.2.2.2⟩
theorem inS_non {s : Sn} : InS .non s ↔ s.ms = true := by
  unfold InS
  constructor
  · rintro (z | z)
    · exact z.2
    · exact absurd rfl z.1
  · intro z; exact .inl ⟨rfl, z⟩
theorem inS_int {i a b : Int} {m : Bool} : InS (.int i) ⟨.int a, .int b, m⟩ ↔ a ≤ i ∧ i ≤ b := by
  unfold InS
  constructor
  · rintro (z | z)
    · cases z.1
    · have z1 := z.2.2.1
      have z2 := z.2.2.2
      rw [leB_int] at z1 z2
      exact ⟨of_decide_eq_true z1, of_decide_eq_true z2⟩
  · intro z
    refine .inr ⟨(fun e => by cases e), (fun e => by cases e), ?_, ?_⟩
    · rw [leB_int]; exact decide_eq_true z.1
    · rw [leB_int]; exact decide_eq_true z.2
theorem inS_nothing {v : V} : InS v nothing ↔ v = .non := by
  constructor
  · rintro (z | z)
    · exact z.1
    · exact absurd rfl z.2.1
  · intro z; exact .inl ⟨z, rfl⟩
theorem nothing_k (k : Kd) : SpanK k nothing := .inl rfl
theorem spanK_v {k : Kd} {s : Sn} (h : SpanK k s) (hn : s.lo ≠ .non) : IsV k s.lo ∧ IsV k s.hi := by
  rcases h with h | h
  · rw [h] at hn; exact absurd rfl hn
  · exact h
theorem spanK_int {s : Sn} (h : SpanK .int s) (hn : s.lo ≠ .non) : ∃ a b m, s = ⟨.int a, .int b, m⟩ ∧ Bd a ∧ Bd b := by
  obtain ⟨h1, h2⟩ := spanK_v h hn
  obtain ⟨a, e1, g1⟩ := isV_int h1
  obtain ⟨b, e2, g2⟩ := isV_int h2
  obtain ⟨lo, hi, m⟩ := s
  exact ⟨a, b, m, by rw [← e1, ← e2], g1, g2⟩
theorem spanK_flag {s : Sn} (h : SpanK .flag s) (hn : s.lo ≠ .non) : ∃ a b m, s = ⟨.bl a, .bl b, m⟩ := by
  obtain ⟨h1, h2⟩ := spanK_v h hn
  obtain ⟨a, e1⟩ := isV_flag h1
  obtain ⟨b, e2⟩ := isV_flag h2
  obtain ⟨lo, hi, m⟩ := s
  exact ⟨a, b, m, by rw [← e1, ← e2]⟩
theorem spanK_text {s : Sn} (h : SpanK .text s) (hn : s.lo ≠ .non) : ∃ a b m, s = ⟨.str a, .str b, m⟩ ∧ IsV .text (.str a) ∧ IsV .text (.str b) := by
  obtain ⟨h1, h2⟩ := spanK_v h hn
  obtain ⟨a, e1, g1⟩ := isV_text h1
  obtain ⟨b, e2, g2⟩ := isV_text h2
  obtain ⟨lo, hi, m⟩ := s
  exact ⟨a, b, m, by rw [← e1, ← e2], g1, g2⟩
/-! _bounded -/
def maxI (i j : Int) : Int := if j > i then j else i
def minI (i j : Int) : Int := if j < i then j else i
def bndS (l g : Int) (m : Bool) : Sn := if l ≥ 10 ^ 30 ∨ g ≤ -(10 ^ 30) then nothing else ⟨.int (maxI l (1 - 10 ^ 30)), .int (minI g (10 ^ 30 - 1)), m || (decide (l ≤ -(10 ^ 30)) || decide (g ≥ 10 ^ 30))⟩
theorem bndS_k (l g : Int) (m : Bool) : SpanK .int (bndS l g m) := by
  unfold bndS
  by_cases h : l ≥ 10 ^ 30 ∨ g ≤ -(10 ^ 30)
  · rw [if_pos h]; exact .inl rfl
  · rw [if_neg h]
    refine .inr ⟨?_, ?_⟩
    · show -(10 ^ 30) < maxI l (1 - 10 ^ 30) ∧ maxI l (1 - 10 ^ 30) < 10 ^ 30
      unfold maxI
      split <;> omega
    · show -(10 ^ 30) < minI g (10 ^ 30 - 1) ∧ minI g (10 ^ 30 - 1) < 10 ^ 30
      unfold minI
      split <;> omega
theorem bndS_ms (l g : Int) : (bndS l g true).ms = true := by
  unfold bndS
  split <;> rfl
theorem bndS_in {i l g : Int} {m : Bool} (h1 : l ≤ i) (h2 : i ≤ g) : InS (bndV i) (bndS l g m) := by
  unfold bndS bndV
  by_cases hb : -(10 ^ 30) < i ∧ i < 10 ^ 30
  · rw [if_pos hb, if_neg (by omega)]
    refine inS_int.mpr ⟨?_, ?_⟩
    · unfold maxI; split <;> omega
    · unfold minI; split <;> omega
  · rw [if_neg hb]
    refine inS_non.mpr ?_
    split
    · rfl
    · show (m || (decide (l ≤ -(10 ^ 30)) || decide (g ≥ 10 ^ 30))) = true
      by_cases h3 : l ≤ -(10 ^ 30)
      · rw [decide_eq_true h3]; simp
      · rw [decide_eq_true (show g ≥ 10 ^ 30 by omega)]; simp
/-! _hull -/
def hulS (xs : List V) (m : Bool) : Sn := match xs with
  | [] => nothing
  | x :: r => ⟨minV x r, maxV x r, m⟩
theorem hulS_k {k : Kd} {xs : List V} {m : Bool} (h : ∀ x ∈ xs, IsV k x) : SpanK k (hulS xs m) := by
  cases xs with
  | nil => exact .inl rfl
  | cons x r => exact .inr ⟨h _ (minV_mem x r), h _ (maxV_mem x r)⟩
theorem skAll_of {k : Kd} {xs : List V} (h : ∀ x ∈ xs, IsV k x) : SkAll xs := fun x hx y hy => (h x hx).sk (h y hy)
theorem hulS_in {k : Kd} {xs : List V} {m : Bool} {v : V} (h : ∀ x ∈ xs, IsV k x) (hv : v ∈ xs) : InS v (hulS xs m) := by
  cases xs with
  | nil => cases hv
  | cons x r => exact .inr ⟨(h _ hv).ne, (h _ (minV_mem x r)).ne, minV_le x r (skAll_of h) _ hv, maxV_le x r (skAll_of h) _ hv⟩
theorem hulS_ms (xs : List V) : (hulS xs true).ms = true := by cases xs <;> rfl
/-! _flags, _outcomes -/
def notN (v : V) : Bool := !decide (v = .non)
def flagS (ys : List V) : Sn := hulS (ys.filter notN) (decide (V.non ∈ ys))
theorem flag_known {ys : List V} (h : ∀ y ∈ ys, IsO .flag y) : ∀ x ∈ ys.filter notN, IsV .flag x := fun x hx => by
  obtain ⟨h1, h2⟩ := List.mem_filter.mp hx
  refine (h x h1).resolve_left fun e => ?_
  rw [e] at h2
  cases h2
theorem flagS_k {ys : List V} (h : ∀ y ∈ ys, IsO .flag y) : SpanK .flag (flagS ys) := hulS_k (flag_known h)
theorem flagS_in {ys : List V} {v : V} (h : ∀ y ∈ ys, IsO .flag y) (hv : v ∈ ys) : InS v (flagS ys) := by
  by_cases e : v = .non
  · subst e
    unfold flagS
    rw [decide_eq_true hv]
    exact inS_non.mpr (hulS_ms _)
  · refine hulS_in (flag_known h) (List.mem_filter.mpr ⟨hv, ?_⟩)
    unfold notN
    rw [decide_eq_false e]
    rfl
abbrev vOuts : List V := [.bl true, .bl false, .non]
def outc (s : Sn) : List V := vOuts.filter (alwB s)
theorem outc_o {s : Sn} : ∀ y ∈ outc s, IsO .flag y := fun y hy => by
  have h := (List.mem_filter.mp hy).1
  simp only [List.mem_cons, List.not_mem_nil, or_false] at h
  rcases h with rfl | rfl | rfl
  · exact .inr trivial
  · exact .inr trivial
  · exact .inl rfl
theorem outc_in {s : Sn} {v : V} (h : IsO .flag v) (hi : InS v s) : v ∈ outc s := by
  refine List.mem_filter.mpr ⟨?_, alwB_iff.mpr hi⟩
  rcases isO_ov h with rfl | ⟨b, rfl⟩
  · simp
  · cases b <;> simp
theorem outc_len (s : Sn) : (outc s).length ≤ 3 := List.length_filter_le _ _
/-! _decided -/
def decL (en : Bool) (f s : Sn) : List V := (outc f).flatMap fun a => (outc s).map fun b => decV en a b
theorem decL_o (en : Bool) (f s : Sn) : ∀ y ∈ decL en f s, IsO .flag y := fun y hy => by
  obtain ⟨a, _, h⟩ := List.mem_flatMap.mp hy
  obtain ⟨b, _, rfl⟩ := List.mem_map.mp h
  exact decV_isO _ _ _
theorem decL_in {en : Bool} {f s : Sn} {a b : V} (ha : IsO .flag a) (hb : IsO .flag b) (h1 : InS a f) (h2 : InS b s) : InS (decV en a b) (flagS (decL en f s)) :=
  flagS_in (decL_o en f s) (List.mem_flatMap.mpr ⟨a, outc_in ha h1, List.mem_map.mpr ⟨b, outc_in hb h2, rfl⟩⟩)
/-! _compared -/
def knownC (w : Wd) (f s : Sn) : List V :=
  if w = .eq ∨ w = .ne then (if leB f.lo s.hi && leB s.lo f.hi then [.bl (decide (w = .eq))] else []) ++ (if decide (f.lo = f.hi) && (decide (f.hi = s.lo) && decide (s.lo = s.hi)) then [] else [.bl (decide (w = .ne))])
  else (if cmpV w f.lo s.hi then [.bl true] else []) ++ (if cmpV w f.hi s.lo then [] else [.bl false])
def swW : Wd → Wd
  | .gt => .lt
  | .ge => .le
  | w => w
def cmpS (w : Wd) (f s : Sn) : Sn := if w = .gt ∨ w = .ge then hulS (knownC (swW w) s f) (s.ms || f.ms) else hulS (knownC w f s) (f.ms || s.ms)
theorem knownC_v (w : Wd) (f s : Sn) : ∀ x ∈ knownC w f s, IsV .flag x := fun x hx => by
  unfold knownC at hx
  split at hx
  · rcases List.mem_append.mp hx with h | h
    · split at h
      · rw [List.mem_singleton.mp h]; exact trivial
      · cases h
    · split at h
      · cases h
      · rw [List.mem_singleton.mp h]; exact trivial
  · rcases List.mem_append.mp hx with h | h
    · split at h
      · rw [List.mem_singleton.mp h]; exact trivial
      · cases h
    · split at h
      · cases h
      · rw [List.mem_singleton.mp h]; exact trivial
theorem cmpS_k (w : Wd) (f s : Sn) : SpanK .flag (cmpS w f s) := by
  unfold cmpS
  split
  · exact hulS_k (knownC_v _ _ _)
  · exact hulS_k (knownC_v _ _ _)
theorem cmpS_ms {w : Wd} {f s : Sn} (h : f.ms = true ∨ s.ms = true) : (cmpS w f s).ms = true := by
  have e : (f.ms || s.ms) = true ∧ (s.ms || f.ms) = true := by
    rcases h with h | h <;> rw [h] <;> simp
  unfold cmpS
  rw [e.1, e.2]
  split <;> exact hulS_ms _
/-- a value of a span, of the same kind as its ends -/
structure Bet (x : V) (s : Sn) : Prop where
  lo : leB s.lo x = true
  hi : leB x s.hi = true
  k1 : sk s.lo x = true
  k2 : sk x s.hi = true
theorem bet_of {k : Kd} {x : V} {s : Sn} (hk : SpanK k s) (hx : IsV k x) (h : InS x s) : Bet x s := by
  rcases h with h | h
  · exact absurd h.1 hx.ne
  · obtain ⟨a, b⟩ := spanK_v hk h.2.1
    exact ⟨h.2.2.1, h.2.2.2, a.sk hx, hx.sk b⟩
theorem leB_of_not {x y : V} (h : ltB y x = false) : leB x y = true := by unfold leB; rw [h]; rfl
theorem ltB_of_not {x y : V} (h : leB x y = false) : ltB y x = true := by unfold leB at h; cases e : ltB y x <;> rw [e] at h <;> first | rfl | cases h
theorem ltB_le {x y : V} : ltB x y = true ↔ leB y x = false := by unfold leB; cases ltB x y <;> simp
theorem known_lt {f s : Sn} {x y : V} (k : sk x y = true) (a : Bet x f) (b : Bet y s) : V.bl (ltB x y) ∈ knownC .lt f s := by
  unfold knownC
  rw [if_neg (by decide)]
  show V.bl (ltB x y) ∈ (if ltB f.lo s.hi = true then _ else _) ++ (if ltB f.hi s.lo = true then _ else _)
  cases h : ltB x y with
  | true =>
    refine List.mem_append_left _ ?_
    have e : ltB f.lo s.hi = true := by
      cases h2 : ltB f.lo s.hi with
      | true => rfl
      | false =>
        have q := leB_trans (sk_trans k b.k2) (sk_comm (sk_trans a.k1 (sk_trans k b.k2))) (leB_trans k b.k2 (leB_of_lt k h) b.hi) (leB_of_not h2)
        have q2 := leB_trans (sk_comm (sk_trans a.k1 (sk_trans k b.k2))) a.k1 (leB_of_not h2) a.lo
        have q3 := leB_trans b.k2 (sk_trans (sk_comm (sk_trans a.k1 (sk_trans k b.k2))) a.k1) b.hi q2
        rw [ltB_le.mp h] at q3
        cases q3
    rw [if_pos e]
    exact List.mem_singleton.mpr rfl
  | false =>
    refine List.mem_append_right _ ?_
    have e : ltB f.hi s.lo = false := by
      cases h2 : ltB f.hi s.lo with
      | false => rfl
      | true =>
        have k3 : sk f.hi s.lo = true := sk_trans (sk_comm a.k2) (sk_trans k (sk_comm b.k1))
        have q := leB_trans (sk_trans a.k2 k3) b.k1 (leB_trans a.k2 k3 a.hi (leB_of_lt k3 h2)) b.lo
        -- x ≤ y and not x < y: x = y, then hi < lo
        have e2 : leB y x = true := leB_of_not h
        have e3 := leB_trans (sk_trans b.k1 (sk_comm k)) a.k2 (leB_trans b.k1 (sk_comm k) b.lo e2) a.hi
        rw [ltB_le.mp h2] at e3
        cases e3
    rw [if_neg (by rw [e]; exact Bool.false_ne_true)]
    exact List.mem_singleton.mpr rfl
theorem known_le {f s : Sn} {x y : V} (k : sk x y = true) (a : Bet x f) (b : Bet y s) : V.bl (leB x y) ∈ knownC .le f s := by
  unfold knownC
  rw [if_neg (by decide)]
  show V.bl (leB x y) ∈ (if leB f.lo s.hi = true then _ else _) ++ (if leB f.hi s.lo = true then _ else _)
  cases h : leB x y with
  | true =>
    refine List.mem_append_left _ ?_
    have e : leB f.lo s.hi = true := leB_trans (sk_trans a.k1 k) b.k2 (leB_trans a.k1 k a.lo h) b.hi
    rw [if_pos e]
    exact List.mem_singleton.mpr rfl
  | false =>
    refine List.mem_append_right _ ?_
    have e : leB f.hi s.lo = false := by
      cases h2 : leB f.hi s.lo with
      | false => rfl
      | true =>
        have k3 : sk f.hi s.lo = true := sk_trans (sk_comm a.k2) (sk_trans k (sk_comm b.k1))
        have q := leB_trans (sk_trans a.k2 k3) b.k1 (leB_trans a.k2 k3 a.hi h2) b.lo
        rw [h] at q
        cases q
    rw [if_neg (by rw [e]; exact Bool.false_ne_true)]
    exact List.mem_singleton.mpr rfl
theorem known_eq {w : Wd} {f s : Sn} {x y : V} (hw : w = .eq ∨ w = .ne) (k : sk x y = true) (a : Bet x f) (b : Bet y s) : V.bl (cmpV w x y) ∈ knownC w f s := by
  unfold knownC
  rw [if_pos hw]
  by_cases e : x = y
  · subst e
    refine List.mem_append_left _ ?_
    have e1 : leB f.lo s.hi = true := leB_trans a.k1 b.k2 a.lo b.hi
    have e2 : leB s.lo f.hi = true := leB_trans b.k1 a.k2 b.lo a.hi
    rw [e1, e2]
    refine List.mem_singleton.mpr (congrArg V.bl ?_)
    rcases hw with rfl | rfl
    · show decide (x = x) = _
      rw [decide_eq_true rfl]; rfl
    · show (!decide (x = x)) = _
      rw [decide_eq_true rfl]; rfl
  · refine List.mem_append_right _ ?_
    have e3 : ¬ (decide (f.lo = f.hi) && (decide (f.hi = s.lo) && decide (s.lo = s.hi))) = true := fun z => by
      obtain ⟨z1, z⟩ := Bool.and_eq_true_iff.mp z
      obtain ⟨z2, z3⟩ := Bool.and_eq_true_iff.mp z
      have z1 := of_decide_eq_true z1
      have z2 := of_decide_eq_true z2
      have z3 := of_decide_eq_true z3
      have a1 := a.lo
      have b1 := b.lo
      have ka := a.k1
      have kb := b.k1
      rw [z1] at a1 ka
      rw [z3] at b1 kb
      have ex : x = f.hi := leB_antisymm a.k2 a.hi a1
      have ey : y = s.hi := leB_antisymm b.k2 b.hi b1
      exact e (by rw [ex, ey, z2, z3])
    rw [if_neg e3]
    refine List.mem_singleton.mpr (congrArg V.bl ?_)
    rcases hw with rfl | rfl
    · show decide (x = y) = _
      rw [decide_eq_false e]; rfl
    · show (!decide (x = y)) = _
      rw [decide_eq_false e]; rfl
theorem cmpS_in {w : Wd} {k : Kd} {f s : Sn} {x y : V} (hw : w.isCmp = true) (hf : SpanK k f) (hs : SpanK k s) (hx : IsV k x) (hy : IsV k y) (h1 : InS x f) (h2 : InS y s) : InS (.bl (cmpV w x y)) (cmpS w f s) := by
  have a := bet_of hf hx h1
  have b := bet_of hs hy h2
  have kk := hx.sk hy
  cases w with
  | eq => exact hulS_in (knownC_v _ _ _) (known_eq (.inl rfl) kk a b)
  | ne => exact hulS_in (knownC_v _ _ _) (known_eq (.inr rfl) kk a b)
  | lt => exact hulS_in (knownC_v _ _ _) (known_lt kk a b)
  | le => exact hulS_in (knownC_v _ _ _) (known_le kk a b)
  | gt => exact hulS_in (knownC_v _ _ _) (known_lt (sk_comm kk) b a)
  | ge => exact hulS_in (knownC_v _ _ _) (known_le (sk_comm kk) b a)
  | _ => cases hw
end Ms
namespace Ms
open PySem PySem.Spec PyProof.Rows L2
/-! _together -/
def hasLo (s : Sn) : Bool := !decide (s.lo = .non)
def togS (ss : List Sn) : Sn := match ss.filter hasLo with
  | [] => nothing
  | s :: r => ⟨minV s.lo (r.map fun z => z.lo), maxV s.hi (r.map fun z => z.hi), ss.any fun z => z.ms⟩
theorem togS_k {k : Kd} {ss : List Sn} (h : ∀ s ∈ ss, SpanK k s) : SpanK k (togS ss) := by
  unfold togS
  cases e : ss.filter hasLo with
  | nil => exact .inl rfl
  | cons s r =>
    have hv : ∀ z ∈ s :: r, IsV k z.lo ∧ IsV k z.hi := fun z hz => by
      rw [← e] at hz
      obtain ⟨z1, z2⟩ := List.mem_filter.mp hz
      refine spanK_v (h z z1) fun e => ?_
      unfold hasLo at z2
      rw [e] at z2
      cases z2
    refine .inr ⟨?_, ?_⟩
    · have m := minV_mem s.lo (r.map fun z => z.lo)
      have m2 : minV s.lo (r.map fun z => z.lo) ∈ (s :: r).map fun z => z.lo := m
      obtain ⟨z, hz, ez⟩ := List.mem_map.mp m2
      show IsV k (minV s.lo (r.map fun z => z.lo))
      rw [← ez]
      exact (hv z hz).1
    · have m := maxV_mem s.hi (r.map fun z => z.hi)
      have m2 : maxV s.hi (r.map fun z => z.hi) ∈ (s :: r).map fun z => z.hi := m
      obtain ⟨z, hz, ez⟩ := List.mem_map.mp m2
      show IsV k (maxV s.hi (r.map fun z => z.hi))
      rw [← ez]
      exact (hv z hz).2
theorem togS_in {k : Kd} {ss : List Sn} {s : Sn} {v : V} (h : ∀ s ∈ ss, SpanK k s) (hv : IsO k v) (hm : s ∈ ss) (hi : InS v s) : InS v (togS ss) := by
  rcases hi with ⟨e, hi⟩ | ⟨e, e2, l1, l2⟩
  · subst e
    refine inS_non.mpr ?_
    unfold togS
    cases ss.filter hasLo with
    | nil => rfl
    | cons a r => exact List.any_eq_true.mpr ⟨s, hm, hi⟩
  · have hs : s ∈ ss.filter hasLo := List.mem_filter.mpr ⟨hm, by unfold hasLo; rw [decide_eq_false e2]; rfl⟩
    have hx : IsV k v := hv.resolve_left e
    unfold togS
    cases e3 : ss.filter hasLo with
    | nil => rw [e3] at hs; cases hs
    | cons a r =>
      rw [e3] at hs
      have hq : ∀ z ∈ a :: r, IsV k z.lo ∧ IsV k z.hi := fun z hz => by
        rw [← e3] at hz
        obtain ⟨z1, z2⟩ := List.mem_filter.mp hz
        refine spanK_v (h z z1) fun e => ?_
        unfold hasLo at z2
        rw [e] at z2
        cases z2
      have v1 : ∀ x ∈ a.lo :: r.map fun z => z.lo, IsV k x := fun x hx => by
        have m2 : x ∈ (a :: r).map fun z => z.lo := hx
        obtain ⟨z, hz, ez⟩ := List.mem_map.mp m2
        rw [← ez]; exact (hq z hz).1
      have v2 : ∀ x ∈ a.hi :: r.map fun z => z.hi, IsV k x := fun x hx => by
        have m2 : x ∈ (a :: r).map fun z => z.hi := hx
        obtain ⟨z, hz, ez⟩ := List.mem_map.mp m2
        rw [← ez]; exact (hq z hz).2
      have k1 := v1 _ (minV_mem a.lo (r.map fun z => z.lo))
      have k2 := v2 _ (maxV_mem a.hi (r.map fun z => z.hi))
      have m1 : s.lo ∈ a.lo :: r.map fun z => z.lo := List.mem_map.mpr ⟨s, hs, rfl⟩
      have m2 : s.hi ∈ a.hi :: r.map fun z => z.hi := List.mem_map.mpr ⟨s, hs, rfl⟩
      refine .inr ⟨e, k1.ne, ?_, ?_⟩
      · exact leB_trans (k1.sk (v1 _ m1)) ((v1 _ m1).sk hx) (minV_le _ _ (skAll_of v1) _ m1) l1
      · exact leB_trans (hx.sk (v2 _ m2)) ((v2 _ m2).sk k2) l2 (maxV_le _ _ (skAll_of v2) _ m2)
/-! _chosen, _replaced, is missing -/
def chS (f s : Sn) (o : V) : Sn := if o = .non then nothing else if o = .bl true then f else s
def choS (sp f s : Sn) : Sn := togS ((outc sp).map (chS f s))
theorem chS_k {k : Kd} {f s : Sn} (hf : SpanK k f) (hs : SpanK k s) (o : V) : SpanK k (chS f s o) := by
  unfold chS
  split
  · exact .inl rfl
  · split
    · exact hf
    · exact hs
def repS (f s : Sn) : Sn := if f.ms = false then f else if f.lo = .non then s else togS [⟨f.lo, f.hi, false⟩, s]
def canV (s : Sn) (m : V) : Bool := if m = .bl true then s.ms else hasLo s
def misS (s : Sn) : Sn := flagS (([.bl true, .bl false] : List V).filter (canV s))
/-! one part -/
def sglS : Wd → Sn → Sn
  | .neg, ⟨.int a, .int b, m⟩ => ⟨.int (-b), .int (-a), m⟩
  | .not, ⟨.bl a, .bl b, m⟩ => ⟨.bl (!b), .bl (!a), m⟩
  | .len, ⟨.str a, .str b, m⟩ => if a = b then ⟨.int a.length, .int a.length, m⟩ else ⟨.int 0, .int 200, m⟩
  | _, ⟨.int a, .int b, m⟩ => if a ≥ 0 then ⟨.int a, .int b, m⟩ else if b < 0 then ⟨.int (-b), .int (-a), m⟩ else ⟨.int 0, .int (maxI (-a) b), m⟩
  | _, _ => nothing
/-! arithmetic -/
def iv : V → Int
  | .int i => i
  | _ => 0
def hulB (xs : List V) (m : Bool) : Sn := match xs with
  | [] => nothing
  | x :: r => bndS (iv (minV x r)) (iv (maxV x r)) m
theorem hulB_k (xs : List V) (m : Bool) : SpanK .int (hulB xs m) := by
  cases xs with
  | nil => exact .inl rfl
  | cons x r => exact bndS_k _ _ _
theorem hulB_ms (xs : List V) : (hulB xs true).ms = true := by
  cases xs with
  | nil => rfl
  | cons x r => exact bndS_ms _ _
theorem hulB_in {zs : List Int} {m : Bool} {i : Int} (h1 : ∃ p ∈ zs, p ≤ i) (h2 : ∃ p ∈ zs, i ≤ p) : InS (bndV i) (hulB (zs.map V.int) m) := by
  obtain ⟨p, hp, lp⟩ := h1
  obtain ⟨q, hq, lq⟩ := h2
  cases zs with
  | nil => cases hp
  | cons z r =>
    have sa : SkAll (V.int z :: r.map V.int) := fun x hx y hy => by
      obtain ⟨a, _, rfl⟩ := List.mem_map.mp (show x ∈ (z :: r).map V.int from hx)
      obtain ⟨b, _, rfl⟩ := List.mem_map.mp (show y ∈ (z :: r).map V.int from hy)
      rfl
    have e1 := minV_le (V.int z) (r.map V.int) sa (.int p) (List.mem_map.mpr ⟨p, hp, rfl⟩)
    have e2 := maxV_le (V.int z) (r.map V.int) sa (.int q) (List.mem_map.mpr ⟨q, hq, rfl⟩)
    obtain ⟨a, _, ea⟩ := List.mem_map.mp (show minV (V.int z) (r.map V.int) ∈ (z :: r).map V.int from minV_mem _ _)
    obtain ⟨b, _, eb⟩ := List.mem_map.mp (show maxV (V.int z) (r.map V.int) ∈ (z :: r).map V.int from maxV_mem _ _)
    rw [← ea, leB_int] at e1
    rw [← eb, leB_int] at e2
    show InS (bndV i) (bndS (iv (minV (V.int z) (r.map V.int))) (iv (maxV (V.int z) (r.map V.int))) m)
    rw [← ea, ← eb]
    have f1 := of_decide_eq_true e1
    have f2 := of_decide_eq_true e2
    exact bndS_in (show a ≤ i by omega) (show i ≤ b by omega)
theorem lin {a b x : Int} (y : Int) (h1 : a ≤ x) (h2 : x ≤ b) : (a * y ≤ x * y ∨ b * y ≤ x * y) ∧ (x * y ≤ a * y ∨ x * y ≤ b * y) := by
  by_cases hy : 0 ≤ y
  · exact ⟨.inl (Int.mul_le_mul_of_nonneg_right h1 hy), .inr (Int.mul_le_mul_of_nonneg_right h2 hy)⟩
  · have hy : y ≤ 0 := by omega
    exact ⟨.inr (Int.mul_le_mul_of_nonpos_right h2 hy), .inl (Int.mul_le_mul_of_nonpos_right h1 hy)⟩
theorem lin2 {a b x : Int} (y : Int) (h1 : a ≤ x) (h2 : x ≤ b) : (y * a ≤ y * x ∨ y * b ≤ y * x) ∧ (y * x ≤ y * a ∨ y * x ≤ y * b) := by
  have h := lin y h1 h2
  rw [Int.mul_comm y a, Int.mul_comm y x, Int.mul_comm y b]
  exact h
def prods (a b c d : Int) : List Int := [a, b].flatMap fun x => [c, d].map fun y => x * y
theorem prods_in {a b c d x y : Int} {m : Bool} (h1 : a ≤ x) (h2 : x ≤ b) (h3 : c ≤ y) (h4 : y ≤ d) : InS (bndV (x * y)) (hulB ((prods a b c d).map V.int) m) := by
  obtain ⟨l1, l2⟩ := lin y h1 h2
  obtain ⟨a1, a2⟩ := lin2 a h3 h4
  obtain ⟨b1, b2⟩ := lin2 b h3 h4
  have e : prods a b c d = [a * c, a * d, b * c, b * d] := rfl
  rw [e]
  refine hulB_in ?_ ?_
  · rcases l1 with l1 | l1
    · rcases a1 with a1 | a1
      · exact ⟨a * c, by simp, Int.le_trans a1 l1⟩
      · exact ⟨a * d, by simp, Int.le_trans a1 l1⟩
    · rcases b1 with b1 | b1
      · exact ⟨b * c, by simp, Int.le_trans b1 l1⟩
      · exact ⟨b * d, by simp, Int.le_trans b1 l1⟩
  · rcases l2 with l1 | l1
    · rcases a2 with a1 | a1
      · exact ⟨a * c, by simp, Int.le_trans l1 a1⟩
      · exact ⟨a * d, by simp, Int.le_trans l1 a1⟩
    · rcases b2 with b1 | b1
      · exact ⟨b * c, by simp, Int.le_trans l1 b1⟩
      · exact ⟨b * d, by simp, Int.le_trans l1 b1⟩
/-- what the divisor's ends are -/
def ends (c d : Int) : List Int := (if c < 0 then [c, minI d (-1)] else []) ++ (if d > 0 then [maxI c 1, d] else [])
def quots (a b c d : Int) : List Int := [a, b].flatMap fun x => (ends c d).map fun y => x.fdiv y
theorem fd_neg (x y : Int) : x.fdiv y = (-x).fdiv (-y) := by rw [Int.neg_fdiv_neg]
theorem fd_pos {x y : Int} (h : 0 < y) : x.fdiv y = x / y := Int.fdiv_eq_ediv_of_nonneg x (Int.le_of_lt h)
theorem fd1p {a b x y : Int} (hy : 0 < y) (h1 : a ≤ x) (h2 : x ≤ b) : a.fdiv y ≤ x.fdiv y ∧ x.fdiv y ≤ b.fdiv y := by
  rw [fd_pos hy, fd_pos hy, fd_pos hy]
  exact ⟨Int.ediv_le_ediv hy h1, Int.ediv_le_ediv hy h2⟩
theorem ed_mono {x p q : Int} (hp : 0 < p) (h : p ≤ q) : (0 ≤ x → x / q ≤ x / p) ∧ (x < 0 → x / p ≤ x / q) := by
  have hq : 0 < q := by omega
  constructor
  · intro hx
    refine (Int.le_ediv_iff_mul_le hp).mpr ?_
    have e1 : 0 ≤ x / q := Int.ediv_nonneg hx (Int.le_of_lt hq)
    exact Int.le_trans (Int.mul_le_mul_of_nonneg_left h e1) (Int.ediv_mul_le x (by omega))
  · intro hx
    refine (Int.le_ediv_iff_mul_le hq).mpr ?_
    have e1 : x / p ≤ 0 := Int.le_of_lt (Int.ediv_neg_of_neg_of_pos hx hp)
    exact Int.le_trans (Int.mul_le_mul_of_nonpos_left e1 h) (Int.ediv_mul_le x (by omega))
theorem fd2p {p q x y : Int} (hp : 0 < p) (h1 : p ≤ y) (h2 : y ≤ q) : (x.fdiv p ≤ x.fdiv y ∨ x.fdiv q ≤ x.fdiv y) ∧ (x.fdiv y ≤ x.fdiv p ∨ x.fdiv y ≤ x.fdiv q) := by
  have hy : 0 < y := by omega
  have hq : 0 < q := by omega
  rw [fd_pos hy, fd_pos hp, fd_pos hq]
  by_cases hx : 0 ≤ x
  · exact ⟨.inr ((ed_mono hy h2).1 hx), .inl ((ed_mono hp h1).1 hx)⟩
  · exact ⟨.inl ((ed_mono hp h1).2 (by omega)), .inr ((ed_mono hy h2).2 (by omega))⟩
theorem fd4p {a b p q x y : Int} (hp : 0 < p) (h1 : a ≤ x) (h2 : x ≤ b) (h3 : p ≤ y) (h4 : y ≤ q) :
    (a.fdiv p ≤ x.fdiv y ∨ a.fdiv q ≤ x.fdiv y) ∧ (x.fdiv y ≤ b.fdiv p ∨ x.fdiv y ≤ b.fdiv q) := by
  have hy : 0 < y := by omega
  obtain ⟨l1, l2⟩ := fd1p hy h1 h2
  obtain ⟨a1, _⟩ := fd2p (x := a) hp h3 h4
  obtain ⟨_, b2⟩ := fd2p (x := b) hp h3 h4
  refine ⟨a1.imp (fun z => Int.le_trans z l1) (fun z => Int.le_trans z l1), b2.imp (fun z => Int.le_trans l2 z) (fun z => Int.le_trans l2 z)⟩
theorem fd4n {a b p q x y : Int} (hq : q < 0) (h1 : a ≤ x) (h2 : x ≤ b) (h3 : p ≤ y) (h4 : y ≤ q) :
    (b.fdiv p ≤ x.fdiv y ∨ b.fdiv q ≤ x.fdiv y) ∧ (x.fdiv y ≤ a.fdiv p ∨ x.fdiv y ≤ a.fdiv q) := by
  have z := fd4p (a := -b) (b := -a) (p := -q) (q := -p) (x := -x) (y := -y) (by omega) (by omega) (by omega) (by omega) (by omega)
  rw [← fd_neg, ← fd_neg, ← fd_neg, ← fd_neg, ← fd_neg] at z
  exact ⟨z.1.symm, z.2.symm⟩
theorem mem_quots {a b c d x y : Int} (hx : x = a ∨ x = b) (hy : y ∈ ends c d) : x.fdiv y ∈ quots a b c d :=
  List.mem_flatMap.mpr ⟨x, by rcases hx with rfl | rfl <;> simp, List.mem_map.mpr ⟨y, hy, rfl⟩⟩
theorem quots_in {a b c d x y : Int} {m : Bool} (hy : y ≠ 0) (h1 : a ≤ x) (h2 : x ≤ b) (h3 : c ≤ y) (h4 : y ≤ d) : InS (bndV (x.fdiv y)) (hulB ((quots a b c d).map V.int) m) := by
  by_cases hp : 0 < y
  · have e1 : maxI c 1 ∈ ends c d := by unfold ends; rw [if_pos (show d > 0 by omega)]; simp
    have e2 : d ∈ ends c d := by unfold ends; rw [if_pos (show d > 0 by omega)]; simp
    have g1 : 0 < maxI c 1 ∧ maxI c 1 ≤ y := by unfold maxI; split <;> omega
    obtain ⟨l, u⟩ := fd4p g1.1 h1 h2 g1.2 h4
    refine hulB_in ?_ ?_
    · rcases l with l | l
      · exact ⟨_, mem_quots (.inl rfl) e1, l⟩
      · exact ⟨_, mem_quots (.inl rfl) e2, l⟩
    · rcases u with l | l
      · exact ⟨_, mem_quots (.inr rfl) e1, l⟩
      · exact ⟨_, mem_quots (.inr rfl) e2, l⟩
  · have e1 : c ∈ ends c d := by unfold ends; rw [if_pos (show c < 0 by omega)]; simp
    have e2 : minI d (-1) ∈ ends c d := by unfold ends; rw [if_pos (show c < 0 by omega)]; simp
    have g1 : minI d (-1) < 0 ∧ y ≤ minI d (-1) := by unfold minI; split <;> omega
    obtain ⟨l, u⟩ := fd4n g1.1 h1 h2 h3 g1.2
    refine hulB_in ?_ ?_
    · rcases l with l | l
      · exact ⟨_, mem_quots (.inr rfl) e1, l⟩
      · exact ⟨_, mem_quots (.inr rfl) e2, l⟩
    · rcases u with l | l
      · exact ⟨_, mem_quots (.inl rfl) e1, l⟩
      · exact ⟨_, mem_quots (.inl rfl) e2, l⟩
def zer (c d : Int) : Bool := decide (c ≤ 0) && decide (0 ≤ d)
def ariI (w : Wd) (a b c d : Int) (m : Bool) : Sn := match w with
  | .add => bndS (a + c) (b + d) m
  | .sub => bndS (a - d) (b - c) m
  | .mul => hulB ((prods a b c d).map V.int) m
  | .div => hulB ((quots a b c d).map V.int) (m || zer c d)
  | _ => if c = 0 ∧ d = 0 then nothing else ⟨.int (minI (c + 1) 0), .int (maxI (d - 1) 0), m || zer c d⟩
def ariS (w : Wd) (f s : Sn) : Sn := ariI w (iv f.lo) (iv f.hi) (iv s.lo) (iv s.hi) (f.ms || s.ms)
theorem ariI_ms (w : Wd) (a b c d : Int) : (ariI w a b c d true).ms = true := by
  unfold ariI
  split
  · exact bndS_ms _ _
  · exact bndS_ms _ _
  · exact hulB_ms _
  · exact hulB_ms _
  · split <;> rfl
theorem ariI_k {w : Wd} {a b c d : Int} {m : Bool} (hc : Bd c) (hd : Bd d) : SpanK .int (ariI w a b c d m) := by
  unfold ariI
  obtain ⟨c1, c2⟩ := hc
  obtain ⟨d1, d2⟩ := hd
  split
  · exact bndS_k _ _ _
  · exact bndS_k _ _ _
  · exact hulB_k _ _
  · exact hulB_k _ _
  · split
    · exact .inl rfl
    · refine .inr ⟨?_, ?_⟩
      · show -(10 ^ 30) < minI (c + 1) 0 ∧ minI (c + 1) 0 < 10 ^ 30
        unfold minI
        split <;> omega
      · show -(10 ^ 30) < maxI (d - 1) 0 ∧ maxI (d - 1) 0 < 10 ^ 30
        unfold maxI
        split <;> omega
theorem ariI_in {w : Wd} {a b c d x y : Int} {m : Bool} (hw : w.isAri = true) (hc : Bd c) (hd : Bd d) (h1 : a ≤ x) (h2 : x ≤ b) (h3 : c ≤ y) (h4 : y ≤ d) : InS (ariV w x y) (ariI w a b c d m) := by
  obtain ⟨c1, c2⟩ := hc
  obtain ⟨d1, d2⟩ := hd
  have hz : y = 0 → zer c d = true := fun e => by
    unfold zer
    rw [decide_eq_true (show c ≤ 0 by omega), decide_eq_true (show 0 ≤ d by omega)]
    rfl
  cases w with
  | add => exact bndS_in (by omega) (by omega)
  | sub => exact bndS_in (by omega) (by omega)
  | mul => exact prods_in h1 h2 h3 h4
  | div =>
    show InS (if y = 0 then .non else bndV (x.fdiv y)) (hulB ((quots a b c d).map V.int) (m || zer c d))
    by_cases e : y = 0
    · rw [if_pos e, hz e]
      refine inS_non.mpr ?_
      rw [Bool.or_true]
      exact hulB_ms _
    · rw [if_neg e]
      exact quots_in e h1 h2 h3 h4
  | mod =>
    show InS (if y = 0 then .non else bndV (x.fmod y)) (if c = 0 ∧ d = 0 then nothing else ⟨.int (minI (c + 1) 0), .int (maxI (d - 1) 0), m || zer c d⟩)
    by_cases e : y = 0
    · rw [if_pos e, hz e]
      refine inS_non.mpr ?_
      rw [Bool.or_true]
      split <;> rfl
    · rw [if_neg e, if_neg (by omega)]
      have hr : (0 < y → 0 ≤ x.fmod y ∧ x.fmod y ≤ y - 1) ∧ (y < 0 → y + 1 ≤ x.fmod y ∧ x.fmod y ≤ 0) := by
        constructor
        · intro hp
          have e1 := Int.fmod_nonneg_of_pos x hp
          have e2 := Int.fmod_lt_of_pos x hp
          omega
        · intro hp
          have e0 : x.fmod y = -((-x).fmod (-y)) := by rw [Int.neg_fmod_neg]; omega
          have e1 := Int.fmod_nonneg_of_pos (-x) (show 0 < -y by omega)
          have e2 := Int.fmod_lt_of_pos (-x) (show 0 < -y by omega)
          omega
      have hb : minI (c + 1) 0 ≤ x.fmod y ∧ x.fmod y ≤ maxI (d - 1) 0 := by
        unfold minI maxI
        by_cases hp : 0 < y
        · have := hr.1 hp
          split <;> split <;> omega
        · have := hr.2 (by omega)
          split <;> split <;> omega
      have hbd : -(10 ^ 30) < x.fmod y ∧ x.fmod y < 10 ^ 30 := by
        by_cases hp : 0 < y
        · have := hr.1 hp; omega
        · have := hr.2 (by omega); omega
      unfold bndV
      rw [if_pos hbd]
      exact inS_int.mpr hb
  | _ => cases hw
/-! texts -/
theorem pre_not_lt : ∀ l m : List Nat, ¬ (l ++ m < l)
  | [], m, h => List.not_lt_nil m h
  | a :: l, m, h => by
    rw [List.cons_append, List.cons_lt_cons_iff] at h
    rcases h with h | h
    · exact absurd h (Nat.lt_irrefl _)
    · exact pre_not_lt l m h.2
theorem til_not_lt : ∀ (n : Nat) (l : List Nat), l.length ≤ n → (∀ c ∈ l, c ≤ 126) → ¬ (List.replicate n 126 < l)
  | n, [], _, _, h => List.not_lt_nil _ h
  | 0, a :: l, hl, _, _ => by simp at hl
  | n + 1, a :: l, hl, hc, h => by
    rw [List.replicate_succ, List.cons_lt_cons_iff] at h
    rcases h with h | h
    · have := hc a List.mem_cons_self
      omega
    · exact til_not_lt n l (by simpa using hl) (fun c hm => hc c (List.mem_cons_of_mem _ hm)) h.2
theorem leB_pre (x y : Str) : leB (.str x) (.str (x ++ y)) = true := by
  unfold leB
  rw [ltB_str, str_app_list, decide_eq_false (pre_not_lt _ _)]
  rfl
theorem okc_le {c : Nat} (h : OkC c) : c ≤ 126 := by
  have e1 : (txBefore.cps.toList.all fun c => decide (c ≤ 126)) = true := by decide +kernel
  have e2 : (txBehind.cps.toList.all fun c => decide (c ≤ 126)) = true := by decide +kernel
  rcases h with h | h | h
  · exact of_decide_eq_true (List.all_eq_true.mp e1 _ h)
  · exact of_decide_eq_true (List.all_eq_true.mp e2 _ h)
  · omega
theorem tildes_cps : tildes.cps.toList = List.replicate 200 126 := by decide +kernel
theorem leB_tildes {z : Str} (h : IsV .text (.str z)) : leB (.str z) (.str tildes) = true := by
  unfold leB
  rw [ltB_str, tildes_cps, decide_eq_false (til_not_lt 200 _ (by rw [Array.length_toList]; exact h.1) fun c hc => okc_le (h.2 c hc))]
  rfl
theorem tildes_v : IsV .text (.str tildes) := by
  refine ⟨by decide +kernel, fun c hc => ?_⟩
  rw [tildes_cps] at hc
  have e : c = 126 := List.eq_of_mem_replicate hc
  subst e
  exact .inr (.inl (by decide +kernel))
def joiS (f s : Sn) : Sn := match f, s with
  | ⟨.str a, .str b, m⟩, ⟨.str c, .str d, n⟩ => if a = b ∧ c = d then (if a.length + c.length > 200 then nothing else ⟨.str (a ++ c), .str (a ++ c), m || n⟩) else ⟨.str a, .str tildes, true⟩
  | _, _ => nothing
end Ms
namespace Ms
open PySem PySem.Spec PyProof.Rows L2
/-! the span of an expression from those of its parts -/
def strS (w : Wd) (ss : List Sn) : Sn := match ss with
  | [s] => sglS w s
  | [f, s] => if w.isCmp = true then cmpS w f s else if w = .joined then joiS f s else ariS w f s
  | _ => nothing
def spF (w : Wd) (ss : List Sn) : Sn := match w with
  | .miss => misS (ss.getD 0 nothing)
  | .and => flagS (decL false (ss.getD 0 nothing) (ss.getD 1 nothing))
  | .or => flagS (decL true (ss.getD 0 nothing) (ss.getD 1 nothing))
  | .ite => choS (ss.getD 0 nothing) (ss.getD 1 nothing) (ss.getD 2 nothing)
  | .orelse => repS (ss.getD 0 nothing) (ss.getD 1 nothing)
  | w => if (ss.any fun s => decide (s.lo = .non)) = true then nothing else strS w ss
theorem spF_strict {w : Wd} {ss : List Sn} (h : w.strict = true) : spF w ss = if (ss.any fun s => decide (s.lo = .non)) = true then nothing else strS w ss := by
  cases w <;> first | rfl | cases h
/-! joined -/
theorem joiS_k {f s : Sn} (hf : SpanK .text f) (hs : SpanK .text s) (h1 : f.lo ≠ .non) (h2 : s.lo ≠ .non) : SpanK .text (joiS f s) := by
  obtain ⟨a, b, m, rfl, va, vb⟩ := spanK_text hf h1
  obtain ⟨c, d, n, rfl, vc, vd⟩ := spanK_text hs h2
  show SpanK .text (if a = b ∧ c = d then (if a.length + c.length > 200 then nothing else ⟨.str (a ++ c), .str (a ++ c), m || n⟩) else ⟨.str a, .str tildes, true⟩)
  split
  · split
    · exact .inl rfl
    · have hv : IsV .text (.str (a ++ c)) := by
        refine ⟨?_, fun x hx => ?_⟩
        · show (a.cps ++ c.cps).size ≤ 200
          rw [Array.size_append]
          show a.length + c.length ≤ 200
          omega
        · rw [str_app_list] at hx
          rcases List.mem_append.mp hx with z | z
          · exact va.2 x z
          · exact vc.2 x z
      exact .inr ⟨hv, hv⟩
  · exact .inr ⟨va, tildes_v⟩
theorem joiS_ms {f s : Sn} (hf : SpanK .text f) (hs : SpanK .text s) (h1 : f.lo ≠ .non) (h2 : s.lo ≠ .non) (h : f.ms = true ∨ s.ms = true) : (joiS f s).ms = true := by
  obtain ⟨a, b, m, rfl, va, vb⟩ := spanK_text hf h1
  obtain ⟨c, d, n, rfl, vc, vd⟩ := spanK_text hs h2
  show (if a = b ∧ c = d then (if a.length + c.length > 200 then nothing else ⟨.str (a ++ c), .str (a ++ c), m || n⟩) else (⟨.str a, .str tildes, true⟩ : Sn)).ms = true
  split
  · split
    · rfl
    · show (m || n) = true
      rcases h with h | h
      · rw [show m = true from h]; simp
      · rw [show n = true from h]; simp
  · rfl
theorem str_app_len (a c : Str) : (a ++ c).length = a.length + c.length := by
  show (a.cps ++ c.cps).size = _
  rw [Array.size_append]
  rfl
theorem joiS_in {f s : Sn} {x y : Str} (hf : SpanK .text f) (hs : SpanK .text s) (h1 : f.lo ≠ .non) (h2 : s.lo ≠ .non) (hx : IsV .text (.str x)) (hy : IsV .text (.str y)) (i1 : InS (.str x) f) (i2 : InS (.str y) s) :
    InS (if x.length + y.length ≤ 200 then .str (x ++ y) else .non) (joiS f s) := by
  have b1 := bet_of hf hx i1
  have b2 := bet_of hs hy i2
  obtain ⟨a, b, m, rfl, va, vb⟩ := spanK_text hf h1
  obtain ⟨c, d, n, rfl, vc, vd⟩ := spanK_text hs h2
  show InS _ (if a = b ∧ c = d then (if a.length + c.length > 200 then nothing else ⟨.str (a ++ c), .str (a ++ c), m || n⟩) else ⟨.str a, .str tildes, true⟩)
  by_cases e : a = b ∧ c = d
  · rw [if_pos e]
    obtain ⟨rfl, rfl⟩ := e
    have e1 : x = a := V.str.inj (leB_antisymm b1.k2 b1.hi b1.lo)
    have e2 : y = c := V.str.inj (leB_antisymm b2.k2 b2.hi b2.lo)
    subst e1 e2
    by_cases hl : x.length + y.length ≤ 200
    · rw [if_pos hl, if_neg (by omega)]
      exact .inr ⟨(fun e => by cases e), (fun e => by cases e), leB_refl rfl, leB_refl rfl⟩
    · rw [if_neg hl, if_pos (by omega)]
      exact .inl ⟨rfl, rfl⟩
  · rw [if_neg e]
    by_cases hl : x.length + y.length ≤ 200
    · rw [if_pos hl]
      have hv : IsV .text (.str (x ++ y)) := by
        refine ⟨by rw [str_app_len]; exact hl, fun z hz => ?_⟩
        rw [str_app_list] at hz
        rcases List.mem_append.mp hz with q | q
        · exact hx.2 z q
        · exact hy.2 z q
      exact .inr ⟨(fun e => by cases e), (fun e => by cases e), leB_trans b1.k1 rfl b1.lo (leB_pre x y), leB_tildes hv⟩
    · rw [if_neg hl]
      exact .inl ⟨rfl, rfl⟩
/-! one part -/
theorem sig_sgl {w : Wd} {k kr : Kd} (hs : w.strict = true) (h : sig w [k] = some kr) : (w = .neg ∧ k = .int ∧ kr = .int) ∨ (w = .abs ∧ k = .int ∧ kr = .int) ∨ (w = .not ∧ k = .flag ∧ kr = .flag) ∨ (w = .len ∧ k = .text ∧ kr = .int) := by
  cases w <;> cases k <;> first
    | (cases hs; done)
    | (cases h; done)
    | (cases h; simp)
theorem sglS_k {w : Wd} {k kr : Kd} {s : Sn} (hs : w.strict = true) (h : sig w [k] = some kr) (hk : SpanK k s) (hn : s.lo ≠ .non) : SpanK kr (sglS w s) := by
  rcases sig_sgl hs h with ⟨rfl, rfl, rfl⟩ | ⟨rfl, rfl, rfl⟩ | ⟨rfl, rfl, rfl⟩ | ⟨rfl, rfl, rfl⟩
  · obtain ⟨a, b, m, rfl, ⟨a1, a2⟩, ⟨b1, b2⟩⟩ := spanK_int hk hn
    refine .inr ⟨?_, ?_⟩
    · show -(10 ^ 30) < -b ∧ -b < 10 ^ 30
      omega
    · show -(10 ^ 30) < -a ∧ -a < 10 ^ 30
      omega
  · obtain ⟨a, b, m, rfl, ⟨a1, a2⟩, ⟨b1, b2⟩⟩ := spanK_int hk hn
    show SpanK .int (if a ≥ 0 then ⟨.int a, .int b, m⟩ else if b < 0 then ⟨.int (-b), .int (-a), m⟩ else ⟨.int 0, .int (maxI (-a) b), m⟩)
    split
    · exact .inr ⟨⟨a1, a2⟩, ⟨b1, b2⟩⟩
    · split
      · refine .inr ⟨?_, ?_⟩
        · show -(10 ^ 30) < -b ∧ -b < 10 ^ 30
          omega
        · show -(10 ^ 30) < -a ∧ -a < 10 ^ 30
          omega
      · refine .inr ⟨?_, ?_⟩
        · show -(10 ^ 30) < (0 : Int) ∧ (0 : Int) < 10 ^ 30
          omega
        · show -(10 ^ 30) < maxI (-a) b ∧ maxI (-a) b < 10 ^ 30
          unfold maxI
          split <;> omega
  · obtain ⟨a, b, m, rfl⟩ := spanK_flag hk hn
    exact .inr ⟨trivial, trivial⟩
  · obtain ⟨a, b, m, rfl, va, vb⟩ := spanK_text hk hn
    show SpanK .int (if a = b then ⟨.int a.length, .int a.length, m⟩ else ⟨.int 0, .int 200, m⟩)
    have h1 : (a.length : Int) ≤ 200 := by exact_mod_cast va.1
    have h2 : IsV .int (.int a.length) := by
      show -(10 ^ 30) < (a.length : Int) ∧ (a.length : Int) < 10 ^ 30
      omega
    split
    · exact .inr ⟨h2, h2⟩
    · refine .inr ⟨?_, ?_⟩
      · show -(10 ^ 30) < (0 : Int) ∧ (0 : Int) < 10 ^ 30
        omega
      · show -(10 ^ 30) < (200 : Int) ∧ (200 : Int) < 10 ^ 30
        omega
theorem sglS_ms {w : Wd} {k kr : Kd} {s : Sn} (hs : w.strict = true) (h : sig w [k] = some kr) (hk : SpanK k s) (hn : s.lo ≠ .non) (hm : s.ms = true) : (sglS w s).ms = true := by
  rcases sig_sgl hs h with ⟨rfl, rfl, rfl⟩ | ⟨rfl, rfl, rfl⟩ | ⟨rfl, rfl, rfl⟩ | ⟨rfl, rfl, rfl⟩
  · obtain ⟨a, b, m, rfl, _⟩ := spanK_int hk hn
    exact hm
  · obtain ⟨a, b, m, rfl, _⟩ := spanK_int hk hn
    show (if a ≥ 0 then ⟨.int a, .int b, m⟩ else if b < 0 then ⟨.int (-b), .int (-a), m⟩ else (⟨.int 0, .int (maxI (-a) b), m⟩ : Sn)).ms = true
    split
    · exact hm
    · split <;> exact hm
  · obtain ⟨a, b, m, rfl⟩ := spanK_flag hk hn
    exact hm
  · obtain ⟨a, b, m, rfl, va, vb⟩ := spanK_text hk hn
    show (if a = b then ⟨.int a.length, .int a.length, m⟩ else (⟨.int 0, .int 200, m⟩ : Sn)).ms = true
    split <;> exact hm
theorem leB_nb (i b : Bool) : leB (.bl i) (.bl b) = true → leB (.bl (!b)) (.bl (!i)) = true := by cases i <;> cases b <;> decide +kernel
theorem inS_bl {i a b m : Bool} : InS (.bl i) ⟨.bl a, .bl b, m⟩ → InS (.bl (!i)) ⟨.bl (!b), .bl (!a), m⟩ := by
  rintro (z | z)
  · cases z.1
  · refine .inr ⟨(fun e => by cases e), (fun e => by cases e), ?_, ?_⟩
    · exact leB_nb _ _ z.2.2.2
    · exact leB_nb _ _ z.2.2.1
theorem sglS_in {w : Wd} {k kr : Kd} {s : Sn} {x : V} (hs : w.strict = true) (h : sig w [k] = some kr) (hk : SpanK k s) (hn : s.lo ≠ .non) (hx : IsV k x) (hi : InS x s) : InS (strV w [x]) (sglS w s) := by
  rcases sig_sgl hs h with ⟨rfl, rfl, rfl⟩ | ⟨rfl, rfl, rfl⟩ | ⟨rfl, rfl, rfl⟩ | ⟨rfl, rfl, rfl⟩
  · obtain ⟨a, b, m, rfl, _⟩ := spanK_int hk hn
    obtain ⟨i, rfl, _⟩ := isV_int hx
    have e := inS_int.mp hi
    exact inS_int.mpr ⟨by omega, by omega⟩
  · obtain ⟨a, b, m, rfl, _⟩ := spanK_int hk hn
    obtain ⟨i, rfl, _⟩ := isV_int hx
    have e := inS_int.mp hi
    show InS (.int (if i < 0 then -i else i)) (if a ≥ 0 then ⟨.int a, .int b, m⟩ else if b < 0 then ⟨.int (-b), .int (-a), m⟩ else ⟨.int 0, .int (maxI (-a) b), m⟩)
    by_cases h1 : a ≥ 0
    · rw [if_pos h1, if_neg (by omega)]
      exact hi
    · rw [if_neg h1]
      by_cases h2 : b < 0
      · rw [if_pos h2, if_pos (by omega)]
        exact inS_int.mpr ⟨by omega, by omega⟩
      · rw [if_neg h2]
        refine inS_int.mpr ⟨?_, ?_⟩
        · split <;> omega
        · unfold maxI
          split <;> split <;> omega
  · obtain ⟨a, b, m, rfl⟩ := spanK_flag hk hn
    obtain ⟨i, rfl⟩ := isV_flag hx
    exact inS_bl hi
  · have bt := bet_of hk hx hi
    obtain ⟨a, b, m, rfl, va, vb⟩ := spanK_text hk hn
    obtain ⟨i, rfl, h1, h2⟩ := isV_text hx
    have h1' : (i.length : Int) ≤ 200 := by exact_mod_cast h1
    show InS (.int i.length) (if a = b then ⟨.int a.length, .int a.length, m⟩ else ⟨.int 0, .int 200, m⟩)
    by_cases e : a = b
    · rw [if_pos e]
      subst e
      have e1 : i = a := V.str.inj (leB_antisymm bt.k2 bt.hi bt.lo)
      subst e1
      exact inS_int.mpr ⟨by omega, by omega⟩
    · rw [if_neg e]
      exact inS_int.mpr ⟨by omega, by omega⟩
/-! all -/
theorem notlo {ss : List Sn} (h : ¬ (ss.any fun s => decide (s.lo = .non)) = true) : ∀ s ∈ ss, s.lo ≠ .non := fun s hs e => h (List.any_eq_true.mpr ⟨s, hs, decide_eq_true e⟩)
theorem strS_two {w : Wd} {a b k : Kd} (hs : w.strict = true) (h : sig w [a, b] = some k) : (w.isCmp = true ∧ a = b ∧ k = .flag) ∨ (w = .joined ∧ a = .text ∧ b = .text ∧ k = .text) ∨ (w.isAri = true ∧ w.isCmp = false ∧ w ≠ .joined ∧ a = .int ∧ b = .int ∧ k = .int) := by
  cases w <;> first
    | (cases hs; done)
    | (cases h; done)
    | (cases a <;> cases b <;> first | (cases h; done) | (cases h; simp [Wd.isCmp, Wd.isAri]))
theorem strS_k {w : Wd} {ks : List Kd} {k : Kd} {ss : List Sn} (hs : w.strict = true) (h : sig w ks = some k) (hp : Paired SpanK ks ss) (hn : ∀ s ∈ ss, s.lo ≠ .non) : SpanK k (strS w ss) := by
  cases hp with
  | nil => exact .inl rfl
  | @cons ka s ks' ss' r t =>
    cases t with
    | nil => exact sglS_k hs h r (hn _ List.mem_cons_self)
    | @cons kb s2 _ _ r2 t2 =>
      cases t2 with
      | cons r3 t3 => exact .inl rfl
      | nil =>
        have n1 := hn s (by simp)
        have n2 := hn s2 (by simp)
        show SpanK k (if w.isCmp = true then cmpS w s s2 else if w = .joined then joiS s s2 else ariS w s s2)
        rcases strS_two hs h with ⟨e1, rfl, rfl⟩ | ⟨rfl, rfl, rfl, rfl⟩ | ⟨e1, e2, e3, rfl, rfl, rfl⟩
        · rw [if_pos e1]; exact cmpS_k _ _ _
        · exact joiS_k r r2 n1 n2
        · rw [e2, if_neg Bool.false_ne_true, if_neg e3]
          obtain ⟨c, d, n, rfl, hc, hd⟩ := spanK_int r2 n2
          exact ariI_k hc hd
theorem strS_in {w : Wd} {ks : List Kd} {k : Kd} {ss : List Sn} {rs : List V} (hs : w.strict = true) (h : sig w ks = some k) (hp : Paired SpanK ks ss) (hn : ∀ s ∈ ss, s.lo ≠ .non) (hv : Paired IsV ks rs) (hi : Paired InS rs ss) : InS (strV w rs) (strS w ss) := by
  cases hp with
  | nil => cases hi; exact .inl ⟨rfl, rfl⟩
  | @cons ka s ks' ss' r t =>
    cases hi with
    | @cons x _ rs' _ i1 t' =>
    cases hv with
    | cons v1 tv =>
    cases t with
    | nil =>
      cases t'
      exact sglS_in hs h r (hn _ List.mem_cons_self) v1 i1
    | @cons kb s2 _ _ r2 t2 =>
      cases t' with
      | @cons y _ _ _ i2 t'' =>
      cases tv with
      | cons v2 tv' =>
      cases t2 with
      | cons r3 t3 =>
        cases t''
        exact .inl ⟨rfl, rfl⟩
      | nil =>
        cases t''
        have n1 := hn s (by simp)
        have n2 := hn s2 (by simp)
        show InS _ (if w.isCmp = true then cmpS w s s2 else if w = .joined then joiS s s2 else ariS w s s2)
        rcases strS_two hs h with ⟨e1, rfl, rfl⟩ | ⟨rfl, rfl, rfl, rfl⟩ | ⟨e1, e2, e3, rfl, rfl, rfl⟩
        · rw [if_pos e1]
          have ea : w.isAri = false := by cases w <;> first | rfl | cases e1
          show InS (if w.isAri = true then _ else if w.isCmp = true then V.bl (cmpV w x y) else _) _
          rw [if_neg (by rw [ea]; exact Bool.false_ne_true), if_pos e1]
          exact cmpS_in e1 r r2 v1 v2 i1 i2
        · obtain ⟨a, rfl, _⟩ := isV_text v1
          obtain ⟨b, rfl, _⟩ := isV_text v2
          exact joiS_in r r2 n1 n2 v1 v2 i1 i2
        · rw [e2, if_neg Bool.false_ne_true, if_neg e3]
          obtain ⟨c, d, n, rfl, hc, hd⟩ := spanK_int r2 n2
          obtain ⟨a, b, m, rfl, ha, hb⟩ := spanK_int r n1
          obtain ⟨i, rfl, _⟩ := isV_int v1
          obtain ⟨j, rfl, _⟩ := isV_int v2
          have j1 := inS_int.mp i1
          have j2 := inS_int.mp i2
          show InS (if w.isAri = true then ariV w i j else _) _
          rw [if_pos e1]
          exact ariI_in e1 hc hd j1.1 j1.2 j2.1 j2.2
theorem strS_ms {w : Wd} {ks : List Kd} {k : Kd} {ss : List Sn} (hs : w.strict = true) (h : sig w ks = some k) (hp : Paired SpanK ks ss) (hn : ∀ s ∈ ss, s.lo ≠ .non) (hm : ∃ s ∈ ss, s.ms = true) : (strS w ss).ms = true := by
  obtain ⟨s0, hs0, hms⟩ := hm
  cases hp with
  | nil => rfl
  | @cons ka s ks' ss' r t =>
    cases t with
    | nil =>
      have e : s0 = s := List.mem_singleton.mp hs0
      subst e
      exact sglS_ms hs h r (hn _ List.mem_cons_self) hms
    | @cons kb s2 _ _ r2 t2 =>
      cases t2 with
      | cons r3 t3 => rfl
      | nil =>
        have n1 := hn s (by simp)
        have n2 := hn s2 (by simp)
        have em : s.ms = true ∨ s2.ms = true := by
          rcases List.mem_cons.mp hs0 with e | e
          · left; rw [← e]; exact hms
          · right; rw [← List.mem_singleton.mp e]; exact hms
        show (if w.isCmp = true then cmpS w s s2 else if w = .joined then joiS s s2 else ariS w s s2).ms = true
        rcases strS_two hs h with ⟨e1, rfl, rfl⟩ | ⟨rfl, rfl, rfl, rfl⟩ | ⟨e1, e2, e3, rfl, rfl, rfl⟩
        · rw [if_pos e1]; exact cmpS_ms em
        · exact joiS_ms r r2 n1 n2 em
        · rw [e2, if_neg Bool.false_ne_true, if_neg e3]
          unfold ariS
          have e : (s.ms || s2.ms) = true := by rcases em with e | e <;> rw [e] <;> simp
          rw [e]
          exact ariI_ms _ _ _ _ _
theorem spF_k {w : Wd} {ks : List Kd} {k : Kd} {ss : List Sn} (h : sig w ks = some k) (hp : Paired SpanK ks ss) : SpanK k (spF w ss) := by
  by_cases hs : w.strict = true
  · rw [spF_strict hs]
    by_cases hn : (ss.any fun s => decide (s.lo = .non)) = true
    · rw [if_pos hn]; exact .inl rfl
    · rw [if_neg hn]; exact strS_k hs h hp (notlo hn)
  · have ew : w = .miss ∨ w = .and ∨ w = .or ∨ w = .ite ∨ w = .orelse := by
      cases w <;> first
        | exact absurd rfl hs
        | simp
    rcases ew with rfl | rfl | rfl | rfl | rfl
    · obtain ⟨_, rfl⟩ := sig_miss h
      refine flagS_k fun y hy => ?_
      have h2 := (List.mem_filter.mp hy).1
      simp only [List.mem_cons, List.not_mem_nil, or_false] at h2
      rcases h2 with rfl | rfl <;> exact .inr trivial
    · obtain ⟨_, rfl⟩ := sig_and h
      exact flagS_k (decL_o _ _ _)
    · obtain ⟨_, rfl⟩ := sig_or h
      exact flagS_k (decL_o _ _ _)
    · have e := sig_ite h
      subst e
      cases hp with
      | cons r1 t1 => cases t1 with
        | cons r2 t2 => cases t2 with
          | cons r3 t3 =>
            cases t3
            refine togS_k fun s hs => ?_
            obtain ⟨o, _, rfl⟩ := List.mem_map.mp hs
            exact chS_k r2 r3 o
    · have e := sig_orelse h
      subst e
      cases hp with
      | cons r1 t1 => cases t1 with
        | @cons _ s2 _ _ r2 t2 =>
          cases t2
          rename_i s
          show SpanK k (if s.ms = false then s else if s.lo = .non then s2 else togS [⟨s.lo, s.hi, false⟩, s2])
          split
          · exact r1
          · split
            · exact r2
            · rename_i hn
              refine togS_k fun z hz => ?_
              rcases List.mem_cons.mp hz with e | e
              · rw [e]; exact .inr (show IsV k s.lo ∧ IsV k s.hi from spanK_v r1 hn)
              · rw [List.mem_singleton.mp e]; exact r2
theorem spF_in {w : Wd} {ks : List Kd} {k : Kd} {ss : List Sn} {rs : List V} (h : sig w ks = some k) (hp : Paired SpanK ks ss) (hv : Paired IsO ks rs) (hi : Paired InS rs ss) : InS (opV w rs) (spF w ss) := by
  by_cases hs : w.strict = true
  · rw [spF_strict hs, opV_strict hs]
    by_cases hm : V.non ∈ rs
    · rw [if_pos hm]
      refine inS_non.mpr ?_
      by_cases hn : (ss.any fun s => decide (s.lo = .non)) = true
      · rw [if_pos hn]; rfl
      · rw [if_neg hn]
        refine strS_ms hs h hp (notlo hn) ?_
        obtain ⟨i, hi1, hi2⟩ := List.getElem_of_mem hm
        obtain ⟨s, e1, e2⟩ := paired_get hi (show rs[i]? = some .non by rw [List.getElem?_eq_getElem hi1, hi2])
        exact ⟨s, List.mem_of_getElem? e1, inS_non.mp e2⟩
    · rw [if_neg hm]
      have hn : ¬ (ss.any fun s => decide (s.lo = .non)) = true := fun z => by
        obtain ⟨s, hs1, hs2⟩ := List.any_eq_true.mp z
        obtain ⟨i, hi1, hi2⟩ := List.getElem_of_mem hs1
        obtain ⟨x, e1, e2⟩ := paired_getR hi (show ss[i]? = some s by rw [List.getElem?_eq_getElem hi1, hi2])
        rcases e2 with e2 | e2
        · exact hm (by rw [← e2.1]; exact List.mem_of_getElem? e1)
        · exact e2.2.1 (of_decide_eq_true hs2)
      rw [if_neg hn]
      exact strS_in hs h hp (notlo hn) (paired_isV hv hm) hi
  · have ew : w = .miss ∨ w = .and ∨ w = .or ∨ w = .ite ∨ w = .orelse := by
      cases w <;> first
        | exact absurd rfl hs
        | simp
    rcases ew with rfl | rfl | rfl | rfl | rfl
    · obtain ⟨⟨a, rfl⟩, rfl⟩ := sig_miss h
      cases hv with
      | @cons _ x _ _ v1 tv =>
      cases hi with
      | @cons _ s _ _ i1 t1 =>
        cases tv
        show InS (.bl (decide (x = .non))) (flagS (([.bl true, .bl false] : List V).filter (canV s)))
        refine flagS_in (fun y hy => ?_) (List.mem_filter.mpr ⟨?_, ?_⟩)
        · have h2 := (List.mem_filter.mp hy).1
          simp only [List.mem_cons, List.not_mem_nil, or_false] at h2
          rcases h2 with rfl | rfl <;> exact .inr trivial
        · cases decide (x = .non) <;> simp
        · by_cases e : x = .non
          · rw [decide_eq_true e]
            subst e
            exact inS_non.mp i1
          · rw [decide_eq_false e]
            show hasLo s = true
            unfold hasLo
            rcases i1 with i1 | i1
            · exact absurd i1.1 e
            · rw [decide_eq_false i1.2.1]; rfl
    · obtain ⟨rfl, rfl⟩ := sig_and h
      cases hv with
      | cons v1 tv => cases tv with
        | cons v2 tv2 => cases hi with
          | cons i1 t1 => cases t1 with
            | cons i2 t2 => exact decL_in v1 v2 i1 i2
    · obtain ⟨rfl, rfl⟩ := sig_or h
      cases hv with
      | cons v1 tv => cases tv with
        | cons v2 tv2 => cases hi with
          | cons i1 t1 => cases t1 with
            | cons i2 t2 => exact decL_in v1 v2 i1 i2
    · have e := sig_ite h
      subst e
      cases hp with
      | @cons _ s1 _ _ r1 t1 => cases t1 with
        | @cons _ s2 _ _ r2 t2 => cases t2 with
          | @cons _ s3 _ _ r3 t3 =>
            cases t3
            cases hi with
            | @cons x _ _ _ i1 u1 => cases u1 with
              | @cons y _ _ _ i2 u2 => cases u2 with
                | @cons z _ _ _ i3 u3 =>
                  cases u3
                  cases hv with
                  | cons v1 tv => cases tv with
                    | cons v2 tv2 => cases tv2 with
                      | cons v3 tv3 =>
                        show InS (if x = .non then .non else if x = .bl true then y else z) (togS ((outc s1).map (chS s2 s3)))
                        have hk : ∀ s ∈ (outc s1).map (chS s2 s3), SpanK k s := fun s hs => by
                          obtain ⟨o, _, rfl⟩ := List.mem_map.mp hs
                          exact chS_k r2 r3 o
                        have hm : chS s2 s3 x ∈ (outc s1).map (chS s2 s3) := List.mem_map.mpr ⟨x, outc_in v1 i1, rfl⟩
                        by_cases e : x = .non
                        · rw [if_pos e]
                          refine togS_in hk (.inl rfl) hm ?_
                          unfold chS
                          rw [if_pos e]
                          exact .inl ⟨rfl, rfl⟩
                        · rw [if_neg e]
                          by_cases e2 : x = .bl true
                          · rw [if_pos e2]
                            refine togS_in hk v2 hm ?_
                            unfold chS
                            rw [if_neg e, if_pos e2]
                            exact i2
                          · rw [if_neg e2]
                            refine togS_in hk v3 hm ?_
                            unfold chS
                            rw [if_neg e, if_neg e2]
                            exact i3
    · have e := sig_orelse h
      subst e
      cases hp with
      | @cons _ s1 _ _ r1 t1 => cases t1 with
        | @cons _ s2 _ _ r2 t2 =>
          cases t2
          cases hi with
          | @cons x _ _ _ i1 u1 => cases u1 with
            | @cons y _ _ _ i2 u2 =>
              cases u2
              cases hv with
              | cons v1 tv => cases tv with
                | cons v2 tv2 =>
                  show InS (if x = .non then y else x) (if s1.ms = false then s1 else if s1.lo = .non then s2 else togS [⟨s1.lo, s1.hi, false⟩, s2])
                  by_cases hm : s1.ms = false
                  · rw [if_pos hm]
                    by_cases e : x = .non
                    · subst e
                      have z := inS_non.mp i1
                      rw [hm] at z
                      cases z
                    · rw [if_neg e]; exact i1
                  · rw [if_neg hm]
                    by_cases hl : s1.lo = .non
                    · rw [if_pos hl]
                      by_cases e : x = .non
                      · rw [if_pos e]; exact i2
                      · rcases i1 with i1 | i1
                        · exact absurd i1.1 e
                        · exact absurd hl i1.2.1
                    · rw [if_neg hl]
                      have hk : ∀ s ∈ ([⟨s1.lo, s1.hi, false⟩, s2] : List Sn), SpanK k s := fun z hz => by
                        rcases List.mem_cons.mp hz with e | e
                        · rw [e]; exact .inr (show IsV k s1.lo ∧ IsV k s1.hi from spanK_v r1 hl)
                        · rw [List.mem_singleton.mp e]; exact r2
                      by_cases e : x = .non
                      · rw [if_pos e]
                        exact togS_in hk v2 (List.mem_cons_of_mem _ (List.mem_singleton.mpr rfl)) i2
                      · rw [if_neg e]
                        refine togS_in hk v1 List.mem_cons_self ?_
                        rcases i1 with i1 | i1
                        · exact absurd i1.1 e
                        · exact .inr i1
end Ms
namespace Ms
open PySem PySem.Spec PyProof.Rows L2
section
variable {P : Program} {w : World} {K : PySem.W.Frag} {mg : Str → Option Value} {base : Heap}
def OutS (K : PySem.W.Frag) (H : Hp) (Q : VK) (r : Sn) : Prop := ∀ t H', Same H H' → SqT K H' t r.vs → Q (.ref t) H'
theorem OutS.no (T : Cn w K mg base) {H : Hp} {Q : VK} (q : OutS K H Q nothing) : Q (.ref (He.ga K "NOTHING")) H := q _ _ (Same.refl H) (T.tNothing H)
theorem OutS.tp {H : Hp} {Q : VK} {r : Sn} {a b c : V} (q : OutS K H Q r) (e : r.vs = [a, b, c]) : 3 ≤ sizeLine ∧ ∀ p, H p = none → Q (.ref p) (upd H p (.tup [a, b, c])) :=
  ⟨by rw [sizeLine_eq]; decide, fun p hp => q p _ (Same.new hp) (by rw [e]; exact .inl (.inl upd_same))⟩
/-! allows -/
def spAllows (K : PySem.W.Frag) : Sp := fun vs H Q _ => ∃ (t : Addr) (s : Sn) (v : V) (k : Kd), vs = [.ref t, v] ∧ SqT K H t s.vs ∧ SpanK k s ∧ IsO k v ∧ Q (.bl (alwB s v)) H
theorem sc_allows : FnScope ["span", "value"] ["span", "value"] (defScope s_allows) := ⟨rfl, rfl, rfl, by decide +kernel, rfl, by decide +kernel, by decide +kernel⟩
theorem ok_allows (T : Cn w K mg base) : C8.Cal P w K mg base 1 "allows" (spAllows K) [] := by
  refine T.cal (i := 21) (d := d_allows) (k := 0) rfl rfl (by decide +kernel) rfl rfl sc_allows (fun _ _ _ _ _ _ us hl => match us, hl with | [_, _], _ => rfl) (fun vs H Q E h => ?_) (fun cdv A outer s H vs Q E hr hcd h => ?_)
  · obtain ⟨_, _, _, _, rfl, _⟩ := h
    rfl
  obtain ⟨t, sn, v, k, rfl, ht, hs, hv, q⟩ := h
  have hu : _ + 1 < cLine := hu_of hr
  refine ⟨_, (pss_cons (ps_if (pt_cmpR op_isN (pv 1) pe_non (nomark _))
  (pss_one (ps_ret (pe_ix ix_tup (pv 0) pe_int (fun _ _ => rfl))))
  pss_nil)
  (pss_one (ps_ret (pe_and (pe_cmpR op_notN (pe_ix ix_tup (pv 0) pe_int (fun _ _ => rfl)) pe_non (nomark _)) (pe_one (pe_chain (op_leK hu) (op_leK hu) (pe_ix ix_tup (pv 0) pe_int (fun _ _ => rfl)) (pv 1) (pe_ix ix_tup (pv 0) pe_int (fun _ _ => rfl)))))))), ?_⟩
  unfold alwB at q
  refine ⟨_, rfl, rfl, _, rfl, iteD (fun h => ?_) (fun h1 => ?_)⟩
  · rw [if_pos h] at q
    exact ⟨_, rfl, _, _, _, _, rfl, rfl, ht, at_of (j := 2) rfl rfl, q⟩
  rw [if_neg h1] at q
  refine ⟨_, rfl, _, _, _, _, rfl, rfl, ht, at_of (j := 0) rfl rfl, rfl, ?_⟩
  by_cases h2 : sn.lo = .non
  · rw [if_pos h2] at q
    show ∃ k, V.bl (!decide (sn.lo = .non)) = .bl k ∧ _
    rw [decide_eq_true h2]
    exact ⟨_, rfl, iteF q⟩
  · rw [if_neg h2] at q
    show ∃ k, V.bl (!decide (sn.lo = .non)) = .bl k ∧ _
    rw [decide_eq_false h2]
    obtain ⟨a, b⟩ := spanK_v hs h2
    have hx := hv.resolve_left h1
    refine ⟨_, rfl, iteT ⟨_, rfl, _, _, _, _, rfl, rfl, ht, at_of (j := 0) rfl rfl, _, rfl, a.sk hx, _, rfl, iteB (fun h3 => ?_) (fun h3 => ?_)⟩⟩
    · refine ⟨_, rfl, _, _, _, _, rfl, rfl, ht, at_of (j := 1) rfl rfl, hx.sk b, ?_⟩
      rw [h3] at q
      exact q
    · rw [h3] at q
      exact q
/-! _bounded -/
def spBndS (K : PySem.W.Frag) : Sp := fun vs H Q _ => ∃ (l g : Int) (m : Bool), vs = [.int l, .int g, .bl m] ∧ OutS K H Q (bndS l g m)
theorem sc_u_bounded : FnScope ["least", "greatest", "missing", "outside"] ["least", "greatest", "missing"] (defScope s_u_bounded) := ⟨rfl, rfl, rfl, by decide +kernel, rfl, by decide +kernel, by decide +kernel⟩
theorem ok_u_bounded (T : Cn w K mg base) : C8.Cal P w K mg base 1 "_bounded" (spBndS K) [] := by
  refine T.cal (i := 23) (d := d_u_bounded) (k := 0) rfl rfl (by decide +kernel) rfl rfl sc_u_bounded (fun _ _ _ _ _ _ us hl => match us, hl with | [_, _, _], _ => rfl) (fun vs H Q E h => ?_) (fun cdv A outer s H vs Q E hr hcd h => ?_)
  · obtain ⟨_, _, _, rfl, _⟩ := h
    rfl
  obtain ⟨l, g, m, rfl, q⟩ := h
  refine ⟨_, (pss_cons (ps_if (PW.pt (pw_or (pt_cmpR op_ge (pv 0) T.peBound (nomark _)) (pw_or1 (pt_cmpR op_le (pv 1) (pe_un un_neg T.peBound) (nomark _)))))
  (pss_one (ps_ret (T.peRef "NOTHING" (by decide +kernel))))
  pss_nil)
  (pss_cons (ps_set (i := 3) sc_u_bounded.nd rfl (Or.inl rfl) (pe_or (pe_cmpR op_le (pv 0) (pe_un un_neg T.peBound) (nomark _)) (pe_one (pe_cmpR op_ge (pv 1) T.peBound (nomark _)))))
  (pss_one (ps_ret (pe_tup (pa_cons (pe_callB (call_max2 rfl) (by rfl) (T.fre "max" (by decide +kernel)) (by decide +kernel) (pa_cons (pv 0) (pa_cons (pe_op op_sub pe_int T.peBound) pa_nil))) (pa_cons (pe_callB (call_min2 rfl) (by rfl) (T.fre "min" (by decide +kernel)) (by decide +kernel) (pa_cons (pv 1) (pa_cons (pe_op op_sub T.peBound pe_int) pa_nil))) (pa_cons (pe_or (pv 2) (pe_one (pv 3))) pa_nil)))))))), ?_⟩
  refine ⟨_, rfl, _, _, rfl, rfl, _, rfl, iteD (fun h => ?_) (fun h1 => ?_)⟩
  · rw [show bndS l g m = nothing from if_pos (.inl h)] at q
    exact OutS.no T q
  refine ⟨_, rfl, _, rfl, _, _, rfl, rfl, _, rfl, iteD (fun h => ?_) (fun h2 => ?_)⟩
  · rw [show bndS l g m = nothing from if_pos (.inr h)] at q
    exact OutS.no T q
  rw [show bndS l g m = _ from if_neg (fun z => z.elim h1 h2)] at q
  refine ⟨_, rfl, _, rfl, _, _, rfl, rfl, _, rfl, iteD (fun h3 => ?_) (fun h3 => ?_)⟩
  · cases m with
    | true => exact ⟨_, rfl, _, _, rfl, rfl, _, _, rfl, _, rfl, _, _, rfl, rfl, _, _, rfl, _, rfl, _, rfl, iteT (OutS.tp q rfl)⟩
    | false =>
      refine ⟨_, rfl, _, _, rfl, rfl, _, _, rfl, _, rfl, _, _, rfl, rfl, _, _, rfl, _, rfl, _, rfl, iteF ⟨_, rfl, OutS.tp q ?_⟩⟩
      show [V.int (maxI l (1 - 10 ^ 30)), V.int (minI g (10 ^ 30 - 1)), V.bl (false || (decide (l ≤ -(10 ^ 30)) || decide (g ≥ 10 ^ 30)))] = _
      rw [decide_eq_true h3]
      rfl
  · refine ⟨_, rfl, _, _, rfl, rfl, ?_⟩
    cases m with
    | true => exact ⟨_, rfl, _, _, rfl, rfl, _, _, rfl, _, rfl, _, _, rfl, rfl, _, _, rfl, _, rfl, _, rfl, iteT (OutS.tp q rfl)⟩
    | false =>
      refine ⟨_, rfl, _, _, rfl, rfl, _, _, rfl, _, rfl, _, _, rfl, rfl, _, _, rfl, _, rfl, _, rfl, iteF ⟨_, rfl, OutS.tp q ?_⟩⟩
      show [V.int (maxI l (1 - 10 ^ 30)), V.int (minI g (10 ^ 30 - 1)), V.bl (false || (decide (l ≤ -(10 ^ 30)) || decide (g ≥ 10 ^ 30)))] = _
      rw [decide_eq_false h3]
      rfl
/-! _hull -/
def spHull (K : PySem.W.Frag) : Sp := fun vs H Q _ => ∃ (l : Addr) (xs : List V) (m : Bool), vs = [.ref l, .bl m] ∧ SqL K H l xs ∧ SkAll xs ∧ OutS K H Q (hulS xs m)
theorem sc_u_hull : FnScope ["results", "missing"] ["results", "missing"] (defScope s_u_hull) := ⟨rfl, rfl, rfl, by decide +kernel, rfl, by decide +kernel, by decide +kernel⟩
theorem ok_u_hull (T : Cn w K mg base) : C8.Cal P w K mg base 1 "_hull" (spHull K) [] := by
  refine T.cal (i := 24) (d := d_u_hull) (k := 0) rfl rfl (by decide +kernel) rfl rfl sc_u_hull (fun _ _ _ _ _ _ us hl => match us, hl with | [_, _], _ => rfl) (fun vs H Q E h => ?_) (fun cdv A outer s H vs Q E hr hcd h => ?_)
  · obtain ⟨_, _, _, rfl, _⟩ := h
    rfl
  obtain ⟨l, xs, m, rfl, hl, hk, q⟩ := h
  have hu : _ + 1 < cLine := hu_of hr
  refine ⟨_, (pss_cons (ps_if (pt_cmpR op_eq (pe_callB call_len_seq (by rfl) (T.fre "len" (by decide +kernel)) (by decide +kernel) (pa_cons (pv 0) pa_nil)) pe_int (nomark _))
  (pss_one (ps_ret (T.peRef "NOTHING" (by decide +kernel))))
  pss_nil)
  (pss_one (ps_ret (pe_tup (pa_cons (pe_callB (cr_minK rfl hu) (by rfl) (T.fre "min" (by decide +kernel)) (by decide +kernel) (pa_cons (pv 0) pa_nil)) (pa_cons (pe_callB (cr_maxK rfl hu) (by rfl) (T.fre "max" (by decide +kernel)) (by decide +kernel) (pa_cons (pv 0) pa_nil)) (pa_cons (pv 1) pa_nil))))))), ?_⟩
  cases xs with
  | nil =>
    refine ⟨_, rfl, _, _, rfl, .inl hl, rfl, _, rfl, iteD (fun _ => ?_) (fun h => absurd rfl h)⟩
    exact OutS.no T q
  | cons x r =>
    refine ⟨_, rfl, _, _, rfl, .inl hl, rfl, _, rfl, iteD (fun h => ?_) (fun _ => ?_)⟩
    · exfalso
      have z := V.int.inj h
      rw [List.length_cons] at z
      omega
    · exact ⟨_, rfl, _, _, _, rfl, hl, hk, _, rfl, _, _, _, rfl, hl, hk, _, rfl, OutS.tp q rfl⟩
/-! _flags -/
theorem filter_take {α : Type} {p : α → Bool} {ys : List α} {i : Nat} {x : α} (h : ys[i]? = some x) : (ys.take (i + 1)).filter p = (ys.take i).filter p ++ (if p x = true then [x] else []) := by
  rw [List.take_add_one, h, List.filter_append]
  congr 1
  show List.filter p [x] = _
  by_cases e : p x = true
  · rw [if_pos e, List.filter_cons_of_pos e]; rfl
  · rw [if_neg e, List.filter_cons_of_neg e]; rfl
theorem filter_len {α : Type} (p : α → Bool) (ys : List α) (i : Nat) : ((ys.take i).filter p).length ≤ ys.length :=
  Nat.le_trans (List.length_filter_le _ _) (by rw [List.length_take]; omega)
theorem small {n : Nat} (h : n ≤ 1000) : n < sizeLine := by rw [sizeLine_eq]; omega
/-- a list filtered, nothing else done -/
def PvF (H : Hp) (D : Addr) (p : V → Bool) (ys : List V) (i : Nat) (H' : Hp) : Prop := Same H H' ∧ H' D = some (.lst ((ys.take i).filter p))
theorem PvF.zero {H : Hp} {D : Addr} {p : V → Bool} {ys : List V} (h : H D = none) : PvF H D p ys 0 (upd H D (.lst [])) := ⟨Same.new h, upd_same⟩
theorem PvF.yes {H H' : Hp} {D : Addr} {p : V → Bool} {ys : List V} {i : Nat} {x : V} (h : H D = none) (z : PvF H D p ys i H') (e : ys[i]? = some x) (hp : p x = true) (hl : ys.length ≤ 1000) : ∃ acc, H' D = some (.lst acc) ∧ acc.length < sizeLine ∧ PvF H D p ys (i + 1) (upd H' D (.lst (acc ++ [x]))) :=
  ⟨_, z.2, small (Nat.le_trans (filter_len _ _ _) hl), Same.put z.1 h, by rw [upd_same, filter_take e, if_pos hp]⟩
theorem PvF.no {H H' : Hp} {D : Addr} {p : V → Bool} {ys : List V} {i : Nat} {x : V} (z : PvF H D p ys i H') (e : ys[i]? = some x) (hp : p x = false) : PvF H D p ys (i + 1) H' :=
  ⟨z.1, by rw [filter_take e, if_neg (by rw [hp]; exact Bool.false_ne_true), List.append_nil]; exact z.2⟩
theorem PvF.all {H H' : Hp} {D : Addr} {p : V → Bool} {ys : List V} (z : PvF H D p ys ys.length H') : H' D = some (.lst (ys.filter p)) := by
  have h := z.2
  rw [List.take_length] at h
  exact h
def spFlags (K : PySem.W.Frag) : Sp := fun vs H Q _ => ∃ (l : Addr) (ys : List V), vs = [.ref l] ∧ SqL K H l ys ∧ ys.length ≤ 16 ∧ (∀ y ∈ ys, IsO .flag y) ∧ OutS K H Q (flagS ys)
theorem sc_u_flags : FnScope ["outcomes", "known", "outcome"] ["outcomes"] (defScope s_u_flags) := ⟨rfl, rfl, rfl, by decide +kernel, rfl, by decide +kernel, by decide +kernel⟩
theorem ok_u_flags (T : Cn w K mg base) : C8.Cal P w K mg base 2 "_flags" (spFlags K) [] := by
  refine T.cal (i := 25) (d := d_u_flags) (k := 1) rfl rfl (by decide +kernel) rfl rfl sc_u_flags (fun _ _ _ _ _ _ us hl => match us, hl with | [_], _ => rfl) (fun vs H Q E h => ?_) (fun cdv A outer s H vs Q E hr hcd h => ?_)
  · obtain ⟨_, _, rfl, _⟩ := h
    rfl
  obtain ⟨l, ys, rfl, hl, hn, ho, q⟩ := h
  have c1 := ok_u_hull (P := P) T
  refine ⟨_, (pss_cons (ps_setLc (i := 1) (own := [("outcome", 2)]) (by rfl) sc_u_flags.nd rfl rfl (sw_true rfl rfl rfl (by decide +kernel)) (pi_list (pv 0)) (blkOk_by (own := [("outcome", 2)]) (N := ["outcomes", "known", "outcome"]) (sc := defScope s_u_flags) (by decide +kernel)) (fun _ _ _ _ _ => (pg_name (i := 2) sc_u_flags.nd rfl (Or.inl rfl))) (fun _ _ _ _ _ => (pts_one (pt_cmpR op_notN (pv 2) pe_non (nomark _)))) (fun _ _ _ _ _ => (pv 2)))
  (pss_one (ps_ret (C8.pe_c c1 hr (by omega) rfl (pa_cons (pv 1) (pa_cons (pe_cmpR op_in_seq pe_non (pv 0) (by rfl)) pa_nil)))))), ?_⟩
  refine ⟨_, rfl, l, rfl, ⟨_, hl⟩, fun D hD => ?_⟩
  refine lc_list (K := K) (a := l) (xs := ys) (PvF H D notN ys) (PvF.zero hD) (fun i H' hi hP => (Same.gr hP.1).seq hl) (fun i x H' hi hP => ?_) (fun H' hP => ?_)
  · refine ⟨rfl, _, rfl, rfl, _, rfl, iteN (fun h => ?_) (fun h => ?_)⟩
    · exact ⟨_, rfl, PvF.yes hD hP hi (by unfold notN; rw [decide_eq_false h]; rfl) (by omega)⟩
    · exact PvF.no hP hi (by unfold notN; rw [decide_eq_true h]; rfl)
  · have hl2 := (Same.gr hP.1).seq hl
    refine ⟨_, rfl, _, rfl, _, _, rfl, .inl hl2, rfl, List.all_eq_true.mpr fun x hx => flat_sc (ho x hx).sc, D, ys.filter notN, _, rfl, .inl (.inl hP.all), skAll_of (flag_known ho), ?_⟩
    show OutS K H' Q (hulS (ys.filter notN) (inV .non ys))
    rw [inV_non fun x hx => (ho x hx).sc]
    exact fun t H2 s2 ht => q t H2 (hP.1.trans s2) ht
/-! _outcomes -/
def spOutc (K : PySem.W.Frag) : Sp := fun vs H Q _ => ∃ (t : Addr) (s : Sn), vs = [.ref t] ∧ SqT K H t s.vs ∧ SpanK .flag s ∧ ∀ D H', Same H H' → H D = none → H' D = some (.lst (outc s)) → Q (.ref D) H'
theorem sc_u_outcomes : FnScope ["span", "value"] ["span"] (defScope s_u_outcomes) := ⟨rfl, rfl, rfl, by decide +kernel, rfl, by decide +kernel, by decide +kernel⟩
theorem ok_u_outcomes (T : Cn w K mg base) : C8.Cal P w K mg base 2 "_outcomes" (spOutc K) [] := by
  refine T.cal (i := 26) (d := d_u_outcomes) (k := 1) rfl rfl (by decide +kernel) rfl rfl sc_u_outcomes (fun _ _ _ _ _ _ us hl => match us, hl with | [_], _ => rfl) (fun vs H Q E h => ?_) (fun cdv A outer s H vs Q E hr hcd h => ?_)
  · obtain ⟨_, _, rfl, _⟩ := h
    rfl
  obtain ⟨t, sn, rfl, ht, hs, q⟩ := h
  have c1 := ok_allows (P := P) T
  refine ⟨_, (pss_one (ps_ret (pe_lc (own := [("value", 1)]) (by rfl) sc_u_outcomes.nd (pi_tup (pe_tup (pa_cons pe_bl (pa_cons pe_bl (pa_cons pe_non pa_nil))))) (blkOk_by (own := [("value", 1)]) (N := ["span", "value"]) (sc := defScope s_u_outcomes) (by decide +kernel)) (fun _ _ _ _ _ => (pg_name (i := 1) sc_u_outcomes.nd rfl (Or.inl rfl))) (fun _ _ _ _ _ => (pts_one (pt_val (C8.pe_c c1 hr (by omega) rfl (pa_cons (pv 0) (pa_cons (pv 1) pa_nil)))))) (fun _ _ _ _ _ => (pv 1))))), ?_⟩
  refine ⟨by rw [sizeLine_eq]; decide, fun p hp => ⟨p, rfl, ⟨_, .inl (.inl upd_same)⟩, fun D hD => ?_⟩⟩
  have s0 := Same.new (o := HO.tup vOuts) hp
  refine lc_tup (K := K) (a := p) (xs := vOuts) (PvF (upd H p (.tup vOuts)) D (alwB sn) vOuts) (PvF.zero hD) (fun i H' hi hP => .inl (.inl (hP.1 _ _ upd_same))) (fun i x H' hi hP => ?_) (fun H' hP => ?_)
  · have hx : IsO .flag x := by
      have h := List.mem_of_getElem? hi
      simp only [List.mem_cons, List.not_mem_nil, or_false] at h
      rcases h with rfl | rfl | rfl
      · exact .inr trivial
      · exact .inr trivial
      · exact .inl rfl
    refine ⟨rfl, _, rfl, _, rfl, t, sn, x, .flag, rfl, (Same.gr (s0.trans hP.1)).tupl ht, hs, hx, _, rfl, iteB (fun h => ?_) (fun h => ?_)⟩
    · exact ⟨_, rfl, PvF.yes hD hP hi h (by decide)⟩
    · exact PvF.no hP hi h
  · exact q D H' (s0.trans hP.1) (s0.free hD) hP.all
/-! single_sieves -/
def spSglS (K : PySem.W.Frag) : Sp := fun vs H Q _ => ∃ (wd : Wd) (t : Addr) (s : Sn) (k kr : Kd), vs = [.str wd.s, .ref t] ∧ SqT K H t s.vs ∧ wd.strict = true ∧ sig wd [k] = some kr ∧ SpanK k s ∧ s.lo ≠ .non ∧ OutS K H Q (sglS wd s)
theorem sc_single_sieves : FnScope ["word", "span", "least", "greatest", "missing"] ["word", "span"] (defScope s_single_sieves) := ⟨rfl, rfl, rfl, by decide +kernel, rfl, by decide +kernel, by decide +kernel⟩
theorem ok_single_sieves (T : Cn w K mg base) : C8.Cal P w K mg base 1 "single_sieves" (spSglS K) [] := by
  refine T.cal (i := 27) (d := d_single_sieves) (k := 0) rfl rfl (by decide +kernel) rfl rfl sc_single_sieves (fun _ _ _ _ _ _ us hl => match us, hl with | [_, _], _ => rfl) (fun vs H Q E h => ?_) (fun cdv A outer s H vs Q E hr hcd h => ?_)
  · obtain ⟨_, _, _, _, _, rfl, _⟩ := h
    rfl
  obtain ⟨wd, t, sn, k, kr, rfl, ht, hst, hsg, hs, hn, q⟩ := h
  refine ⟨_, (pss_cons (ps_asg (pv 1) (pg_tup (by rfl) (pgs_cons (pg_name (i := 2) sc_single_sieves.nd rfl (Or.inl rfl)) (pgs_cons (pg_name (i := 3) sc_single_sieves.nd rfl (Or.inl rfl)) (pgs_cons (pg_name (i := 4) sc_single_sieves.nd rfl (Or.inl rfl)) pgs_nil)))))
  (pss_cons (ps_if (pt_cmpR op_eq (pv 0) pe_str (nomark _))
  (pss_one (ps_ret (pe_tup (pa_cons (pe_un un_neg (pv 3)) (pa_cons (pe_un un_neg (pv 2)) (pa_cons (pv 4) pa_nil))))))
  pss_nil)
  (pss_cons (ps_if (pt_cmpR op_eq (pv 0) pe_str (nomark _))
  (pss_one (ps_ret (pe_tup (pa_cons (pe_not (pv 3)) (pa_cons (pe_not (pv 2)) (pa_cons (pv 4) pa_nil))))))
  pss_nil)
  (pss_cons (ps_if (pt_cmpR op_eq (pv 0) pe_str (nomark _))
  (pss_cons (ps_if (pt_cmpR op_eq (pv 2) (pv 3) (nomark _))
  (pss_one (ps_ret (pe_tup (pa_cons (pe_callB call_len_str (by rfl) (T.fre "len" (by decide +kernel)) (by decide +kernel) (pa_cons (pv 2) pa_nil)) (pa_cons (pe_callB call_len_str (by rfl) (T.fre "len" (by decide +kernel)) (by decide +kernel) (pa_cons (pv 2) pa_nil)) (pa_cons (pv 4) pa_nil))))))
  pss_nil)
  (pss_one (ps_ret (pe_tup (pa_cons pe_int (pa_cons T.peLongest (pa_cons (pv 4) pa_nil)))))))
  pss_nil)
  (pss_cons (ps_if (pt_cmpR op_ge (pv 2) pe_int (nomark _))
  (pss_one (ps_ret (pv 1)))
  pss_nil)
  (pss_cons (ps_if (pt_cmpR op_lt (pv 3) pe_int (nomark _))
  (pss_one (ps_ret (pe_tup (pa_cons (pe_un un_neg (pv 3)) (pa_cons (pe_un un_neg (pv 2)) (pa_cons (pv 4) pa_nil))))))
  pss_nil)
  (pss_one (ps_ret (pe_tup (pa_cons pe_int (pa_cons (pe_callB (call_max2 rfl) (by rfl) (T.fre "max" (by decide +kernel)) (by decide +kernel) (pa_cons (pe_un un_neg (pv 2)) (pa_cons (pv 3) pa_nil))) (pa_cons (pv 4) pa_nil)))))))))))), ?_⟩
  refine ⟨_, rfl, _, _, rfl, ht, rfl, _, _, rfl, _, _, rfl, _, _, rfl, rfl, ?_⟩
  rcases sig_sgl hst hsg with ⟨rfl, rfl, rfl⟩ | ⟨rfl, rfl, rfl⟩ | ⟨rfl, rfl, rfl⟩ | ⟨rfl, rfl, rfl⟩
  · obtain ⟨a, b, m, rfl, _⟩ := spanK_int hs hn
    refine ⟨_, rfl, rfl, _, rfl, iteD (fun _ => ?_) (fun h => absurd rfl h)⟩
    exact ⟨_, rfl, _, rfl, _, rfl, _, rfl, _, rfl, OutS.tp q rfl⟩
  · obtain ⟨a, b, m, rfl, _⟩ := spanK_int hs hn
    refine ⟨_, rfl, rfl, _, rfl, iteD (fun h => absurd h (by decide +kernel)) (fun _ => ?_)⟩
    refine ⟨_, rfl, rfl, _, rfl, iteD (fun h => absurd h (by decide +kernel)) (fun _ => ?_)⟩
    refine ⟨_, rfl, rfl, _, rfl, iteD (fun h => absurd h (by decide +kernel)) (fun _ => ?_)⟩
    have e : sglS .abs ⟨.int a, .int b, m⟩ = if a ≥ 0 then ⟨.int a, .int b, m⟩ else if b < 0 then ⟨.int (-b), .int (-a), m⟩ else ⟨.int 0, .int (maxI (-a) b), m⟩ := rfl
    rw [e] at q
    refine ⟨_, rfl, _, _, rfl, rfl, _, rfl, iteD (fun h => ?_) (fun h1 => ?_)⟩
    · rw [if_pos h] at q
      exact ⟨_, rfl, q _ _ (Same.refl H) ht⟩
    rw [if_neg h1] at q
    refine ⟨_, rfl, _, _, rfl, rfl, _, rfl, iteD (fun h => ?_) (fun h2 => ?_)⟩
    · rw [if_pos h] at q
      exact ⟨_, rfl, _, rfl, _, rfl, _, rfl, _, rfl, OutS.tp q rfl⟩
    rw [if_neg h2] at q
    exact ⟨_, rfl, _, rfl, _, rfl, _, _, rfl, _, rfl, OutS.tp q rfl⟩
  · obtain ⟨a, b, m, rfl⟩ := spanK_flag hs hn
    refine ⟨_, rfl, rfl, _, rfl, iteD (fun h => absurd h (by decide +kernel)) (fun _ => ?_)⟩
    refine ⟨_, rfl, rfl, _, rfl, iteD (fun _ => ?_) (fun h => absurd rfl h)⟩
    exact ⟨_, rfl, _, rfl, _, rfl, _, rfl, _, rfl, OutS.tp q rfl⟩
  · obtain ⟨a, b, m, rfl, va, vb⟩ := spanK_text hs hn
    refine ⟨_, rfl, rfl, _, rfl, iteD (fun h => absurd h (by decide +kernel)) (fun _ => ?_)⟩
    refine ⟨_, rfl, rfl, _, rfl, iteD (fun h => absurd h (by decide +kernel)) (fun _ => ?_)⟩
    refine ⟨_, rfl, rfl, _, rfl, iteD (fun _ => ?_) (fun h => absurd rfl h)⟩
    have e : sglS .len ⟨.str a, .str b, m⟩ = if a = b then ⟨.int a.length, .int a.length, m⟩ else ⟨.int 0, .int 200, m⟩ := rfl
    rw [e] at q
    have hl : a.length ≤ sizeLine := Nat.le_of_lt (small (Nat.le_trans va.1 (by decide)))
    refine ⟨_, rfl, _, rfl, rfl, _, rfl, iteD (fun h => ?_) (fun h1 => ?_)⟩
    · rw [if_pos (V.str.inj h)] at q
      exact ⟨_, rfl, _, rfl, hl, _, rfl, _, rfl, hl, _, rfl, OutS.tp q rfl⟩
    · rw [if_neg (fun z => h1 (congrArg V.str z))] at q
      exact ⟨_, rfl, OutS.tp q rfl⟩
end
end Ms
namespace Ms
open PySem PySem.Spec PyProof.Rows L2
/-- one loop of a comprehension, whatever its body -/
theorem out_it {J : It} {n : Nat} {G : Hp → Prop} {Y : Nat → Hp → V → Hp → Prop} (w : Walk J n G Y) {B : V → Hp → (Hp → Prop) → Prop} {H0 : Hp} {Qd : Hp → Prop} (Pv : Nat → Hp → Prop) (h0 : Pv 0 H0) (hG : ∀ i H, i ≤ n → Pv i H → G H)
    (hs : ∀ i x H H', i < n → Pv i H → Y i H x H' → B x H' (Pv (i + 1))) (hd : ∀ H, Pv n H → Qd H) :
    ∃ W : Nat → Nat → Hp → Prop, (∃ m, W 0 m H0) ∧ ∀ i m H, W i m H → (J.stop i H ∧ Qd H) ∨ (J.go i H ∧ ∃ Nx : Hp → Prop, (∀ H', Nx H' → ∃ m', m' < m ∧ W (i + 1) m' H') ∧ ∀ x H', J.yld i H x H' → B x H' Nx) := by
  refine ⟨fun i m H => m = n - i ∧ i ≤ n ∧ Pv i H, ⟨n, by simp, Nat.zero_le _, h0⟩, ?_⟩
  rintro i m H ⟨rfl, hi, p⟩
  have q := hG i H hi p
  by_cases hlt : i < n
  · refine .inr ⟨w.goes i H hlt q, Pv (i + 1), fun H' p' => ⟨n - (i + 1), by omega, rfl, hlt, p'⟩, fun x H' y => hs i x H H' hlt p (w.yields i H x H' hlt q y)⟩
  · have e : i = n := by omega
    subst e
    exact .inl ⟨w.stops H q, hd H p⟩
/-- a list grown by f of the items -/
def PvM (H : Hp) (D : Addr) (acc : List V) (f : V → V) (ys : List V) (i : Nat) (H' : Hp) : Prop := Same H H' ∧ H' D = some (.lst (acc ++ (ys.take i).map f))
theorem PvM.next {H H' : Hp} {D : Addr} {acc ys : List V} {f : V → V} {i : Nat} {x : V} (h : H D = none) (z : PvM H D acc f ys i H') (e : ys[i]? = some x) (hl : acc.length + ys.length ≤ 1000) :
    ∃ ac, H' D = some (.lst ac) ∧ ac.length < sizeLine ∧ PvM H D acc f ys (i + 1) (upd H' D (.lst (ac ++ [f x]))) := by
  refine ⟨_, z.2, small ?_, Same.put z.1 h, ?_⟩
  · rw [List.length_append, List.length_map, List.length_take]; omega
  · rw [upd_same, List.take_add_one, e, List.map_append, List.append_assoc]
    rfl
theorem PvM.all {H H' : Hp} {D : Addr} {acc ys : List V} {f : V → V} (z : PvM H D acc f ys ys.length H') : H' D = some (.lst (acc ++ ys.map f)) := by
  have h := z.2
  rw [List.take_length] at h
  exact h
/-- .. by lists of the items -/
def PvO (H : Hp) (D : Addr) (g : V → List V) (xs : List V) (i : Nat) (H' : Hp) : Prop := Same H H' ∧ H' D = some (.lst ((xs.take i).flatMap g))
theorem PvO.zero {H : Hp} {D : Addr} {g : V → List V} {xs : List V} (h : H D = none) : PvO H D g xs 0 (upd H D (.lst [])) := ⟨Same.new h, upd_same⟩
theorem PvO.next {H H' : Hp} {D : Addr} {g : V → List V} {xs ys : List V} {f : V → V} {i : Nat} {x : V} (z : PvM H D ((xs.take i).flatMap g) f ys ys.length H') (e : xs[i]? = some x) (hg : g x = ys.map f) : PvO H D g xs (i + 1) H' := by
  refine ⟨z.1, ?_⟩
  rw [z.all, List.take_add_one, e, List.flatMap_append, ← hg]
  congr 3
  show g x = [x].flatMap g
  simp
theorem PvO.all {H H' : Hp} {D : Addr} {g : V → List V} {xs : List V} (z : PvO H D g xs xs.length H') : H' D = some (.lst (xs.flatMap g)) := by
  have h := z.2
  rw [List.take_length] at h
  exact h
theorem cut2 (a b c : V) : cutV [a, b, c] none (some 2) = [a, b] := rfl
theorem not_whole2 {a b c : V} : ¬ (HT.sIx [a, b, c].length 0 none = 0 ∧ HT.sIx [a, b, c].length [a, b, c].length (some 2) = [a, b, c].length) := fun z => absurd z.2 (by show ¬ (2 : Nat) = 3; decide)
theorem fm_len {xs : List V} {g : V → List V} {n i : Nat} (h : ∀ x ∈ xs, (g x).length ≤ n) : ((xs.take i).flatMap g).length ≤ xs.length * n := by
  induction xs generalizing i with
  | nil => simp
  | cons x r ih =>
    cases i with
    | zero => simp
    | succ i =>
      rw [List.take_succ_cons, List.flatMap_cons, List.length_append, List.length_cons, Nat.succ_mul]
      have h1 := h x List.mem_cons_self
      have h2 := ih (i := i) fun y hy => h y (List.mem_cons_of_mem _ hy)
      omega
section
variable {P : Program} {w : World} {K : PySem.W.Frag} {mg : Str → Option Value} {base : Heap}
/-! _divided -/
def dvI (x y : V) : V := .int ((iv x).fdiv (iv y))
theorem quots_eq (a b c d : Int) : (quots a b c d).map V.int = ([.int a, .int b] : List V).flatMap fun x => ((ends c d).map V.int).map (dvI x) := by
  have e : ∀ x : Int, ((ends c d).map fun y => x.fdiv y).map V.int = ((ends c d).map V.int).map (dvI (.int x)) := fun x => by
    rw [List.map_map, List.map_map]
    rfl
  show ((((ends c d).map fun y => a.fdiv y) ++ (((ends c d).map fun y => b.fdiv y) ++ []))).map V.int = _
  rw [List.append_nil, List.map_append, e a, e b]
  show _ = _ ++ (_ ++ [])
  rw [List.append_nil]
theorem ends_len (c d : Int) : (ends c d).length ≤ 4 := by
  unfold ends
  split <;> split <;> simp
theorem ends_nz {c d y : Int} (hc : Bd c) (hd : Bd d) (h : y ∈ ends c d) : y ≠ 0 ∧ Bd y := by
  unfold ends at h
  obtain ⟨c1, c2⟩ := hc
  obtain ⟨d1, d2⟩ := hd
  rcases List.mem_append.mp h with h | h
  · split at h
    · simp only [List.mem_cons, List.not_mem_nil, or_false] at h
      unfold minI at h
      rcases h with rfl | h
      · exact ⟨by omega, c1, c2⟩
      · split at h <;> (subst h; exact ⟨by omega, by omega, by omega⟩)
    · cases h
  · split at h
    · simp only [List.mem_cons, List.not_mem_nil, or_false] at h
      unfold maxI at h
      rcases h with h | rfl
      · split at h <;> (subst h; exact ⟨by omega, by omega, by omega⟩)
      · exact ⟨by omega, d1, d2⟩
    · cases h
def spDivd (K : PySem.W.Frag) : Sp := fun vs H Q _ => ∃ (t u : Addr) (a b c d : Int) (m n o : Bool), vs = [.ref t, .ref u, .bl o] ∧ SqT K H t [.int a, .int b, .bl m] ∧ SqT K H u [.int c, .int d, .bl n] ∧ Bd c ∧ Bd d ∧ OutS K H Q (hulB ((quots a b c d).map V.int) o)
theorem sc_u_divided : FnScope ["first", "second", "missing", "ends", "results", "a", "b"] ["first", "second", "missing"] (defScope s_u_divided) := ⟨rfl, rfl, rfl, by decide +kernel, rfl, by decide +kernel, by decide +kernel⟩
theorem ok_u_divided (T : Cn w K mg base) : C8.Cal P w K mg base 2 "_divided" (spDivd K) [] := by
  refine T.cal (i := 28) (d := d_u_divided) (k := 1) rfl rfl (by decide +kernel) rfl rfl sc_u_divided (fun _ _ _ _ _ _ us hl => match us, hl with | [_, _, _], _ => rfl) (fun vs H Q E h => ?_) (fun cdv A outer s H vs Q E hr hcd h => ?_)
  · obtain ⟨_, _, _, _, _, _, _, _, _, rfl, _⟩ := h
    rfl
  obtain ⟨t, u, a, b, c, d, m, n, o, rfl, ht, hu', hc, hd, q⟩ := h
  have c1 := ok_u_bounded (P := P) T
  have hu : _ + 1 < cLine := hu_of hr
  refine ⟨_, (pss_cons (ps_set (i := 3) sc_u_divided.nd rfl (Or.inr rfl) (pe_lst pa_nil))
  (C8.pss_cut (ps_if (pt_cmpR op_lt (pe_ix ix_tup (pv 1) pe_int (fun _ _ => rfl)) pe_int (nomark _))
  (pss_one (ps_expr (pe_bm PySem.F.plainAttrs_list PySem.F.slot_list_extend PySem.F.type_list_extend mt_extend (pv 3) (pa_cons (pe_lst (pa_cons (pe_ix ix_tup (pv 1) pe_int (fun _ _ => rfl)) (pa_cons (pe_callB (call_min2 rfl) (by rfl) (T.fre "min" (by decide +kernel)) (by decide +kernel) (pa_cons (pe_ix ix_tup (pv 1) pe_int (fun _ _ => rfl)) (pa_cons (pe_un un_neg pe_int) pa_nil))) pa_nil))) pa_nil))))
  pss_nil)
  (C8.pss_cut (ps_if (pt_cmpR op_gt (pe_ix ix_tup (pv 1) pe_int (fun _ _ => rfl)) pe_int (nomark _))
  (pss_one (ps_expr (pe_bm PySem.F.plainAttrs_list PySem.F.slot_list_extend PySem.F.type_list_extend mt_extend (pv 3) (pa_cons (pe_lst (pa_cons (pe_callB (call_max2 rfl) (by rfl) (T.fre "max" (by decide +kernel)) (by decide +kernel) (pa_cons (pe_ix ix_tup (pv 1) pe_int (fun _ _ => rfl)) (pa_cons pe_int pa_nil))) (pa_cons (pe_ix ix_tup (pv 1) pe_int (fun _ _ => rfl)) pa_nil))) pa_nil))))
  pss_nil)
  (pss_cons (ps_setLc2 (i := 4) (own := [("a", 5), ("b", 6)]) (wi1 := iList K (tVar 3)) (vs1 := [6]) (by rfl) sc_u_divided.nd rfl rfl (sw_true rfl rfl rfl (by decide +kernel)) (pi_tup (pe_slice sl_tupA (pv 0) po_none (po_some pe_int))) (blkOk_by (own := [("a", 5), ("b", 6)]) (N := ["first", "second", "missing", "ends", "results", "a", "b"]) (sc := defScope s_u_divided) (by decide +kernel)) (by decide) (fun _ _ _ _ _ => (pg_name (i := 5) sc_u_divided.nd rfl (Or.inl rfl))) (fun _ _ _ _ _ => pts_nil) (fun _ _ _ _ _ => (pi_list (pv 3))) (fun _ _ _ _ _ => (pg_name (i := 6) sc_u_divided.nd rfl (Or.inl rfl))) (fun _ _ _ _ _ => pts_nil) (fun _ _ _ _ _ => (pe_op op_fdivB (pv 5) (pv 6))))
  (pss_cons (ps_if (pt_cmpR op_eq (pe_callB call_len_seq (by rfl) (T.fre "len" (by decide +kernel)) (by decide +kernel) (pa_cons (pv 4) pa_nil)) pe_int (nomark _))
  (pss_one (ps_ret (T.peRef "NOTHING" (by decide +kernel))))
  pss_nil)
  (pss_one (ps_ret (C8.pe_c c1 hr (by omega) rfl (pa_cons (pe_callB (cr_minK rfl hu) (by rfl) (T.fre "min" (by decide +kernel)) (by decide +kernel) (pa_cons (pv 4) pa_nil)) (pa_cons (pe_callB (cr_maxK rfl hu) (by rfl) (T.fre "max" (by decide +kernel)) (by decide +kernel) (pa_cons (pv 4) pa_nil)) (pa_cons (pv 2) pa_nil))))))))))), ?_⟩
  refine ⟨by decide, fun l hl => ?_⟩
  have st : ∀ {H' : Hp}, Same H H' → SqT K H' t [.int a, .int b, .bl m] := fun g => (Same.gr g).tupl ht
  have su : ∀ {H' : Hp}, Same H H' → SqT K H' u [.int c, .int d, .bl n] := fun g => (Same.gr g).tupl hu'
  let sg : List (Option V) := [some (.ref t), some (.ref u), some (.bl o), some (.ref l), none, none, none]
  have i1 : (-1 : Int) = -(1 : Int) := rfl
  refine ⟨fun σ' H' => σ' = sg ∧ Same H H' ∧ H' l = some (.lst ((if c < 0 then [c, minI d (-1)] else []).map V.int)), ?_, ?_⟩
  · refine ⟨_, rfl, _, _, _, _, rfl, rfl, su (Same.new hl), at_of (j := 0) rfl rfl, _, _, rfl, rfl, _, rfl, iteD (fun h => ?_) (fun h => ?_)⟩
    · refine ⟨_, rfl, .inl ⟨rfl, _, .inl (.inl upd_same)⟩, _, rfl, _, _, _, _, rfl, rfl, su (Same.new hl), at_of (j := 0) rfl rfl, _, rfl, _, _, _, _, rfl, rfl, su (Same.new hl), at_of (j := 1) rfl rfl, _, rfl, _, _, rfl, sz2, fun p hp => ?_⟩
      refine ⟨l, p, _, _, rfl, rfl, (Same.new hp) _ _ upd_same, upd_same, by rw [sizeLine_eq]; show 0 + 2 ≤ _; decide, rfl, ?_, ?_⟩
      · exact Same.put ((Same.new hl).trans (Same.new hp)) hl
      · rw [upd_same, if_pos h]
        rfl
    · exact ⟨rfl, Same.new hl, by rw [if_neg h]; exact upd_same⟩
  rintro σ1 H1 ⟨rfl, s1, l1⟩
  refine ⟨fun σ' H' => σ' = sg ∧ Same H H' ∧ H' l = some (.lst ((ends c d).map V.int)), ?_, ?_⟩
  · refine ⟨_, rfl, _, _, _, _, rfl, rfl, su s1, at_of (j := 1) rfl rfl, _, _, rfl, rfl, _, rfl, iteD (fun h => ?_) (fun h => ?_)⟩
    · refine ⟨_, rfl, .inl ⟨rfl, _, .inl (.inl l1)⟩, _, rfl, _, _, _, _, rfl, rfl, su s1, at_of (j := 0) rfl rfl, _, _, rfl, _, rfl, _, _, _, _, rfl, rfl, su s1, at_of (j := 1) rfl rfl, sz2, fun p hp => ?_⟩
      refine ⟨l, p, _, _, rfl, rfl, (Same.new hp) _ _ l1, upd_same, ?_, rfl, ?_, ?_⟩
      · rw [sizeLine_eq, List.length_map]
        show _ + 2 ≤ _
        split
        · show 2 + 2 ≤ _
          decide
        · show 0 + 2 ≤ _
          decide
      · exact Same.put (s1.trans (Same.new hp)) hl
      · rw [upd_same]
        unfold ends
        rw [if_pos (show d > 0 from h), List.map_append]
        rfl
    · refine ⟨rfl, s1, ?_⟩
      unfold ends
      rw [if_neg (show ¬ d > 0 from h), List.append_nil]
      exact l1
  rintro σ2 H2 ⟨rfl, s2, l2⟩
  refine ⟨_, rfl, _, rfl, _, _, rfl, st s2, fun z => absurd z not_whole2, fun _ p hp => ⟨p, rfl, ⟨_, .inl (.inl upd_same)⟩, fun D hD => ?_⟩⟩
  rw [cut2] at hD ⊢
  have hlE : ((ends c d).map V.int).length ≤ 4 := by rw [List.length_map]; exact ends_len c d
  have gl : ∀ x : V, (((ends c d).map V.int).map (dvI x)).length ≤ 4 := fun x => by rw [List.length_map]; exact hlE
  have hDl : D ≠ l := fun z => by rw [z, (Same.new hp) _ _ l2] at hD; cases hD
  refine out_it (walk_tup (K := K) (a := p) (xs := [.int a, .int b])) (PvO (upd H2 p (.tup [.int a, .int b])) D (fun x => ((ends c d).map V.int).map (dvI x)) [.int a, .int b]) (PvO.zero hD) (fun i H' hi hP => .inl (.inl (hP.1 _ _ upd_same))) (fun i x H3 H' hi hP hY => ?_) (fun H3 hP => ?_)
  · obtain ⟨rfl, hx⟩ := hY
    refine ⟨rfl, _, rfl, l, rfl, ⟨_, .inl (.inl (hP.1 _ _ ((Same.new hp) _ _ l2)))⟩, ?_⟩
    refine out_it (walk_list (K := K) (a := l) (xs := (ends c d).map V.int)) (PvM (upd H2 p (.tup [.int a, .int b])) D (([.int a, .int b] : List V).take i |>.flatMap fun x => ((ends c d).map V.int).map (dvI x)) (dvI x) ((ends c d).map V.int)) ?_ (fun j H4 hj hP4 => .inl (.inl (hP4.1 _ _ ((Same.new hp) _ _ l2)))) (fun j y H4 H5 hj hP4 hY4 => ?_) (fun H4 hP4 => ?_)
    · exact ⟨hP.1, by rw [List.take_zero, List.map_nil, List.append_nil]; exact hP.2⟩
    · obtain ⟨rfl, hy⟩ := hY4
      obtain ⟨yi, hyi, rfl⟩ := List.mem_map.mp (List.mem_of_getElem? hy)
      obtain ⟨nz, bd⟩ := ends_nz hc hd hyi
      have hx2 : ∃ xi, x = V.int xi := by
        have z := List.mem_of_getElem? hx
        simp only [List.mem_cons, List.not_mem_nil, or_false] at z
        rcases z with rfl | rfl <;> exact ⟨_, rfl⟩
      obtain ⟨xi, rfl⟩ := hx2
      refine ⟨rfl, _, rfl, _, rfl, _, _, rfl, rfl, ⟨nz, Nat.lt_of_lt_of_le bd.nat (Nat.pow_le_pow_right (by decide) (by decide))⟩, PvM.next hD hP4 hy ?_⟩
      have l1 := fm_len (xs := ([.int a, .int b] : List V)) (i := i) (fun x _ => gl x)
      have l2 : ([.int a, .int b] : List V).length = 2 := rfl
      omega
    · exact PvO.next hP4 hx rfl
  · have hS := hP.all
    rw [← quots_eq] at hS
    have s3 : Same H H3 := (s2.trans (Same.new hp)).trans hP.1
    generalize hq : (quots a b c d).map V.int = L at hS q
    have hI : ∀ x ∈ L, ∃ i, x = V.int i := fun x hx => by
      rw [← hq] at hx
      obtain ⟨i, _, rfl⟩ := List.mem_map.mp hx
      exact ⟨i, rfl⟩
    have hk : SkAll L := fun x hx y hy => by
      obtain ⟨i, rfl⟩ := hI x hx
      obtain ⟨j, rfl⟩ := hI y hy
      rfl
    cases L with
    | nil =>
      refine ⟨_, rfl, _, _, rfl, .inl (.inl (.inl hS)), rfl, _, rfl, iteD (fun _ => ?_) (fun h => absurd rfl h)⟩
      exact OutS.no T fun t' H' s' ht' => q t' H' (s3.trans s') ht'
    | cons x r =>
      refine ⟨_, rfl, _, _, rfl, .inl (.inl (.inl hS)), rfl, _, rfl, iteD (fun h => ?_) (fun _ => ?_)⟩
      · exfalso
        have z := V.int.inj h
        rw [List.length_cons] at z
        omega
      obtain ⟨l', el⟩ := hI _ (minV_mem x r)
      obtain ⟨g', eg⟩ := hI _ (maxV_mem x r)
      refine ⟨_, rfl, D, x, r, rfl, .inl (.inl hS), hk, _, rfl, D, x, r, rfl, .inl (.inl hS), hk, _, rfl, l', g', o, by rw [el, eg]; rfl, ?_⟩
      have e : hulB (x :: r) o = bndS l' g' o := by
        show bndS (iv (minV x r)) (iv (maxV x r)) o = _
        rw [el, eg]
        rfl
      rw [e] at q
      exact fun t' H' s' ht' => q t' H' (s3.trans s') ht'
/-! arithmetic_sieves -/
def mlI (x y : V) : V := .int (iv x * iv y)
theorem prods_eq (a b c d : Int) : (prods a b c d).map V.int = ([.int a, .int b] : List V).flatMap fun x => ([.int c, .int d] : List V).map (mlI x) := rfl
theorem bd_mul {i j : Int} (h : Bd i) (h2 : Bd j) : CMulW i j := wide_mul h.nat h2.nat (by decide) (by decide) (by decide)
def spAriS (K : PySem.W.Frag) : Sp := fun vs H Q _ => ∃ (wd : Wd) (t u : Addr) (a b c d : Int) (m n : Bool), vs = [.str wd.s, .ref t, .ref u] ∧ SqT K H t [.int a, .int b, .bl m] ∧ SqT K H u [.int c, .int d, .bl n] ∧ wd.isAri = true ∧ Bd a ∧ Bd b ∧ Bd c ∧ Bd d ∧ OutS K H Q (ariI wd a b c d (m || n))
theorem sc_arithmetic_sieves : FnScope ["word", "first", "second", "missing", "results", "a", "b"] ["word", "first", "second"] (defScope s_arithmetic_sieves) := ⟨rfl, rfl, rfl, by decide +kernel, rfl, by decide +kernel, by decide +kernel⟩
theorem ok_arithmetic_sieves (T : Cn w K mg base) : C8.Cal P w K mg base 3 "arithmetic_sieves" (spAriS K) [] := by
  refine T.cal (i := 29) (d := d_arithmetic_sieves) (k := 2) rfl rfl (by decide +kernel) rfl rfl sc_arithmetic_sieves (fun _ _ _ _ _ _ us hl => match us, hl with | [_, _, _], _ => rfl) (fun vs H Q E h => ?_) (fun cdv A outer s H vs Q E hr hcd h => ?_)
  · obtain ⟨_, _, _, _, _, _, _, _, _, rfl, _⟩ := h
    rfl
  obtain ⟨wd, t, u, a, b, c, d, m, n, rfl, ht, hu', hw, ha, hb, hc, hd, q⟩ := h
  have c1 := ok_u_bounded (P := P) T
  have c2 := ok_u_divided (P := P) T
  have hu : _ + 1 < cLine := hu_of hr
  refine ⟨_, (C8.pss_cut (ps_set (i := 3) sc_arithmetic_sieves.nd rfl (Or.inl rfl) (pe_or (pe_ix ix_tup (pv 1) pe_int (fun _ _ => rfl)) (pe_one (pe_ix ix_tup (pv 2) pe_int (fun _ _ => rfl)))))
  (pss_cons (ps_if (pt_cmpR op_eq (pv 0) pe_str (nomark _))
  (pss_one (ps_ret (C8.pe_c c1 hr (by omega) rfl (pa_cons (pe_op op_add (pe_ix ix_tup (pv 1) pe_int (fun _ _ => rfl)) (pe_ix ix_tup (pv 2) pe_int (fun _ _ => rfl))) (pa_cons (pe_op op_add (pe_ix ix_tup (pv 1) pe_int (fun _ _ => rfl)) (pe_ix ix_tup (pv 2) pe_int (fun _ _ => rfl))) (pa_cons (pv 3) pa_nil))))))
  pss_nil)
  (pss_cons (ps_if (pt_cmpR op_eq (pv 0) pe_str (nomark _))
  (pss_one (ps_ret (C8.pe_c c1 hr (by omega) rfl (pa_cons (pe_op op_sub (pe_ix ix_tup (pv 1) pe_int (fun _ _ => rfl)) (pe_ix ix_tup (pv 2) pe_int (fun _ _ => rfl))) (pa_cons (pe_op op_sub (pe_ix ix_tup (pv 1) pe_int (fun _ _ => rfl)) (pe_ix ix_tup (pv 2) pe_int (fun _ _ => rfl))) (pa_cons (pv 3) pa_nil))))))
  pss_nil)
  (pss_cons (ps_if (pt_cmpR op_eq (pv 0) pe_str (nomark _))
  (pss_cons (ps_setLc2 (i := 4) (own := [("a", 5), ("b", 6)]) (wi1 := iTup K (tSl (rSlA K) (tVar 2) tNoPart (tPart (tC (V.int 2))))) (vs1 := [6]) (by rfl) sc_arithmetic_sieves.nd rfl rfl (sw_true rfl rfl rfl (by decide +kernel)) (pi_tup (pe_slice sl_tupA (pv 1) po_none (po_some pe_int))) (blkOk_by (own := [("a", 5), ("b", 6)]) (N := ["word", "first", "second", "missing", "results", "a", "b"]) (sc := defScope s_arithmetic_sieves) (by decide +kernel)) (by decide) (fun _ _ _ _ _ => (pg_name (i := 5) sc_arithmetic_sieves.nd rfl (Or.inl rfl))) (fun _ _ _ _ _ => pts_nil) (fun _ _ _ _ _ => (pi_tup (pe_slice sl_tupA (pv 2) po_none (po_some pe_int)))) (fun _ _ _ _ _ => (pg_name (i := 6) sc_arithmetic_sieves.nd rfl (Or.inl rfl))) (fun _ _ _ _ _ => pts_nil) (fun _ _ _ _ _ => (pe_op op_mulW (pv 5) (pv 6))))
  (pss_one (ps_ret (C8.pe_c c1 hr (by omega) rfl (pa_cons (pe_callB (cr_minK rfl hu) (by rfl) (T.fre "min" (by decide +kernel)) (by decide +kernel) (pa_cons (pv 4) pa_nil)) (pa_cons (pe_callB (cr_maxK rfl hu) (by rfl) (T.fre "max" (by decide +kernel)) (by decide +kernel) (pa_cons (pv 4) pa_nil)) (pa_cons (pv 3) pa_nil)))))))
  pss_nil)
  (C8.pss_cut (ps_set (i := 3) sc_arithmetic_sieves.nd rfl (Or.inl rfl) (pe_or (pv 3) (pe_one (pe_chain op_le op_le (pe_ix ix_tup (pv 2) pe_int (fun _ _ => rfl)) pe_int (pe_ix ix_tup (pv 2) pe_int (fun _ _ => rfl))))))
  (pss_cons (ps_if (pt_cmpR op_eq (pv 0) pe_str (nomark _))
  (pss_one (ps_ret (C8.pe_c c2 hr (by omega) rfl (pa_cons (pv 1) (pa_cons (pv 2) (pa_cons (pv 3) pa_nil))))))
  pss_nil)
  (pss_cons (ps_if (PW.pt (pw_and (pt_cmpR op_eq (pe_ix ix_tup (pv 2) pe_int (fun _ _ => rfl)) pe_int (nomark _)) (pw_and1 (pt_cmpR op_eq (pe_ix ix_tup (pv 2) pe_int (fun _ _ => rfl)) pe_int (nomark _)))))
  (pss_one (ps_ret (T.peRef "NOTHING" (by decide +kernel))))
  pss_nil)
  (pss_one (ps_ret (pe_tup (pa_cons (pe_callB (call_min2 rfl) (by rfl) (T.fre "min" (by decide +kernel)) (by decide +kernel) (pa_cons (pe_op op_add (pe_ix ix_tup (pv 2) pe_int (fun _ _ => rfl)) pe_int) (pa_cons pe_int pa_nil))) (pa_cons (pe_callB (call_max2 rfl) (by rfl) (T.fre "max" (by decide +kernel)) (by decide +kernel) (pa_cons (pe_op op_sub (pe_ix ix_tup (pv 2) pe_int (fun _ _ => rfl)) pe_int) (pa_cons pe_int pa_nil))) (pa_cons (pv 3) pa_nil))))))))))))), ?_⟩
  refine ⟨fun σ' H' => σ' = [some (.str wd.s), some (.ref t), some (.ref u), some (.bl (m || n)), none, none, none] ∧ H' = H, ?_, ?_⟩
  · refine ⟨_, rfl, _, _, _, _, rfl, rfl, ht, at_of (j := 2) rfl rfl, ?_⟩
    cases m with
    | true => exact ⟨_, rfl, iteT ⟨rfl, rfl⟩⟩
    | false => exact ⟨_, rfl, iteF ⟨_, rfl, _, _, _, _, rfl, rfl, hu', at_of (j := 2) rfl rfl, rfl, rfl⟩⟩
  rintro σ1 H1 ⟨rfl, rfl⟩
  generalize (m || n) = o at q ⊢
  refine ⟨_, rfl, rfl, _, rfl, iteD (fun h => ?_) (fun h1 => ?_)⟩
  · obtain rfl := wd_eq (v := .add) h
    exact ⟨_, rfl, _, _, _, _, rfl, rfl, ht, at_of (j := 0) rfl rfl, _, rfl, _, _, _, _, rfl, rfl, hu', at_of (j := 0) rfl rfl, _, _, rfl, rfl, _, rfl, _, _, _, _, rfl, rfl, ht, at_of (j := 1) rfl rfl, _, rfl, _, _, _, _, rfl, rfl, hu', at_of (j := 1) rfl rfl, _, _, rfl, rfl, _, rfl, _, _, _, rfl, q⟩
  refine ⟨_, rfl, rfl, _, rfl, iteD (fun h => ?_) (fun h2 => ?_)⟩
  · obtain rfl := wd_eq (v := .sub) h
    exact ⟨_, rfl, _, _, _, _, rfl, rfl, ht, at_of (j := 0) rfl rfl, _, rfl, _, _, _, _, rfl, rfl, hu', at_of (j := 1) rfl rfl, _, _, rfl, rfl, _, rfl, _, _, _, _, rfl, rfl, ht, at_of (j := 1) rfl rfl, _, rfl, _, _, _, _, rfl, rfl, hu', at_of (j := 0) rfl rfl, _, _, rfl, rfl, _, rfl, _, _, _, rfl, q⟩
  refine ⟨_, rfl, rfl, _, rfl, iteD (fun h => ?_) (fun h3 => ?_)⟩
  · obtain rfl := wd_eq (v := .mul) h
    refine ⟨_, rfl, _, rfl, _, _, rfl, ht, fun z => absurd z not_whole2, fun _ p hp => ⟨p, rfl, ⟨_, .inl (.inl upd_same)⟩, fun D hD => ?_⟩⟩
    rw [cut2] at hD ⊢
    have bx : ∀ {x : V} {i j k : Int}, Bd i → Bd j → x ∈ ([.int i, .int j] : List V) → ∃ xi, x = V.int xi ∧ Bd xi := fun h1 h2 z => by
      simp only [List.mem_cons, List.not_mem_nil, or_false] at z
      rcases z with rfl | rfl
      · exact ⟨_, rfl, h1⟩
      · exact ⟨_, rfl, h2⟩
    refine out_it (walk_tup (K := K) (a := p) (xs := [.int a, .int b])) (PvO (upd H1 p (.tup [.int a, .int b])) D (fun x => ([.int c, .int d] : List V).map (mlI x)) [.int a, .int b]) (PvO.zero hD) (fun i H' hi hP => .inl (.inl (hP.1 _ _ upd_same))) (fun i x H3 H' hi hP hY => ?_) (fun H3 hP => ?_)
    · obtain ⟨rfl, hx⟩ := hY
      refine ⟨rfl, _, rfl, _, rfl, _, _, rfl, (Same.gr ((Same.new hp).trans hP.1)).tupl hu', fun z => absurd z not_whole2, fun _ p2 hp2 => ⟨p2, rfl, ⟨_, .inl (.inl upd_same)⟩, ?_⟩⟩
      rw [cut2]
      have s4 := hP.1.trans (Same.new (o := HO.tup [.int c, .int d]) hp2)
      have hD2 : upd H' p2 (.tup [.int c, .int d]) D = some (.lst _) := (Same.new hp2) _ _ hP.2
      refine out_it (walk_tup (K := K) (a := p2) (xs := [.int c, .int d])) (fun j H5 => upd H' p2 (.tup [.int c, .int d]) p2 = H5 p2 ∧ PvM (upd H1 p (.tup [.int a, .int b])) D (([.int a, .int b] : List V).take i |>.flatMap fun x => ([.int c, .int d] : List V).map (mlI x)) (mlI x) [.int c, .int d] j H5) ?_ (fun j H4 hj hP4 => .inl (.inl (by rw [← hP4.1]; exact upd_same))) (fun j y H4 H5 hj hP4 hY4 => ?_) (fun H4 hP4 => ?_)
      · exact ⟨rfl, s4, by rw [List.take_zero, List.map_nil, List.append_nil]; exact hD2⟩
      · obtain ⟨rfl, hy⟩ := hY4
        obtain ⟨e4, hP4⟩ := hP4
        obtain ⟨xi, rfl, bxi⟩ := bx (k := 0) ha hb (List.mem_of_getElem? hx)
        obtain ⟨yi, rfl, byi⟩ := bx (k := 0) hc hd (List.mem_of_getElem? hy)
        refine ⟨rfl, _, rfl, _, rfl, _, _, rfl, rfl, bd_mul bxi byi, ?_⟩
        obtain ⟨ac, q1, q2, q3⟩ := PvM.next (f := mlI (.int xi)) hD hP4 hy (by
          have l1 := fm_len (xs := ([.int a, .int b] : List V)) (g := fun x => ([.int c, .int d] : List V).map (mlI x)) (n := 2) (i := i) (fun x _ => by rw [List.length_map]; exact Nat.le_refl 2)
          have l2 : ([.int a, .int b] : List V).length = 2 := rfl
          have l3 : ([.int c, .int d] : List V).length = 2 := rfl
          omega)
        refine ⟨ac, q1, q2, ?_, q3⟩
        have hne : p2 ≠ D := fun z => by rw [z, upd_same] at hD2; cases hD2
        rw [upd_ne hne]
        exact e4
      · exact PvO.next hP4.2 hx rfl
    · have hS := hP.all
      have s3 : Same H1 H3 := (Same.new hp).trans hP.1
      have hk : SkAll ([.int (a * c), .int (a * d), .int (b * c), .int (b * d)] : List V) := fun x hx y hy => by
        simp only [List.mem_cons, List.not_mem_nil, or_false] at hx hy
        rcases hx with rfl | rfl | rfl | rfl <;> rcases hy with rfl | rfl | rfl | rfl <;> rfl
      have hI : ∀ x ∈ ([.int (a * c), .int (a * d), .int (b * c), .int (b * d)] : List V), ∃ i, x = V.int i := fun x hx => by
        simp only [List.mem_cons, List.not_mem_nil, or_false] at hx
        rcases hx with rfl | rfl | rfl | rfl <;> exact ⟨_, rfl⟩
      obtain ⟨l', el⟩ := hI _ (minV_mem _ _)
      obtain ⟨g', eg⟩ := hI _ (maxV_mem _ _)
      refine ⟨_, rfl, D, _, _, rfl, .inl (.inl hS), hk, _, rfl, D, _, _, rfl, .inl (.inl hS), hk, _, rfl, l', g', o, ?_, ?_⟩
      · show [minV _ _, maxV _ _, _] = _
        rw [← el, ← eg]
        rfl
      · have e : ariI .mul a b c d o = bndS l' g' o := by
          show bndS (iv (minV (.int (a * c)) [.int (a * d), .int (b * c), .int (b * d)])) (iv (maxV (.int (a * c)) [.int (a * d), .int (b * c), .int (b * d)])) o = _
          rw [el, eg]
          rfl
        rw [e] at q
        exact fun t' H' s' ht' => q t' H' (s3.trans s') ht'
  refine ⟨fun σ' H' => σ' = [some (.str wd.s), some (.ref t), some (.ref u), some (.bl (o || zer c d)), none, none, none] ∧ H' = H1, ?_, ?_⟩
  · cases o with
    | true => exact ⟨_, rfl, _, rfl, iteT ⟨rfl, rfl⟩⟩
    | false =>
      refine ⟨_, rfl, _, rfl, iteF ⟨_, rfl, _, _, _, _, rfl, rfl, hu', at_of (j := 0) rfl rfl, _, _, rfl, rfl, _, rfl, iteD (fun h => ?_) (fun h => ?_)⟩⟩
      · refine ⟨_, rfl, _, _, _, _, rfl, rfl, hu', at_of (j := 1) rfl rfl, _, _, rfl, rfl, ?_, rfl⟩
        show ([some (.str wd.s), some (.ref t), some (.ref u), some (.bl (decide (0 ≤ d))), none, none, none] : List (Option V)) = _
        unfold zer
        rw [decide_eq_true h]
        rfl
      · refine ⟨?_, rfl⟩
        unfold zer
        rw [decide_eq_false h]
        rfl
  rintro σ2 H2 ⟨rfl, rfl⟩
  refine ⟨_, rfl, rfl, _, rfl, iteD (fun h => ?_) (fun h4 => ?_)⟩
  · obtain rfl := wd_eq (v := .div) h
    exact ⟨_, rfl, _, rfl, _, rfl, t, u, a, b, c, d, m, n, _, rfl, ht, hu', hc, hd, q⟩
  have ew : wd = .mod := by
    cases wd <;> first
      | rfl
      | (cases hw; done)
      | exact absurd rfl h1
      | exact absurd rfl h2
      | exact absurd rfl h3
      | exact absurd rfl h4
  subst ew
  have eq0 : ∀ {i : Int}, V.int i = V.int 0 ↔ i = 0 := ⟨V.int.inj, fun z => by rw [z]⟩
  have e : ariI .mod a b c d o = if c = 0 ∧ d = 0 then nothing else ⟨.int (minI (c + 1) 0), .int (maxI (d - 1) 0), o || zer c d⟩ := rfl
  rw [e] at q
  have fin : ¬ (c = 0 ∧ d = 0) → OutS K H2 Q ⟨.int (minI (c + 1) 0), .int (maxI (d - 1) 0), o || zer c d⟩ := fun z => by rw [if_neg z] at q; exact q
  refine ⟨_, rfl, _, _, _, _, rfl, rfl, hu', at_of (j := 0) rfl rfl, rfl, _, rfl, iteD (fun h => ?_) (fun h => ?_)⟩
  · refine ⟨_, rfl, _, _, _, _, rfl, rfl, hu', at_of (j := 1) rfl rfl, rfl, _, rfl, iteD (fun h2 => ?_) (fun h2 => ?_)⟩
    · rw [if_pos ⟨eq0.mp h, eq0.mp h2⟩] at q
      exact OutS.no T q
    · exact ⟨_, rfl, _, _, _, _, rfl, rfl, hu', at_of (j := 0) rfl rfl, _, _, rfl, rfl, _, _, rfl, _, rfl, _, _, _, _, rfl, rfl, hu', at_of (j := 1) rfl rfl, _, _, rfl, rfl, _, _, rfl, _, rfl, OutS.tp (fin fun z => h2 (eq0.mpr z.2)) rfl⟩
  · exact iteF ⟨_, rfl, _, _, _, _, rfl, rfl, hu', at_of (j := 0) rfl rfl, _, _, rfl, rfl, _, _, rfl, _, rfl, _, _, _, _, rfl, rfl, hu', at_of (j := 1) rfl rfl, _, _, rfl, rfl, _, _, rfl, _, rfl, OutS.tp (fin fun z => h (eq0.mpr z.1)) rfl⟩
end
end Ms
namespace Ms
open PySem PySem.Spec PyProof.Rows L2
/-! elements of generators over spans -/
theorem span_kept {X : Cx} {pins : List (Addr × Obj)} {σ : L2.St} {H1 : Hp} {st s5 : Shared} {p t : Addr} {xs : List V} (I : Inv X pins σ H1 st) (hP : GxR.TabG H1 p) (hq : SqT X.K H1 t xs)
    (keep : ∀ b o, b ≠ p → st.heap.get? b = some o → s5.heap.get? b = some o) : ∃ its : List Value, Vals xs its ∧ IsTup s5.heap t its.toArray := by
  obtain ⟨ps, eP, _⟩ := hP
  have eP2 := I.hok p _ eP
  have eP3 : st.heap.get? p = some { cls := .none, data := .fields ps } := eP2
  obtain ⟨its, hv, ⟨o, e, hc, n, hd⟩, _⟩ := I.tuple hq
  refine ⟨its, hv, o, keep t o (fun z => ?_) e, hc, n, hd⟩
  rw [z, eP3] at e
  cases e
  cases hc
theorem elt_ms {X : Cx} {σ : L2.St} {H1 : Hp} {sc : Scope} {p1 p2 p3 : Pos} {k0 : Nat} {p : Addr} {us : List V} {ss : List Sn} (hp : Paired (SpanAt X.K H1) us ss)
    (s0 : sc.kind = .function) (s1 : sc.names.lookup ("span" : Str) = some .local) (hP : GxR.TabG H1 p) :
    GEl X σ sc "span" (.Subscript (.Name "span" p1) (.Constant (.int 2) k0 p2) p3) p us (fun j => (ss.getD j nothing).ms) H1 := by
  intro pins st I cenv A' E' j x u s5 m5 hx ru hsc hcl hgl hA hns hm keep
  obtain ⟨s, es, t, rfl, hq⟩ := paired_get hp hx
  obtain rfl : u = Value.ref t := ru
  obtain ⟨its, hv, ht⟩ := span_kept I hP hq keep
  obtain ⟨y, ey, ry⟩ := hv.get (show s.vs[2]? = some (V.bl s.ms) from rfl)
  obtain rfl : y = Value.bool s.ms := ry
  have hl : its.length = 3 := hv.length.symm
  refine Subscript_ ?_
  refine wpAny_Name (wpAny_loadName_local (by rw [hsc]; exact s0) (show cenv.scope.names.lookup _ = _ by rw [hsc]; exact s1) hns hm ?_) (by decide)
  refine wpAny_Constant_int ?_
  refine tail_any ht.typeIs slot_tuple_getitem.lookup (getItem_tuple (j := 2) ht (by decide) (by decide) (by rw [List.size_toArray, hl]; rfl) (by simpa using ey) ⟨?_, GxR.keeps_tok _ _⟩) rfl
  show Value.bool s.ms = Value.bool (ss.getD j nothing).ms
  rw [List.getD_eq_getElem?_getD, es]
  rfl
theorem elt_lo {X : Cx} {σ : L2.St} {H1 : Hp} {sc : Scope} {p1 p2 p3 p4 p5 : Pos} {k0 k1 : Nat} {p : Addr} {us : List V} {ss : List Sn} (hp : Paired (SpanAt X.K H1) us ss) (hsc0 : ∀ s ∈ ss, isSc s.lo = true)
    (s0 : sc.kind = .function) (s1 : sc.names.lookup ("span" : Str) = some .local) (hP : GxR.TabG H1 p) :
    GEl X σ sc "span" (.Compare (.Subscript (.Name "span" p1) (.Constant (.int 0) k0 p2) p3) [.Is] [.Constant .none k1 p4] p5) p us (fun j => decide ((ss.getD j nothing).lo = .non)) H1 := by
  intro pins st I cenv A' E' j x u s5 m5 hx ru hsc hcl hgl hA hns hm keep
  obtain ⟨s, es, t, rfl, hq⟩ := paired_get hp hx
  obtain rfl : u = Value.ref t := ru
  obtain ⟨its, hv, ht⟩ := span_kept I hP hq keep
  obtain ⟨y, ey, ry⟩ := hv.get (show s.vs[0]? = some s.lo from rfl)
  have hl : its.length = 3 := hv.length.symm
  refine wpAny_Compare1 ?_
  refine Subscript_ ?_
  refine wpAny_Name (wpAny_loadName_local (by rw [hsc]; exact s0) (show cenv.scope.names.lookup _ = _ by rw [hsc]; exact s1) hns hm ?_) (by decide)
  refine wpAny_Constant_int ?_
  refine tail_any ht.typeIs slot_tuple_getitem.lookup (getItem_tuple (j := 0) ht (by decide) (by decide) (by rw [List.size_toArray, hl]; rfl) (by simpa using ey) ?_) rfl
  refine wpAny_Constant_none ?_
  refine is_none_gen ⟨?_, GxR.keeps_tok _ _⟩
  have e1 : (ss.getD j nothing) = s := by rw [List.getD_eq_getElem?_getD, es]; rfl
  show Value.bool (y == .none) = Value.bool (decide ((ss.getD j nothing).lo = .non))
  rw [e1]
  have h3 := hsc0 s (List.mem_of_getElem? es)
  generalize s.lo = z at ry h3
  cases z with
  | non => cases ry; rfl
  | bl b => cases ry; rfl
  | int i => obtain ⟨tk, rfl⟩ := ry; rfl
  | str i => obtain ⟨tk, rfl⟩ := ry; rfl
  | _ => cases h3
section
variable {P : Program} {w : World} {K : PySem.W.Frag} {mg : Str → Option Value} {base : Heap}
/-! _joined -/
def spJoin (K : PySem.W.Frag) : Sp := fun vs H Q _ => ∃ (t u : Addr) (a b c d : Str) (m n : Bool), vs = [.ref t, .ref u] ∧ SqT K H t [.str a, .str b, .bl m] ∧ SqT K H u [.str c, .str d, .bl n] ∧ a.length ≤ 200 ∧ c.length ≤ 200 ∧ OutS K H Q (joiS ⟨.str a, .str b, m⟩ ⟨.str c, .str d, n⟩)
theorem sc_u_joined : FnScope ["first", "second", "missing", "text"] ["first", "second"] (defScope s_u_joined) := ⟨rfl, rfl, rfl, by decide +kernel, rfl, by decide +kernel, by decide +kernel⟩
theorem ok_u_joined (T : Cn w K mg base) : C8.Cal P w K mg base 2 "_joined" (spJoin K) [] := by
  refine T.cal (i := 30) (d := d_u_joined) (k := 1) rfl rfl (by decide +kernel) rfl rfl sc_u_joined (fun _ _ _ _ _ _ us hl => match us, hl with | [_, _], _ => rfl) (fun vs H Q E h => ?_) (fun cdv A outer s H vs Q E hr hcd h => ?_)
  · obtain ⟨_, _, _, _, _, _, _, _, rfl, _⟩ := h
    rfl
  obtain ⟨t, u, a, b, c, d, m, n, rfl, ht, hu', la, lc, q⟩ := h
  have c1 := ok_greatest_of (P := P) T
  refine ⟨_, (C8.pss_cut (ps_set (i := 2) sc_u_joined.nd rfl (Or.inl rfl) (pe_or (pe_ix ix_tup (pv 0) pe_int (fun _ _ => rfl)) (pe_one (pe_ix ix_tup (pv 1) pe_int (fun _ _ => rfl)))))
  (pss_cons (ps_if (PW.pt (pw_and (pt_cmpR op_eq (pe_ix ix_tup (pv 0) pe_int (fun _ _ => rfl)) (pe_ix ix_tup (pv 0) pe_int (fun _ _ => rfl)) (nomark _)) (pw_and1 (pt_cmpR op_eq (pe_ix ix_tup (pv 1) pe_int (fun _ _ => rfl)) (pe_ix ix_tup (pv 1) pe_int (fun _ _ => rfl)) (nomark _)))))
  (pss_cons (ps_set (i := 3) sc_u_joined.nd rfl (Or.inl rfl) (pe_op op_add_str (pe_ix ix_tup (pv 0) pe_int (fun _ _ => rfl)) (pe_ix ix_tup (pv 1) pe_int (fun _ _ => rfl))))
  (pss_one (ps_ret (pe_ifExp (pt_cmpR op_gt (pe_callB call_len_str (by rfl) (T.fre "len" (by decide +kernel)) (by decide +kernel) (pa_cons (pv 3) pa_nil)) T.peLongest (nomark _)) (T.peRef "NOTHING" (by decide +kernel)) (pe_tup (pa_cons (pv 3) (pa_cons (pv 3) (pa_cons (pv 2) pa_nil))))))))
  pss_nil)
  (pss_one (ps_ret (pe_tup (pa_cons (pe_ix ix_tup (pv 0) pe_int (fun _ _ => rfl)) (pa_cons (C8.pe_c c1 hr (by omega) rfl (pa_cons pe_str pa_nil)) (pa_cons pe_bl pa_nil)))))))), ?_⟩
  refine ⟨fun σ' H' => σ' = [some (.ref t), some (.ref u), some (.bl (m || n)), none] ∧ H' = H, ?_, ?_⟩
  · refine ⟨_, rfl, _, _, _, _, rfl, rfl, ht, at_of (j := 2) rfl rfl, ?_⟩
    cases m with
    | true => exact ⟨_, rfl, iteT ⟨rfl, rfl⟩⟩
    | false => exact ⟨_, rfl, iteF ⟨_, rfl, _, _, _, _, rfl, rfl, hu', at_of (j := 2) rfl rfl, rfl, rfl⟩⟩
  rintro σ1 H1 ⟨rfl, rfl⟩
  have e : joiS ⟨.str a, .str b, m⟩ ⟨.str c, .str d, n⟩ = if a = b ∧ c = d then (if a.length + c.length > 200 then nothing else ⟨.str (a ++ c), .str (a ++ c), m || n⟩) else ⟨.str a, .str tildes, true⟩ := rfl
  rw [e] at q
  generalize (m || n) = o at q ⊢
  have fin : ¬ (a = b ∧ c = d) → OutS K H1 Q ⟨.str a, .str tildes, true⟩ := fun z => by rw [if_neg z] at q; exact q
  refine ⟨_, rfl, _, _, _, _, rfl, rfl, ht, at_of (j := 0) rfl rfl, _, rfl, _, _, _, _, rfl, rfl, ht, at_of (j := 1) rfl rfl, rfl, _, rfl, iteD (fun h => ?_) (fun h => ?_)⟩
  · refine ⟨_, rfl, _, _, _, _, rfl, rfl, hu', at_of (j := 0) rfl rfl, _, rfl, _, _, _, _, rfl, rfl, hu', at_of (j := 1) rfl rfl, rfl, _, rfl, iteD (fun h2 => ?_) (fun h2 => ?_)⟩
    · rw [if_pos ⟨V.str.inj h, V.str.inj h2⟩] at q
      have ls : a.length + c.length ≤ sizeLine := by rw [sizeLine_eq]; omega
      refine ⟨_, rfl, _, _, _, _, rfl, rfl, ht, at_of (j := 0) rfl rfl, _, rfl, _, _, _, _, rfl, rfl, hu', at_of (j := 0) rfl rfl, _, _, rfl, rfl, ls, ?_⟩
      refine ⟨_, rfl, _, rfl, by rw [str_app_len]; exact ls, _, _, rfl, rfl, _, rfl, iteD (fun h3 => ?_) (fun h3 => ?_)⟩
      · rw [str_app_len] at h3
        rw [if_pos (by omega)] at q
        exact OutS.no T q
      · rw [str_app_len] at h3
        rw [if_neg (by omega)] at q
        exact ⟨_, rfl, _, rfl, _, rfl, OutS.tp q rfl⟩
    · exact ⟨_, rfl, _, _, _, _, rfl, rfl, ht, at_of (j := 0) rfl rfl, rfl, OutS.tp (fin fun z => h2 (congrArg V.str z.2)) rfl⟩
  · exact iteF ⟨_, rfl, _, _, _, _, rfl, rfl, ht, at_of (j := 0) rfl rfl, rfl, OutS.tp (fin fun z => h (congrArg V.str z.1)) rfl⟩
/-! _decided -/
def spDecd (K : PySem.W.Frag) : Sp := fun vs H Q _ => ∃ (wd : Wd) (t u : Addr) (f s : Sn), vs = [.str wd.s, .ref t, .ref u] ∧ (wd = .and ∨ wd = .or) ∧ SqT K H t f.vs ∧ SqT K H u s.vs ∧ SpanK .flag f ∧ SpanK .flag s ∧ OutS K H Q (flagS (decL (decide (wd = .or)) f s))
theorem sc_u_decided : FnScope ["word", "first", "second", "results", "a", "b"] ["word", "first", "second"] (defScope s_u_decided) := ⟨rfl, rfl, rfl, by decide +kernel, rfl, by decide +kernel, by decide +kernel⟩
theorem ob_o {x : V} (h : IsO .flag x) : isOB x = true := by
  rcases isO_ov h with rfl | ⟨b, rfl⟩ <;> rfl
theorem ok_u_decided (T : Cn w K mg base) : C8.Cal P w K mg base 3 "_decided" (spDecd K) [] := by
  refine T.cal (i := 32) (d := d_u_decided) (k := 2) rfl rfl (by decide +kernel) rfl rfl sc_u_decided (fun _ _ _ _ _ _ us hl => match us, hl with | [_, _, _], _ => rfl) (fun vs H Q E h => ?_) (fun cdv A outer s H vs Q E hr hcd h => ?_)
  · obtain ⟨_, _, _, _, _, rfl, _⟩ := h
    rfl
  obtain ⟨wd, t, u, f, sn, rfl, hw, ht, hu', kf, ks, q⟩ := h
  have c1 := ok_decided (P := P) T
  have c2 := ok_u_outcomes (P := P) T
  have c3 := ok_u_flags (P := P) T
  refine ⟨_, (pss_cons (ps_setLc2 (i := 3) (own := [("a", 4), ("b", 5)]) (wi1 := iList K (tCall (spOutc K) [] C8.E0 (tCons (tVar 2) tNil))) (vs1 := [5]) (by rfl) sc_u_decided.nd rfl rfl (sw_true rfl rfl rfl (by decide +kernel)) (pi_list (C8.pe_c c2 hr (by omega) rfl (pa_cons (pv 1) pa_nil))) (blkOk_by (own := [("a", 4), ("b", 5)]) (N := ["word", "first", "second", "results", "a", "b"]) (sc := defScope s_u_decided) (by decide +kernel)) (by decide) (fun _ _ _ _ _ => (pg_name (i := 4) sc_u_decided.nd rfl (Or.inl rfl))) (fun _ _ _ _ _ => pts_nil) (fun _ _ _ _ _ => (pi_list (C8.pe_c c2 hr (by omega) rfl (pa_cons (pv 2) pa_nil)))) (fun _ _ _ _ _ => (pg_name (i := 5) sc_u_decided.nd rfl (Or.inl rfl))) (fun _ _ _ _ _ => pts_nil) (fun _ _ _ _ _ => (C8.pe_c c1 hr (by omega) rfl (pa_cons (pv 0) (pa_cons (pv 4) (pa_cons (pv 5) pa_nil))))))
  (pss_one (ps_ret (C8.pe_c c3 hr (by omega) rfl (pa_cons (pv 3) pa_nil))))), ?_⟩
  refine ⟨_, rfl, t, f, rfl, ht, kf, fun l1 H1 s1 n1 e1 => ⟨l1, rfl, ⟨_, .inl (.inl e1)⟩, fun D hD => ?_⟩⟩
  let en := decide (wd = .or)
  refine out_it (walk_list (K := K) (a := l1) (xs := outc f)) (PvO H1 D (fun x => (outc sn).map (decV en x)) (outc f)) (PvO.zero hD) (fun i H' hi hP => .inl (.inl (hP.1 _ _ e1))) (fun i x H3 H' hi hP hY => ?_) (fun H3 hP => ?_)
  · obtain ⟨rfl, hx⟩ := hY
    refine ⟨rfl, _, rfl, u, sn, rfl, (Same.gr (s1.trans hP.1)).tupl hu', ks, fun l2 H4 s4 n4 e4 => ⟨l2, rfl, ⟨_, .inl (.inl e4)⟩, ?_⟩⟩
    have hD2 : H4 D = some (.lst _) := s4 _ _ hP.2
    have hne : l2 ≠ D := fun z => by rw [z, hP.2] at n4; cases n4
    refine out_it (walk_list (K := K) (a := l2) (xs := outc sn)) (fun j H5 => H4 l2 = H5 l2 ∧ PvM H1 D ((outc f).take i |>.flatMap fun x => (outc sn).map (decV en x)) (decV en x) (outc sn) j H5) ?_ (fun j H5 hj hP5 => .inl (.inl (by rw [← hP5.1]; exact e4))) (fun j y H5 H6 hj hP5 hY5 => ?_) (fun H5 hP5 => ?_)
    · exact ⟨rfl, hP.1.trans s4, by rw [List.take_zero, List.map_nil, List.append_nil]; exact hD2⟩
    · obtain ⟨rfl, hy⟩ := hY5
      obtain ⟨e5, hP5⟩ := hP5
      refine ⟨rfl, _, rfl, _, rfl, _, rfl, wd, x, y, rfl, hw, ob_o (outc_o x (List.mem_of_getElem? hx)), ob_o (outc_o y (List.mem_of_getElem? hy)), ?_⟩
      obtain ⟨ac, q1, q2, q3⟩ := PvM.next (f := decV en x) hD hP5 hy (by
        have l1 := fm_len (xs := outc f) (g := fun x => (outc sn).map (decV en x)) (n := 3) (i := i) (fun x _ => by rw [List.length_map]; exact outc_len sn)
        have l2 := outc_len f
        have l3 := outc_len sn
        omega)
      exact ⟨ac, q1, q2, by rw [upd_ne hne]; exact e5, q3⟩
    · exact PvO.next hP5.2 hx rfl
  · have hS := hP.all
    refine ⟨_, rfl, D, decL en f sn, rfl, .inl (.inl hS), ?_, decL_o _ _ _, fun t' H' s' ht' => q t' H' ((s1.trans hP.1).trans s') ht'⟩
    have l1 := fm_len (xs := outc f) (g := fun x => (outc sn).map (decV en x)) (n := 3) (i := (outc f).length) (fun x _ => by rw [List.length_map]; exact outc_len sn)
    rw [List.take_length] at l1
    have l2 := outc_len f
    show ((outc f).flatMap fun x => (outc sn).map (decV en x)).length ≤ 16
    omega
end
end Ms
namespace Ms
open PySem PySem.Spec PyProof.Rows L2
def gtge : List (Key × V) := [(.inr "gt", .str "lt"), (.inr "ge", .str "le")]
theorem gtge_merge : mergeK [] gtge = gtge := by decide +kernel
section
variable {P : Program} {w : World} {K : PySem.W.Frag} {mg : Str → Option Value} {base : Heap}
/-! _compared -/
def spCmpd (K : PySem.W.Frag) (n : Nat) : Sp := fun vs H Q _ => ∃ (wd : Wd) (t u : Addr) (f s : Sn) (k : Kd), vs = [.str wd.s, .ref t, .ref u] ∧ wd.isCmp = true ∧ SqT K H t f.vs ∧ SqT K H u s.vs ∧ IsV k f.lo ∧ IsV k f.hi ∧ IsV k s.lo ∧ IsV k s.hi ∧ 0 < n ∧ (wd = .gt ∨ wd = .ge → 1 < n) ∧ OutS K H Q (cmpS wd f s)
theorem sc_u_compared : FnScope ["word", "first", "second", "known"] ["word", "first", "second"] (defScope s_u_compared) := ⟨rfl, rfl, rfl, by decide +kernel, rfl, by decide +kernel, by decide +kernel⟩
theorem ok_u_compared (T : Cn w K mg base) : ∀ n, C8.Cal P w K mg base (n + 2) "_compared" (spCmpd K n) []
  | 0 => by
    have no : ∀ vs H Q E, ¬ spCmpd K 0 vs H Q E := fun vs H Q E h => by
      obtain ⟨_, _, _, _, _, _, _, _, _, _, _, _, _, _, h, _⟩ := h
      exact absurd h (Nat.not_lt_zero _)
    exact T.cal (i := 31) (d := d_u_compared) (k := 1) rfl rfl (by decide +kernel) rfl rfl sc_u_compared (fun _ _ _ _ _ _ us hl => match us, hl with | [_, _, _], _ => rfl) (fun vs H Q E h => (no _ _ _ _ h).elim) (fun cdv A outer s H vs Q E hr hcd h => (no _ _ _ _ h).elim)
  | n + 1 => by
    have c0 := ok_u_compared T n
    refine T.cal (i := 31) (d := d_u_compared) (k := (n+2)) rfl rfl (by decide +kernel) rfl rfl sc_u_compared (fun _ _ _ _ _ _ us hl => match us, hl with | [_, _, _], _ => rfl) (fun vs H Q E h => ?_) (fun cdv A outer s H vs Q E hr hcd h => ?_)
    · obtain ⟨_, _, _, _, _, _, rfl, _⟩ := h
      rfl
    obtain ⟨wd, t, u, f, sn, k, rfl, hw, ht, hu', f1, f2, s1, s2, hn, hn2, q⟩ := h
    have c1 := ok_compared (P := P) T
    have c2 := ok_u_hull (P := P) T
    have hu : _ + 1 < cLine := hu_of hr
    refine ⟨_, (pss_cons (ps_if (pt_cmpR op_in_seq (pv 0) (pe_tup (pa_cons pe_str (pa_cons pe_str pa_nil))) (by rfl))
  (pss_one (ps_ret (C8.pe_c c0 hr (by omega) rfl (pa_cons (pe_dget hu (pe_disp (pps_cons pe_str pe_str (pps_cons pe_str pe_str pps_nil)) (by rfl) (by rfl) (fun z => by cases z) (by decide)) (pv 0) (fun _ _ => rfl)) (pa_cons (pv 2) (pa_cons (pv 1) pa_nil))))))
  pss_nil)
  (pss_cons (ps_set (i := 3) sc_u_compared.nd rfl (Or.inl rfl) (pe_lst pa_nil))
  (C8.pss_cut (ps_if (pt_cmpR op_in_seq (pv 0) (pe_tup (pa_cons pe_str (pa_cons pe_str pa_nil))) (by rfl))
  (C8.pss_cut (ps_if (PW.pt (pw_and (pt_cmpR (op_leK hu) (pe_ix ix_tup (pv 1) pe_int (fun _ _ => rfl)) (pe_ix ix_tup (pv 2) pe_int (fun _ _ => rfl)) (nomark _)) (pw_and1 (pt_cmpR (op_leK hu) (pe_ix ix_tup (pv 2) pe_int (fun _ _ => rfl)) (pe_ix ix_tup (pv 1) pe_int (fun _ _ => rfl)) (nomark _)))))
  (pss_one (ps_expr (pe_bm PySem.F.plainAttrs_list PySem.F.slot_list_append PySem.F.type_list_append mt_append (pv 3) (pa_cons (pe_cmpR op_eq (pv 0) pe_str (nomark _)) pa_nil))))
  pss_nil)
  (pss_one (ps_if (pt_not (pt_ch3 op_eq (pe_ix ix_tup (pv 1) pe_int (fun _ _ => rfl)) (pe_ix ix_tup (pv 1) pe_int (fun _ _ => rfl)) (pe_ix ix_tup (pv 2) pe_int (fun _ _ => rfl)) (pe_ix ix_tup (pv 2) pe_int (fun _ _ => rfl))))
  (pss_one (ps_expr (pe_bm PySem.F.plainAttrs_list PySem.F.slot_list_append PySem.F.type_list_append mt_append (pv 3) (pa_cons (pe_cmpR op_eq (pv 0) pe_str (nomark _)) pa_nil))))
  pss_nil)))
  (C8.pss_cut (ps_if (pt_val (C8.pe_c c1 hr (by omega) rfl (pa_cons (pv 0) (pa_cons (pe_ix ix_tup (pv 1) pe_int (fun _ _ => rfl)) (pa_cons (pe_ix ix_tup (pv 2) pe_int (fun _ _ => rfl)) pa_nil)))))
  (pss_one (ps_expr (pe_bm PySem.F.plainAttrs_list PySem.F.slot_list_append PySem.F.type_list_append mt_append (pv 3) (pa_cons pe_bl pa_nil))))
  pss_nil)
  (pss_one (ps_if (pt_not (pt_val (C8.pe_c c1 hr (by omega) rfl (pa_cons (pv 0) (pa_cons (pe_ix ix_tup (pv 1) pe_int (fun _ _ => rfl)) (pa_cons (pe_ix ix_tup (pv 2) pe_int (fun _ _ => rfl)) pa_nil))))))
  (pss_one (ps_expr (pe_bm PySem.F.plainAttrs_list PySem.F.slot_list_append PySem.F.type_list_append mt_append (pv 3) (pa_cons pe_bl pa_nil))))
  pss_nil))))
  (pss_one (ps_ret (C8.pe_c c2 hr (by omega) rfl (pa_cons (pv 3) (pa_cons (pe_or (pe_ix ix_tup (pv 1) pe_int (fun _ _ => rfl)) (pe_one (pe_ix ix_tup (pv 2) pe_int (fun _ _ => rfl)))) pa_nil)))))))), ?_⟩
    refine ⟨_, rfl, sz2, fun tp htp => ⟨tp, _, rfl, .inr (.inl (.inl upd_same)), rfl, rfl, _, rfl, ?_⟩⟩
    show if inV (V.str wd.s) [.str "gt", .str "ge"] = true then _ else _
    rw [in_gtge]
    generalize hH0 : upd H tp (HO.tup [V.str "gt", V.str "ge"]) = H0
    have g0 : Same H H0 := by rw [← hH0]; exact Same.new htp
    have st : ∀ {H' : Hp}, Same H H' → SqT K H' t f.vs := fun g => (Same.gr g).tupl ht
    have su : ∀ {H' : Hp}, Same H H' → SqT K H' u sn.vs := fun g => (Same.gr g).tupl hu'
    refine iteB (fun h => ?_) (fun h => ?_)
    · have hg : wd = .gt ∨ wd = .ge := by
        rcases Bool.or_eq_true_iff.mp h with z | z
        · exact .inl (of_decide_eq_true z)
        · exact .inr (of_decide_eq_true z)
      have e : cmpS wd f sn = hulS (knownC (swW wd) sn f) (sn.ms || f.ms) := if_pos hg
      rw [e] at q
      refine fun p hp => ⟨upd_same, gtge, rfl, by decide, ?_⟩
      rw [gtge_merge, upd_upd]
      have g1 : Same H (upd H0 p (.dK gtge)) := g0.trans (Same.new hp)
      have d1 : valV gtge (.inr "gt") = some (.str "lt") := by decide +kernel
      have d2 : valV gtge (.inr "ge") = some (.str "le") := by decide +kernel
      have hd : DGet (upd H0 p (.dK gtge)) p (.str wd.s) (some (.str (swW wd).s)) := by
        rcases hg with rfl | rfl
        · have z := DGet.k (H := upd H0 p (.dK gtge)) (a := p) (k := .inr ("gt" : Str)) upd_same
          rw [d1] at z
          exact z
        · have z := DGet.k (H := upd H0 p (.dK gtge)) (a := p) (k := .inr ("ge" : Str)) upd_same
          rw [d2] at z
          exact z
      have hs : (swW wd).isCmp = true ∧ ¬ (swW wd = .gt ∨ swW wd = .ge) := by
        rcases hg with rfl | rfl
        · exact ⟨rfl, by decide⟩
        · exact ⟨rfl, by decide⟩
      have e2 : cmpS (swW wd) sn f = hulS (knownC (swW wd) sn f) (sn.ms || f.ms) := if_neg hs.2
      have h1n := hn2 hg
      refine ⟨_, rfl, p, .str (swW wd).s, rfl, hd, _, rfl, _, rfl, swW wd, u, t, sn, f, k, rfl, hs.1, su g1, st g1, s1, s2, f1, f2, by omega, fun z => absurd z hs.2, ?_⟩
      rw [e2]
      exact fun t' H' s' ht' => q t' H' (g1.trans s') ht'
    have hg : ¬ (wd = .gt ∨ wd = .ge) := fun z => by
      have z2 := Bool.or_eq_false_iff.mp h
      rcases z with z | z
      · exact of_decide_eq_false z2.1 z
      · exact of_decide_eq_false z2.2 z
    have e : cmpS wd f sn = hulS (knownC wd f sn) (f.ms || sn.ms) := if_neg hg
    rw [e] at q
    refine ⟨by decide, fun l hl => ?_⟩
    have hln : H l = none := g0.free hl
    let sg : List (Option V) := [some (.str wd.s), some (.ref t), some (.ref u), some (.ref l)]
    refine ⟨fun σ' H' => σ' = sg ∧ Same H H' ∧ H' l = some (.lst (knownC wd f sn)), ?_, ?_⟩
    · refine ⟨_, rfl, sz2, fun tp2 htp2 => ⟨tp2, _, rfl, .inr (.inl (.inl upd_same)), rfl, rfl, _, rfl, ?_⟩⟩
      show if inV (V.str wd.s) [.str "eq", .str "ne"] = true then _ else _
      rw [in_eqne]
      generalize hH1 : upd (upd H0 l (.lst [])) tp2 (HO.tup [V.str "eq", V.str "ne"]) = H1
      have g1 : Same H H1 := by rw [← hH1]; exact g0.trans ((Same.new hl).trans (Same.new htp2))
      have l1 : H1 l = some (.lst []) := by rw [← hH1]; exact (Same.new htp2) _ _ upd_same
      refine iteB (fun h => ?_) (fun h => ?_)
      · have he : wd = .eq ∨ wd = .ne := by
          rcases Bool.or_eq_true_iff.mp h with z | z
          · exact .inl (of_decide_eq_true z)
          · exact .inr (of_decide_eq_true z)
        have ek : knownC wd f sn = (if leB f.lo sn.hi && leB sn.lo f.hi then [.bl (decide (wd = .eq))] else []) ++ (if decide (f.lo = f.hi) && (decide (f.hi = sn.lo) && decide (sn.lo = sn.hi)) then [] else [.bl (decide (wd = .ne))]) := if_pos he
        refine ⟨fun σ' H' => σ' = sg ∧ Same H H' ∧ H' l = some (.lst (if leB f.lo sn.hi && leB sn.lo f.hi then [.bl (decide (wd = .eq))] else [])), ?_, ?_⟩
        · refine ⟨_, rfl, _, _, _, _, rfl, rfl, st g1, at_of (j := 0) rfl rfl, _, rfl, _, _, _, _, rfl, rfl, su g1, at_of (j := 1) rfl rfl, f1.sk s2, _, rfl, iteB (fun a => ?_) (fun a => ?_)⟩
          · refine ⟨_, rfl, _, _, _, _, rfl, rfl, su g1, at_of (j := 0) rfl rfl, _, rfl, _, _, _, _, rfl, rfl, st g1, at_of (j := 1) rfl rfl, s1.sk f2, _, rfl, iteB (fun b => ?_) (fun b => ?_)⟩
            · refine ⟨_, rfl, .inl ⟨rfl, _, .inl (.inl l1)⟩, _, rfl, rfl, l, [], _, rfl, rfl, l1, small (by decide), rfl, Same.put g1 hln, ?_⟩
              rw [upd_same, a, b]
              show some (HO.lst [.bl (decide (V.str wd.s = V.str (Str.ofString "eq")))]) = some (.lst [.bl (decide (wd = .eq))])
              rw [show decide (V.str wd.s = V.str (Str.ofString "eq")) = decide (wd = .eq) from wd_str (v := .eq)]
            · exact ⟨rfl, g1, by rw [a, b]; exact l1⟩
          · exact iteF ⟨rfl, g1, by rw [a]; exact l1⟩
        rintro σ2 H2 ⟨rfl, g2, l2⟩
        generalize hA : (if leB f.lo sn.hi && leB sn.lo f.hi then [V.bl (decide (wd = .eq))] else []) = A1 at l2 ek
        have lA : A1.length ≤ 1 := by
          rw [← hA]
          split
          · exact Nat.le_refl 1
          · exact Nat.zero_le 1
        rw [ek]
        have yes : (decide (f.lo = f.hi) && (decide (f.hi = sn.lo) && decide (sn.lo = sn.hi))) = false → ∀ q1 : Prop, (((sg = sg ∧ Same H (upd H2 l (.lst (A1 ++ [.bl (decide (V.str wd.s = V.str (Str.ofString "ne")))]))) ∧ (upd H2 l (.lst (A1 ++ [.bl (decide (V.str wd.s = V.str (Str.ofString "ne")))]))) l = some (.lst (A1 ++ (if decide (f.lo = f.hi) && (decide (f.hi = sn.lo) && decide (sn.lo = sn.hi)) then [] else [.bl (decide (wd = .ne))]))))) → q1) → q1 := fun z q1 h1 => by
          refine h1 ⟨rfl, Same.put g2 hln, ?_⟩
          rw [upd_same, z, show decide (V.str wd.s = V.str (Str.ofString "ne")) = decide (wd = .ne) from wd_str (v := .ne)]
          rfl
        refine ⟨_, rfl, _, _, _, _, rfl, rfl, st g2, at_of (j := 0) rfl rfl, _, rfl, _, _, _, _, rfl, rfl, st g2, at_of (j := 1) rfl rfl, sk_scal (f1.sk f2), _, rfl, iteD (fun a => ?_) (fun a => ?_)⟩
        · refine ⟨_, rfl, _, _, _, _, rfl, rfl, su g2, at_of (j := 0) rfl rfl, sk_scal (f2.sk s1), _, rfl, iteD (fun b => ?_) (fun b => ?_)⟩
          · refine ⟨_, rfl, _, _, _, _, rfl, rfl, su g2, at_of (j := 1) rfl rfl, sk_scal (s1.sk s2), _, rfl, iteN (fun c => ?_) (fun c => ?_)⟩
            · refine ⟨_, rfl, .inl ⟨rfl, _, .inl (.inl l2)⟩, _, rfl, rfl, l, A1, _, rfl, rfl, l2, small (by omega), ?_⟩
              exact yes (by rw [decide_eq_false c]; simp) _ (fun h => h)
            · refine ⟨rfl, g2, ?_⟩
              rw [decide_eq_true a, decide_eq_true b, decide_eq_true c]
              show H2 l = some (.lst (A1 ++ []))
              rw [List.append_nil]
              exact l2
          · refine ⟨_, rfl, .inl ⟨rfl, _, .inl (.inl l2)⟩, _, rfl, rfl, l, A1, _, rfl, rfl, l2, small (by omega), ?_⟩
            exact yes (by rw [decide_eq_false b]; simp) _ (fun h => h)
        · refine ⟨_, rfl, .inl ⟨rfl, _, .inl (.inl l2)⟩, _, rfl, rfl, l, A1, _, rfl, rfl, l2, small (by omega), ?_⟩
          exact yes (by rw [decide_eq_false a]; simp) _ (fun h => h)
      · have he : ¬ (wd = .eq ∨ wd = .ne) := fun z => by
          have z2 := Bool.or_eq_false_iff.mp h
          rcases z with z | z
          · exact of_decide_eq_false z2.1 z
          · exact of_decide_eq_false z2.2 z
        have ek : knownC wd f sn = (if cmpV wd f.lo sn.hi then [.bl true] else []) ++ (if cmpV wd f.hi sn.lo then [] else [.bl false]) := if_neg he
        refine ⟨fun σ' H' => σ' = sg ∧ Same H H' ∧ H' l = some (.lst (if cmpV wd f.lo sn.hi then [.bl true] else [])), ?_, ?_⟩
        · refine ⟨_, rfl, _, rfl, _, _, _, _, rfl, rfl, st g1, at_of (j := 0) rfl rfl, _, rfl, _, _, _, _, rfl, rfl, su g1, at_of (j := 1) rfl rfl, wd, f.lo, sn.hi, rfl, f1.sk s2, hw, _, rfl, iteB (fun a => ?_) (fun a => ?_)⟩
          · refine ⟨_, rfl, .inl ⟨rfl, _, .inl (.inl l1)⟩, l, [], _, rfl, rfl, l1, small (by decide), rfl, Same.put g1 hln, ?_⟩
            rw [upd_same, a]
            rfl
          · exact ⟨rfl, g1, by rw [a]; exact l1⟩
        rintro σ2 H2 ⟨rfl, g2, l2⟩
        generalize hA : (if cmpV wd f.lo sn.hi then [V.bl true] else []) = A1 at l2 ek
        have lA : A1.length ≤ 1 := by
          rw [← hA]
          split
          · exact Nat.le_refl 1
          · exact Nat.zero_le 1
        rw [ek]
        refine ⟨_, rfl, _, rfl, _, _, _, _, rfl, rfl, st g2, at_of (j := 1) rfl rfl, _, rfl, _, _, _, _, rfl, rfl, su g2, at_of (j := 0) rfl rfl, wd, f.hi, sn.lo, rfl, f2.sk s1, hw, _, rfl, iteC (fun a => ?_) (fun a => ?_)⟩
        · refine ⟨rfl, g2, ?_⟩
          rw [a]
          show H2 l = some (.lst (A1 ++ []))
          rw [List.append_nil]
          exact l2
        · refine ⟨_, rfl, .inl ⟨rfl, _, .inl (.inl l2)⟩, l, A1, _, rfl, rfl, l2, small (by omega), rfl, Same.put g2 hln, ?_⟩
          rw [upd_same, a]
          rfl
    rintro σ1 H1 ⟨rfl, g1, l1⟩
    refine ⟨_, rfl, _, rfl, _, _, _, _, rfl, rfl, st g1, at_of (j := 2) rfl rfl, ?_⟩
    have hk := skAll_of (knownC_v wd f sn)
    cases hf : f.ms with
    | true =>
      rw [hf] at q
      exact ⟨_, rfl, iteT ⟨l, _, true, rfl, .inl (.inl l1), hk, fun t' H' s' ht' => q t' H' (g1.trans s') ht'⟩⟩
    | false =>
      rw [hf] at q
      exact ⟨_, rfl, iteF ⟨_, rfl, _, _, _, _, rfl, rfl, su g1, at_of (j := 2) rfl rfl, l, _, sn.ms, rfl, .inl (.inl l1), hk, fun t' H' s' ht' => q t' H' (g1.trans s') ht'⟩⟩
end
end Ms
namespace Ms
open PySem PySem.Spec PyProof.Rows L2
theorem Paired.snoc {α β : Type} {G : α → β → Prop} : ∀ {l : List α} {m : List β} {a : α} {b : β}, Paired G l m → G a b → Paired G (l ++ [a]) (m ++ [b])
  | _, _, _, _, .nil, h => .cons h .nil
  | _, _, _, _, .cons r t, h => .cons r (Paired.snoc t h)
theorem any_range {ss : List Sn} {p : Sn → Bool} {n : Nat} (hn : n = ss.length) : ((List.range n).any fun j => p (ss.getD j nothing)) = ss.any p := by
  subst hn
  cases h : ss.any p with
  | true =>
    obtain ⟨s, hs, hp⟩ := List.any_eq_true.mp h
    obtain ⟨j, hj, e⟩ := List.getElem_of_mem hs
    refine List.any_eq_true.mpr ⟨j, List.mem_range.mpr hj, ?_⟩
    rw [List.getD_eq_getElem?_getD, List.getElem?_eq_getElem hj, e]
    exact hp
  | false =>
    refine List.any_eq_false.mpr fun j hj z => ?_
    have lt := List.mem_range.mp hj
    rw [List.getD_eq_getElem?_getD, List.getElem?_eq_getElem lt] at z
    exact absurd z (List.any_eq_false.mp h _ (List.getElem_mem lt))
section
variable {P : Program} {w : World} {K : PySem.W.Frag} {mg : Str → Option Value} {base : Heap}
def OutG (K : PySem.W.Frag) (H : Hp) (Q : VK) (r : Sn) : Prop := ∀ t H', Gk H H' → Tabs K H' → SqT K H' t r.vs → Q (.ref t) H'
theorem OutG.s {H H1 : Hp} {Q : VK} {r : Sn} (q : OutG K H Q r) (g : Gk H H1) (tb : Tabs K H1) : OutS K H1 Q r := fun t H' s h => q t H' (g.trans (Same.gk s)) (tb.same s) h
theorem OutG.g {H H1 : Hp} {Q : VK} {r : Sn} (q : OutG K H Q r) (g : Gk H H1) : OutG K H1 Q r := fun t H' s tb h => q t H' (g.trans s) tb h
def spTog (K : PySem.W.Frag) : Sp := fun vs H Q _ => ∃ (l : Addr) (us : List V) (ss : List Sn) (k : Kd), vs = [.ref l] ∧ SqL K H l us ∧ Paired (SpanAt K H) us ss ∧ (∀ s ∈ ss, SpanK k s) ∧ ss.length ≤ 16 ∧ Tabs K H ∧ OutG K H Q (togS ss)
theorem spanK_sc {k : Kd} {s : Sn} (h : SpanK k s) : isSc s.lo = true := by
  rcases h with h | h
  · rw [h]; rfl
  · exact h.1.sc
theorem sc_u_together : FnScope ["spans", "known", "span", "missing"] ["spans"] (defScope s_u_together) := ⟨rfl, rfl, rfl, by decide +kernel, rfl, by decide +kernel, by decide +kernel⟩
theorem ok_u_together (T : Cn w K mg base) : C8.Cal P w K mg base 1 "_together" (spTog K) [] := by
  refine T.cal (i := 33) (d := d_u_together) (k := 0) rfl rfl (by decide +kernel) rfl rfl sc_u_together (fun _ _ _ _ _ _ us hl => match us, hl with | [_], _ => rfl) (fun vs H Q E h => ?_) (fun cdv A outer s H vs Q E hr hcd h => ?_)
  · obtain ⟨_, _, _, _, rfl, _⟩ := h
    rfl
  obtain ⟨l, us, ss, k, rfl, hl, hp, hk, hlen, tb, q⟩ := h
  have TB := T.tab ("_together", none) (List.mem_of_getElem? (i := 1) rfl)
  have hu : _ + 1 < cLine := hu_of hr
  have lu : us.length = ss.length := Paired.len hp
  refine ⟨_, (pss_cons (ps_setLc (i := 1) (own := [("span", 2)]) (tt := tTest (tOp (fun x y H Q => y = V.non ∧ Q (V.bl (!decide (x = V.non))) H) (tOp (rIxT K) (tVar 2) (tC (.int 0))) (tC .non))) (by rfl) sc_u_together.nd rfl rfl (sw_true rfl rfl rfl (by decide +kernel)) (pi_list (pv 0)) (blkOk_by (own := [("span", 2)]) (N := ["spans", "known", "span", "missing"]) (sc := defScope s_u_together) (by decide +kernel)) (fun _ _ _ _ _ => (pg_name (i := 2) sc_u_together.nd rfl (Or.inl rfl))) (fun _ _ _ _ _ => (pts_one (pt_cmpR op_notN (pe_ix ix_tup (pv 2) pe_int (fun _ _ => rfl)) pe_non (nomark _)))) (fun _ _ _ _ _ => (pv 2)))
  (pss_cons (ps_if (pt_cmpR op_eq (pe_callB call_len_seq (by rfl) (T.fre "len" (by decide +kernel)) (by decide +kernel) (pa_cons (pv 1) pa_nil)) pe_int (nomark _))
  (pss_one (ps_ret (T.peRef "NOTHING" (by decide +kernel))))
  pss_nil)
  (pss_cons (ps_set (i := 3) sc_u_together.nd rfl (Or.inl rfl) (pe_anyL (pb := fun j => (ss.getD j nothing).ms) hr (by rfl) (T.fre "any" (by decide +kernel)) TB hcd ⟨rfl, rfl, by decide +kernel, by decide +kernel, by decide +kernel, fun y hy hf => ?_⟩ (pv 0) (fun _ => rfl)))
  (pss_one (ps_ret (pe_tup (pa_cons (pe_callB (cr_minK rfl hu) (by rfl) (T.fre "min" (by decide +kernel)) (by decide +kernel) (pa_cons (pe_lc (own := [("span", 2)]) (te := tOp (rIxT K) (tVar 2) (tC (.int 0))) (by rfl) sc_u_together.nd (pi_list (pv 1)) (blkOk_by (own := [("span", 2)]) (N := ["spans", "known", "span", "missing"]) (sc := defScope s_u_together) (by decide +kernel)) (fun _ _ _ _ _ => (pg_name (i := 2) sc_u_together.nd rfl (Or.inl rfl))) (fun _ _ _ _ _ => pts_nil) (fun _ _ _ _ _ => (pe_ix ix_tup (pv 2) pe_int (fun _ _ => rfl)))) pa_nil)) (pa_cons (pe_callB (cr_maxK rfl hu) (by rfl) (T.fre "max" (by decide +kernel)) (by decide +kernel) (pa_cons (pe_lc (own := [("span", 2)]) (te := tOp (rIxT K) (tVar 2) (tC (.int 1))) (by rfl) sc_u_together.nd (pi_list (pv 1)) (blkOk_by (own := [("span", 2)]) (N := ["spans", "known", "span", "missing"]) (sc := defScope s_u_together) (by decide +kernel)) (fun _ _ _ _ _ => (pg_name (i := 2) sc_u_together.nd rfl (Or.inl rfl))) (fun _ _ _ _ _ => pts_nil) (fun _ _ _ _ _ => (pe_ix ix_tup (pv 2) pe_int (fun _ _ => rfl)))) pa_nil)) (pa_cons (pv 3) pa_nil))))))))), ?_⟩
  · simp only [List.mem_cons, List.not_mem_nil, or_false] at hy
    rcases hy with rfl | rfl
    · cases hf
    · cases hf
  refine ⟨_, rfl, l, rfl, ⟨_, hl⟩, fun D hD => ?_⟩
  refine lc_list (K := K) (a := l) (xs := us) (fun i H' => Same H H' ∧ ∃ vs', H' D = some (.lst vs') ∧ Paired (SpanAt K H) vs' ((ss.take i).filter hasLo)) ⟨Same.new hD, [], upd_same, .nil⟩ (fun i H' hi hP => (Same.gr hP.1).seq hl) (fun i x H' hi hP => ?_) (fun H1 hP => ?_)
  · obtain ⟨g1, vs', e1, p1⟩ := hP
    obtain ⟨sn, e2, t, rfl, ht⟩ := paired_get hp hi
    refine ⟨rfl, _, rfl, _, _, _, _, rfl, rfl, (Same.gr g1).tupl ht, at_of (j := 0) rfl rfl, rfl, _, rfl, iteN (fun h => ?_) (fun h => ?_)⟩
    · refine ⟨_, rfl, _, e1, ?_, Same.put g1 hD, _, upd_same, ?_⟩
      · have z := Paired.len p1
        have z2 := filter_len hasLo ss i
        exact small (by omega)
      · rw [filter_take e2, if_pos (by unfold hasLo; rw [decide_eq_false h]; rfl)]
        exact Paired.snoc p1 ⟨t, rfl, ht⟩
    · refine ⟨g1, vs', e1, ?_⟩
      rw [filter_take e2, if_neg (by unfold hasLo; rw [decide_eq_true h]; exact Bool.false_ne_true), List.append_nil]
      exact p1
  obtain ⟨g1, vs', e1, p1⟩ := hP
  rw [lu, List.take_length] at p1
  have lv := Paired.len p1
  have tb1 := tb.same g1
  refine ⟨_, rfl, _, _, rfl, .inl (.inl (.inl e1)), rfl, _, rfl, iteD (fun h => ?_) (fun h => ?_)⟩
  · have e0 : ss.filter hasLo = [] := by
      have z := V.int.inj h
      exact List.eq_nil_of_length_eq_zero (by omega)
    have e : togS ss = nothing := by unfold togS; rw [e0]
    rw [e] at q
    exact OutS.no T (q.s (Same.gk g1) tb1)
  have hpm : (("_together", none) : He.Defn) ∈ tf := List.mem_of_getElem? (i := 1) rfl
  refine ⟨_, rfl, l, us, rfl, (Same.gr g1).seq hl, tb1 _ hpm, T.out _ hpm, ?_, fun H2 hT => ?_⟩
  · exact elt_ms (X := (cxOf CX0 P w K mg base _ _ _ _ _ _ _ _ _ _).nox) (Paired.mapG (fun _ _ z => z.gr (Same.gr g1)) hp) rfl rfl (tb1 _ hpm)
  have g2 : Gk H H2 := (Same.gk g1).trans (tabbed_gk (tb1 _ hpm) hT)
  have tb2 : Tabs K H2 := tabbed_tabs tb1 hT
  rw [any_range (p := fun z => z.ms) lu]
  have e2 : H2 D = some (.lst vs') := tabbed_gk (tb1 _ hpm) hT _ _ e1 rfl
  have p2 : Paired (SpanAt K H2) vs' (ss.filter hasLo) := Paired.mapG (fun _ _ z => z.gr g2.gr) p1
  cases e3 : ss.filter hasLo with
  | nil =>
    exfalso
    rw [e3] at lv
    exact h (by rw [lv]; rfl)
  | cons s0 r =>
    have e : togS ss = ⟨minV s0.lo (r.map fun z => z.lo), maxV s0.hi (r.map fun z => z.hi), ss.any fun z => z.ms⟩ := by unfold togS; rw [e3]
    rw [e] at q
    rw [e3] at p2 lv
    have hq : ∀ z ∈ s0 :: r, IsV k z.lo ∧ IsV k z.hi := fun z hz => by
      rw [← e3] at hz
      obtain ⟨z1, z2⟩ := List.mem_filter.mp hz
      refine spanK_v (hk z z1) fun e => ?_
      unfold hasLo at z2
      rw [e] at z2
      cases z2
    have l16 : (s0 :: r).length ≤ 16 := by
      rw [← e3]
      exact Nat.le_trans (List.length_filter_le _ _) hlen
    have v1 : ∀ x ∈ s0.lo :: r.map fun z => z.lo, IsV k x := fun x hx => by
      have m2 : x ∈ (s0 :: r).map fun z => z.lo := hx
      obtain ⟨z, hz, ez⟩ := List.mem_map.mp m2
      rw [← ez]; exact (hq z hz).1
    have v2 : ∀ x ∈ s0.hi :: r.map fun z => z.hi, IsV k x := fun x hx => by
      have m2 : x ∈ (s0 :: r).map fun z => z.hi := hx
      obtain ⟨z, hz, ez⟩ := List.mem_map.mp m2
      rw [← ez]; exact (hq z hz).2
    refine ⟨_, rfl, D, rfl, ⟨_, .inl (.inl e2)⟩, fun D1 hD1 => ?_⟩
    refine lc_list (K := K) (a := D) (xs := vs') (fun i H' => Same H2 H' ∧ H' D1 = some (.lst (((s0 :: r).take i).map fun z => z.lo))) ⟨Same.new hD1, upd_same⟩ (fun i H' hi hP => .inl (.inl (hP.1 _ _ e2))) (fun i x H' hi hP => ?_) (fun H3 hP => ?_)
    · obtain ⟨f1, f2⟩ := hP
      obtain ⟨sn, e5, t, rfl, ht⟩ := paired_get p2 hi
      refine ⟨rfl, _, rfl, _, _, _, _, rfl, rfl, (Same.gr f1).tupl ht, at_of (j := 0) rfl rfl, _, f2, ?_, Same.put f1 hD1, ?_⟩
      · rw [List.length_map, List.length_take]
        exact small (by omega)
      · rw [upd_same, List.take_add_one, e5, List.map_append]
        rfl
    obtain ⟨f1, f2⟩ := hP
    rw [lv, List.take_length] at f2
    refine ⟨D1, _, _, rfl, .inl (.inl f2), skAll_of v1, ?_⟩
    have e4 : H3 D = some (.lst vs') := f1 _ _ e2
    refine ⟨_, rfl, D, rfl, ⟨_, .inl (.inl e4)⟩, fun D2 hD2 => ?_⟩
    refine lc_list (K := K) (a := D) (xs := vs') (fun i H' => Same H3 H' ∧ H' D2 = some (.lst (((s0 :: r).take i).map fun z => z.hi))) ⟨Same.new hD2, upd_same⟩ (fun i H' hi hP => .inl (.inl (hP.1 _ _ e4))) (fun i x H' hi hP => ?_) (fun H4 hP => ?_)
    · obtain ⟨f3, f4⟩ := hP
      obtain ⟨sn, e5, t, rfl, ht⟩ := paired_get p2 hi
      refine ⟨rfl, _, rfl, _, _, _, _, rfl, rfl, (Same.gr (f1.trans f3)).tupl ht, at_of (j := 1) rfl rfl, _, f4, ?_, Same.put f3 hD2, ?_⟩
      · rw [List.length_map, List.length_take]
        exact small (by omega)
      · rw [upd_same, List.take_add_one, e5, List.map_append]
        rfl
    obtain ⟨f3, f4⟩ := hP
    rw [lv, List.take_length] at f4
    exact ⟨D2, _, _, rfl, .inl (.inl f4), skAll_of v2, _, rfl, OutS.tp (q.s (g2.trans (Same.gk (f1.trans f3))) (tb2.same (f1.trans f3))) rfl⟩
end
end Ms
namespace Ms
open PySem PySem.Spec PyProof.Rows L2
section
variable {P : Program} {w : World} {K : PySem.W.Frag} {mg : Str → Option Value} {base : Heap}
theorem sz3 : 3 ≤ sizeLine := by rw [sizeLine_eq]; decide
/-! _chosen -/
def spChosen (K : PySem.W.Frag) : Sp := fun vs H Q _ => ∃ (a b c : Addr) (sp f s : Sn) (k : Kd), vs = [.ref a, .ref b, .ref c] ∧ SqT K H a sp.vs ∧ SqT K H b f.vs ∧ SqT K H c s.vs ∧ SpanK .flag sp ∧ SpanK k f ∧ SpanK k s ∧ Tabs K H ∧ OutG K H Q (choS sp f s)
theorem sc_u_chosen : FnScope ["span", "first", "second", "spans", "outcome"] ["span", "first", "second"] (defScope s_u_chosen) := ⟨rfl, rfl, rfl, by decide +kernel, rfl, by decide +kernel, by decide +kernel⟩
theorem ok_u_chosen (T : Cn w K mg base) : C8.Cal P w K mg base 3 "_chosen" (spChosen K) [] := by
  refine T.cal (i := 34) (d := d_u_chosen) (k := 2) rfl rfl (by decide +kernel) rfl rfl sc_u_chosen (fun _ _ _ _ _ _ us hl => match us, hl with | [_, _, _], _ => rfl) (fun vs H Q E h => ?_) (fun cdv A outer s H vs Q E hr hcd h => ?_)
  · obtain ⟨_, _, _, _, _, _, _, rfl, _⟩ := h
    rfl
  obtain ⟨a, b, c, sp, f, sn, k, rfl, ha, hb, hc, kp, kf, ks, tb, q⟩ := h
  have c1 := ok_u_outcomes (P := P) T
  have c2 := ok_u_together (P := P) T
  refine ⟨_, (pss_cons (ps_set (i := 3) sc_u_chosen.nd rfl (Or.inl rfl) (pe_lst pa_nil))
  (pss_cons (ps_for PassesOwn.never rfl (pi_list (C8.pe_c c1 hr (by omega) rfl (pa_cons (pv 0) pa_nil))) (pg_name (i := 4) sc_u_chosen.nd rfl (Or.inl rfl))
  (pss_one (ps_if (pt_cmpR op_isN (pv 4) pe_non (nomark _))
  (pss_one (ps_expr (pe_bm PySem.F.plainAttrs_list PySem.F.slot_list_append PySem.F.type_list_append mt_append (pv 3) (pa_cons (T.peRef "NOTHING" (by decide +kernel)) pa_nil))))
  (pss_one (ps_expr (pe_bm PySem.F.plainAttrs_list PySem.F.slot_list_append PySem.F.type_list_append mt_append (pv 3) (pa_cons (pe_ifExp (pt_val (pv 4)) (pv 1) (pv 2)) pa_nil)))))))
  (pss_one (ps_ret (C8.pe_c c2 hr (by omega) rfl (pa_cons (pv 3) pa_nil)))))), ?_⟩
  refine ⟨by decide, fun l hl => ?_⟩
  have s0 := Same.new (o := HO.lst []) hl
  refine ⟨_, rfl, a, sp, rfl, (Same.gr s0).tupl ha, kp, fun l1 H1 s1 n1 e1 => ⟨l1, rfl, ⟨_, .inl (.inl e1)⟩, ?_⟩⟩
  have hne : l1 ≠ l := fun z => by rw [z, upd_same] at n1; cases n1
  refine for_it (walk_list (K := K) (a := l1) (xs := outc sp)) (fun i σ H' => (∃ o, σ = [some (.ref a), some (.ref b), some (.ref c), some (.ref l), o]) ∧ Same H H' ∧ H' l1 = some (.lst (outc sp)) ∧ ∃ us, H' l = some (.lst us) ∧ Paired (SpanAt K H) us (((outc sp).take i).map (chS f sn))) ?_ (fun i σ H' hi hP => .inl (.inl hP.2.2.1)) (fun i x σ H2 H3 hi hP hY => ?_) (fun σ H2 hP => ?_)
  · exact ⟨⟨_, rfl⟩, s0.trans s1, e1, [], s1 _ _ upd_same, .nil⟩
  · obtain ⟨⟨o, rfl⟩, g, e2, us, e3, p3⟩ := hP
    obtain ⟨rfl, hx⟩ := hY
    have l3 := outc_len sp
    have lu : us.length ≤ 3 := by
      rw [Paired.len p3, List.length_map, List.length_take]
      omega
    have fin : ∀ y : V, SpanAt K H y (chS f sn x) → (∃ l0 xs0 y0, V.ref l = V.ref l0 ∧ [y] = [y0] ∧ H3 l0 = some (.lst xs0) ∧ xs0.length < sizeLine ∧ ((∃ o, [some (V.ref a), some (V.ref b), some (V.ref c), some (V.ref l), some x] = [some (.ref a), some (.ref b), some (.ref c), some (.ref l), o]) ∧ Same H (upd H3 l0 (.lst (xs0 ++ [y0]))) ∧ upd H3 l0 (.lst (xs0 ++ [y0])) l1 = some (.lst (outc sp)) ∧ ∃ us, upd H3 l0 (.lst (xs0 ++ [y0])) l = some (.lst us) ∧ Paired (SpanAt K H) us (((outc sp).take (i + 1)).map (chS f sn)))) := fun y hy => by
      refine ⟨l, us, y, rfl, rfl, e3, small (by omega), ⟨_, rfl⟩, Same.put g hl, by rw [upd_ne hne]; exact e2, _, upd_same, ?_⟩
      rw [List.take_add_one, hx, List.map_append]
      exact Paired.snoc p3 hy
    refine ⟨_, rfl, rfl, _, rfl, iteD (fun h => ?_) (fun h => ?_)⟩
    · refine ⟨_, rfl, .inl ⟨rfl, _, .inl (.inl e3)⟩, ?_⟩
      refine fin _ ⟨_, rfl, ?_⟩
      rw [show chS f sn x = nothing from if_pos h]
      exact T.tNothing H
    · rcases isO_ov (outc_o x (List.mem_of_getElem? hx)) with e | ⟨b', rfl⟩
      · exact absurd e h
      · refine ⟨_, rfl, .inl ⟨rfl, _, .inl (.inl e3)⟩, ?_⟩
        cases b' with
        | true => exact ⟨_, rfl, _, rfl, iteT ⟨_, rfl, fin _ ⟨_, rfl, hb⟩⟩⟩
        | false => exact ⟨_, rfl, _, rfl, iteF ⟨_, rfl, fin _ ⟨_, rfl, hc⟩⟩⟩
  · obtain ⟨⟨o, rfl⟩, g, e2, us, e3, p3⟩ := hP
    rw [List.take_length] at p3
    refine ⟨_, rfl, l, us, (outc sp).map (chS f sn), k, rfl, .inl (.inl e3), Paired.mapG (fun _ _ z => z.gr (Same.gr g)) p3, fun s hs => ?_, ?_, tb.same g, q.g (Same.gk g)⟩
    · obtain ⟨o, _, rfl⟩ := List.mem_map.mp hs
      exact chS_k kf ks o
    · rw [List.length_map]
      have := outc_len sp
      omega
/-! _replaced -/
def spRep (K : PySem.W.Frag) : Sp := fun vs H Q _ => ∃ (b c : Addr) (f s : Sn) (k : Kd), vs = [.ref b, .ref c] ∧ SqT K H b f.vs ∧ SqT K H c s.vs ∧ SpanK k f ∧ SpanK k s ∧ Tabs K H ∧ OutG K H Q (repS f s)
theorem sc_u_replaced : FnScope ["first", "second"] ["first", "second"] (defScope s_u_replaced) := ⟨rfl, rfl, rfl, by decide +kernel, rfl, by decide +kernel, by decide +kernel⟩
theorem ok_u_replaced (T : Cn w K mg base) : C8.Cal P w K mg base 2 "_replaced" (spRep K) [] := by
  refine T.cal (i := 35) (d := d_u_replaced) (k := 1) rfl rfl (by decide +kernel) rfl rfl sc_u_replaced (fun _ _ _ _ _ _ us hl => match us, hl with | [_, _], _ => rfl) (fun vs H Q E h => ?_) (fun cdv A outer s H vs Q E hr hcd h => ?_)
  · obtain ⟨_, _, _, _, _, rfl, _⟩ := h
    rfl
  obtain ⟨b, c, f, sn, k, rfl, hb, hc, kf, ks, tb, q⟩ := h
  have c2 := ok_u_together (P := P) T
  refine ⟨_, (pss_cons (ps_if (pt_not (pt_val (pe_ix ix_tup (pv 0) pe_int (fun _ _ => rfl))))
  (pss_one (ps_ret (pv 0)))
  pss_nil)
  (pss_cons (ps_if (pt_cmpR op_isN (pe_ix ix_tup (pv 0) pe_int (fun _ _ => rfl)) pe_non (nomark _))
  (pss_one (ps_ret (pv 1)))
  pss_nil)
  (pss_one (ps_ret (C8.pe_c c2 hr (by omega) rfl (pa_cons (pe_lst (pa_cons (pe_tup (pa_cons (pe_ix ix_tup (pv 0) pe_int (fun _ _ => rfl)) (pa_cons (pe_ix ix_tup (pv 0) pe_int (fun _ _ => rfl)) (pa_cons pe_bl pa_nil)))) (pa_cons (pv 1) pa_nil))) pa_nil)))))), ?_⟩
  unfold repS at q
  refine ⟨_, rfl, _, _, _, _, rfl, rfl, hb, at_of (j := 2) rfl rfl, _, rfl, iteC (fun h => ?_) (fun h => ?_)⟩
  · rw [if_neg (by rw [h]; simp)] at q
    refine ⟨_, rfl, _, _, _, _, rfl, rfl, hb, at_of (j := 0) rfl rfl, rfl, _, rfl, iteD (fun h2 => ?_) (fun h2 => ?_)⟩
    · rw [if_pos h2] at q
      exact ⟨_, rfl, q _ _ (Gk.refl H) tb hc⟩
    · rw [if_neg h2] at q
      refine ⟨_, rfl, _, _, _, _, rfl, rfl, hb, at_of (j := 0) rfl rfl, _, rfl, _, _, _, _, rfl, rfl, hb, at_of (j := 1) rfl rfl, sz3, fun p hp => ?_⟩
      refine ⟨_, rfl, sz2, fun l hl => ?_⟩
      have s1 := Same.new (o := HO.tup [f.lo, f.hi, .bl false]) hp
      have s2 := s1.trans (Same.new (o := HO.lst [.ref p, .ref c]) hl)
      refine ⟨l, [.ref p, .ref c], [⟨f.lo, f.hi, false⟩, sn], k, rfl, .inl (.inl upd_same), .cons ⟨p, rfl, .inl (.inl ((Same.new hl) _ _ upd_same))⟩ (.cons ⟨c, rfl, (Same.gr s2).tupl hc⟩ .nil), fun z hz => ?_, Nat.le_of_ble_eq_true rfl, tb.same s2, q.g (Same.gk s2)⟩
      rcases List.mem_cons.mp hz with e | e
      · rw [e]; exact .inr (show IsV k f.lo ∧ IsV k f.hi from spanK_v kf h2)
      · rw [List.mem_singleton.mp e]; exact ks
  · rw [if_pos h] at q
    exact ⟨_, rfl, q _ _ (Gk.refl H) tb hb⟩
/-! _can_be -/
def spCanB (K : PySem.W.Frag) : Sp := fun vs H Q _ => ∃ (b : Addr) (f : Sn) (m : Bool), vs = [.ref b, .bl m] ∧ SqT K H b f.vs ∧ Q (.bl (canV f (.bl m))) H
theorem sc_u_can_be : FnScope ["span", "missing"] ["span", "missing"] (defScope s_u_can_be) := ⟨rfl, rfl, rfl, by decide +kernel, rfl, by decide +kernel, by decide +kernel⟩
theorem ok_u_can_be (T : Cn w K mg base) : C8.Cal P w K mg base 1 "_can_be" (spCanB K) [] := by
  refine T.cal (i := 36) (d := d_u_can_be) (k := 0) rfl rfl (by decide +kernel) rfl rfl sc_u_can_be (fun _ _ _ _ _ _ us hl => match us, hl with | [_, _], _ => rfl) (fun vs H Q E h => ?_) (fun cdv A outer s H vs Q E hr hcd h => ?_)
  · obtain ⟨_, _, _, rfl, _⟩ := h
    rfl
  obtain ⟨b, f, m, rfl, hb, q⟩ := h
  refine ⟨_, (pss_one (ps_ret (pe_ifExp (pt_val (pv 1)) (pe_ix ix_tup (pv 0) pe_int (fun _ _ => rfl)) (pe_cmpR op_notN (pe_ix ix_tup (pv 0) pe_int (fun _ _ => rfl)) pe_non (nomark _))))), ?_⟩
  cases m with
  | true => exact ⟨_, rfl, _, rfl, iteT ⟨_, rfl, _, _, _, _, rfl, rfl, hb, at_of (j := 2) rfl rfl, q⟩⟩
  | false => exact ⟨_, rfl, _, rfl, iteF ⟨_, rfl, _, _, _, _, rfl, rfl, hb, at_of (j := 0) rfl rfl, rfl, q⟩⟩
/-! span_from -/
def spSpanF (K : PySem.W.Frag) : Sp := fun vs H Q _ => ∃ (wd : Wd) (l : Addr) (us : List V) (ss : List Sn) (ks : List Kd) (k : Kd), vs = [.str wd.s, .ref l] ∧ SqL K H l us ∧ Paired (SpanAt K H) us ss ∧ Paired SpanK ks ss ∧ sig wd ks = some k ∧ Tabs K H ∧ OutG K H Q (spF wd ss)
theorem miss_wd {w : Wd} (h1 : w ≠ .miss) (h2 : w ≠ .and) (h3 : w ≠ .or) (h4 : w ≠ .ite) (h5 : w ≠ .orelse) : w.strict = true := by
  cases w <;> first
    | rfl
    | exact absurd rfl h1
    | exact absurd rfl h2
    | exact absurd rfl h3
    | exact absurd rfl h4
    | exact absurd rfl h5
theorem sig_strict_len {w : Wd} {ks : List Kd} {k : Kd} (hs : w.strict = true) (h : sig w ks = some k) : (∃ a, ks = [a]) ∨ ∃ a b, ks = [a, b] := by
  unfold sig at h
  split at h <;> first
    | exact .inl ⟨_, rfl⟩
    | exact .inr ⟨_, _, rfl⟩
    | (cases hs; done)
    | (cases h; done)
theorem sc_span_from : FnScope ["word", "spans", "missing"] ["word", "spans"] (defScope s_span_from) := ⟨rfl, rfl, rfl, by decide +kernel, rfl, by decide +kernel, by decide +kernel⟩
theorem ok_span_from (T : Cn w K mg base) : C8.Cal P w K mg base 5 "span_from" (spSpanF K) [] := by
  refine T.cal (i := 37) (d := d_span_from) (k := 4) rfl rfl (by decide +kernel) rfl rfl sc_span_from (fun _ _ _ _ _ _ us hl => match us, hl with | [_, _], _ => rfl) (fun vs H Q E h => ?_) (fun cdv A outer s H vs Q E hr hcd h => ?_)
  · obtain ⟨_, _, _, _, _, _, rfl, _⟩ := h
    rfl
  obtain ⟨wd, l, us, ss, ks, k, rfl, hl, hp, hk, hsg, tb, q⟩ := h
  have TB := T.tab ("span_from", none) (List.mem_of_getElem? (i := 2) rfl)
  have c1 := ok_u_flags (P := P) T
  have c2 := ok_u_can_be (P := P) T
  have c3 := ok_u_decided (P := P) T
  have c4 := ok_u_chosen (P := P) T
  have c5 := ok_u_replaced (P := P) T
  have c6 := ok_single_sieves (P := P) T
  have c7 := ok_u_compared (P := P) T 2
  have c8 := ok_u_joined (P := P) T
  have c9 := ok_arithmetic_sieves (P := P) T
  have hu : _ + 1 < cLine := hu_of hr
  have lu : us.length = ss.length := Paired.len hp
  refine ⟨_, (pss_cons (ps_if (pt_cmpR op_eq (pv 0) pe_str (nomark _))
  (pss_one (ps_ret (C8.pe_c c1 hr (by omega) rfl (pa_cons (pe_lc (own := [("missing", 2)]) (tt := tB (tCall (spCanB K) [] C8.E0 (tCons (tOp (rIxL K) (tVar 1) (tC (.int 0))) (tCons (tVar 2) tNil)))) (by rfl) sc_span_from.nd (pi_tup (pe_tup (pa_cons pe_bl (pa_cons pe_bl pa_nil)))) (blkOk_by (own := [("missing", 2)]) (N := ["word", "spans", "missing"]) (sc := defScope s_span_from) (by decide +kernel)) (fun _ _ _ _ _ => (pg_name (i := 2) sc_span_from.nd rfl (Or.inl rfl))) (fun _ _ _ _ _ => (pts_one (pt_val (C8.pe_c c2 hr (by omega) rfl (pa_cons (pe_ix ix_list (pv 1) pe_int (fun _ _ => rfl)) (pa_cons (pv 2) pa_nil)))))) (fun _ _ _ _ _ => (pv 2))) pa_nil))))
  pss_nil)
  (pss_cons (ps_if (pt_cmpR op_in_seq (pv 0) (pe_tup (pa_cons pe_str (pa_cons pe_str pa_nil))) (by rfl))
  (pss_one (ps_ret (C8.pe_c c3 hr (by omega) rfl (pa_cons (pv 0) (pa_cons (pe_ix ix_list (pv 1) pe_int (fun _ _ => rfl)) (pa_cons (pe_ix ix_list (pv 1) pe_int (fun _ _ => rfl)) pa_nil))))))
  pss_nil)
  (pss_cons (ps_if (pt_cmpR op_eq (pv 0) pe_str (nomark _))
  (pss_one (ps_ret (C8.pe_c c4 hr (by omega) rfl (pa_cons (pe_ix ix_list (pv 1) pe_int (fun _ _ => rfl)) (pa_cons (pe_ix ix_list (pv 1) pe_int (fun _ _ => rfl)) (pa_cons (pe_ix ix_list (pv 1) pe_int (fun _ _ => rfl)) pa_nil))))))
  pss_nil)
  (pss_cons (ps_if (pt_cmpR op_eq (pv 0) pe_str (nomark _))
  (pss_one (ps_ret (C8.pe_c c5 hr (by omega) rfl (pa_cons (pe_ix ix_list (pv 1) pe_int (fun _ _ => rfl)) (pa_cons (pe_ix ix_list (pv 1) pe_int (fun _ _ => rfl)) pa_nil)))))
  pss_nil)
  (pss_cons (ps_if (pt_val (pe_anyL (pb := fun j => decide ((ss.getD j nothing).lo = .non)) hr (by rfl) (T.fre "any" (by decide +kernel)) TB hcd ⟨rfl, rfl, by decide +kernel, by decide +kernel, by decide +kernel, fun y hy hf => ?_⟩ (pv 1) (fun _ => rfl)))
  (pss_one (ps_ret (T.peRef "NOTHING" (by decide +kernel))))
  pss_nil)
  (pss_cons (ps_if (pt_cmpR op_eq (pe_callB call_len_seq (by rfl) (T.fre "len" (by decide +kernel)) (by decide +kernel) (pa_cons (pv 1) pa_nil)) pe_int (nomark _))
  (pss_one (ps_ret (C8.pe_c c6 hr (by omega) rfl (pa_cons (pv 0) (pa_cons (pe_ix ix_list (pv 1) pe_int (fun _ _ => rfl)) pa_nil)))))
  pss_nil)
  (pss_cons (ps_if (pt_cmpR op_in_seq (pv 0) (T.peRef "COMPARISONS" (by decide +kernel)) (by rfl))
  (pss_one (ps_ret (C8.pe_c c7 hr (by omega) rfl (pa_cons (pv 0) (pa_cons (pe_ix ix_list (pv 1) pe_int (fun _ _ => rfl)) (pa_cons (pe_ix ix_list (pv 1) pe_int (fun _ _ => rfl)) pa_nil))))))
  pss_nil)
  (pss_one (ps_ret (pe_ifExp (pt_cmpR op_eq (pv 0) pe_str (nomark _)) (C8.pe_c c8 hr (by omega) rfl (pa_cons (pe_ix ix_list (pv 1) pe_int (fun _ _ => rfl)) (pa_cons (pe_ix ix_list (pv 1) pe_int (fun _ _ => rfl)) pa_nil))) (C8.pe_c c9 hr (by omega) rfl (pa_cons (pv 0) (pa_cons (pe_ix ix_list (pv 1) pe_int (fun _ _ => rfl)) (pa_cons (pe_ix ix_list (pv 1) pe_int (fun _ _ => rfl)) pa_nil)))))))))))))), ?_⟩
  · simp only [List.mem_cons, List.not_mem_nil, or_false] at hy
    rcases hy with rfl | rfl
    · cases hf
    · cases hf
  refine ⟨_, rfl, rfl, _, rfl, iteD (fun h => ?_) (fun h1 => ?_)⟩
  · obtain rfl := wd_eq (v := .miss) h
    obtain ⟨⟨ka, rfl⟩, rfl⟩ := sig_miss hsg
    cases hk with
    | @cons _ s0 _ _ k0 t0 =>
    cases t0
    cases hp with
    | @cons u0 _ _ _ p0 tp =>
    cases tp
    obtain ⟨t, rfl, ht⟩ := p0
    refine ⟨sz2, fun tp htp => ⟨tp, rfl, ⟨_, .inl (.inl upd_same)⟩, fun D hD => ?_⟩⟩
    have g0 := Same.new (o := HO.tup [.bl true, .bl false]) htp
    refine lc_tup (K := K) (a := tp) (xs := [.bl true, .bl false]) (PvF (upd H tp (.tup [.bl true, .bl false])) D (canV s0) [.bl true, .bl false]) (PvF.zero hD) (fun i H' hi hP => .inl (.inl (hP.1 _ _ upd_same))) (fun i x H' hi hP => ?_) (fun H' hP => ?_)
    · have hx : ∃ b, x = V.bl b := by
        have z := List.mem_of_getElem? hi
        simp only [List.mem_cons, List.not_mem_nil, or_false] at z
        rcases z with rfl | rfl <;> exact ⟨_, rfl⟩
      obtain ⟨b, rfl⟩ := hx
      have g := g0.trans hP.1
      refine ⟨rfl, _, rfl, _, _, _, _, rfl, rfl, (Same.gr g).seq hl, at_of (j := 0) rfl rfl, _, rfl, t, s0, b, rfl, (Same.gr g).tupl ht, _, rfl, iteB (fun h => ?_) (fun h => ?_)⟩
      · exact ⟨_, rfl, PvF.yes hD hP hi h (Nat.le_of_ble_eq_true rfl)⟩
      · exact PvF.no hP hi h
    · have g := g0.trans hP.1
      refine ⟨D, _, rfl, .inl (.inl hP.all), ?_, fun y hy => ?_, q.s (Same.gk g) (tb.same g)⟩
      · exact Nat.le_trans (List.length_filter_le _ _) (Nat.le_of_ble_eq_true rfl)
      · have h2 := (List.mem_filter.mp hy).1
        simp only [List.mem_cons, List.not_mem_nil, or_false] at h2
        rcases h2 with rfl | rfl <;> exact .inr trivial
  have n1 : wd ≠ .miss := fun z => h1 (by rw [z]; rfl)
  refine ⟨_, rfl, sz2, fun tp htp => ⟨tp, _, rfl, .inr (.inl (.inl upd_same)), rfl, rfl, _, rfl, ?_⟩⟩
  show if inV (V.str wd.s) [.str "and", .str "or"] = true then _ else _
  rw [in_andor]
  have g0 := Same.new (o := HO.tup [.str "and", .str "or"]) htp
  have tb0 := tb.same g0
  have hl0 := (Same.gr g0).seq hl
  have hp0 : Paired (SpanAt K (upd H tp (HO.tup [.str "and", .str "or"]))) us ss := Paired.mapG (fun _ _ z => z.gr (Same.gr g0)) hp
  have q0 := q.g (Same.gk g0)
  generalize upd H tp (HO.tup [.str "and", .str "or"]) = H0 at g0 tb0 hl0 hp0 q0 ⊢
  refine iteB (fun h => ?_) (fun h2 => ?_)
  · have hw : wd = .and ∨ wd = .or := by
      rcases Bool.or_eq_true_iff.mp h with z | z
      · exact .inl (of_decide_eq_true z)
      · exact .inr (of_decide_eq_true z)
    have e4 : ks = [.flag, .flag] ∧ spF wd ss = flagS (decL (decide (wd = .or)) (ss.getD 0 nothing) (ss.getD 1 nothing)) := by
      rcases hw with rfl | rfl
      · exact ⟨(sig_and hsg).1, rfl⟩
      · exact ⟨(sig_or hsg).1, rfl⟩
    obtain ⟨rfl, e5⟩ := e4
    rw [e5] at q0
    cases hk with
    | @cons _ f _ _ k1 t1 => cases t1 with
      | @cons _ sn _ _ k2 t2 =>
        cases t2
        cases hp0 with
        | cons p1 tp1 => cases tp1 with
          | cons p2 tp2 =>
            cases tp2
            obtain ⟨a, rfl, pa⟩ := p1
            obtain ⟨b, rfl, pb⟩ := p2
            exact ⟨_, rfl, _, rfl, _, _, _, _, rfl, rfl, hl0, at_of (j := 0) rfl rfl, _, rfl, _, _, _, _, rfl, rfl, hl0, at_of (j := 1) rfl rfl, wd, a, b, f, sn, rfl, hw, pa, pb, k1, k2, q0.s (Gk.refl _) tb0⟩
  have z2 := Bool.or_eq_false_iff.mp h2
  have n2 : wd ≠ .and := of_decide_eq_false z2.1
  have n3 : wd ≠ .or := of_decide_eq_false z2.2
  refine ⟨_, rfl, rfl, _, rfl, iteD (fun h => ?_) (fun h3 => ?_)⟩
  · obtain rfl := wd_eq (v := .ite) h
    obtain rfl := sig_ite hsg
    cases hk with
    | @cons _ s0 _ _ k0 t1 => cases t1 with
      | @cons _ f _ _ k1 t2 => cases t2 with
        | @cons _ sn _ _ k2 t3 =>
          cases t3
          cases hp0 with
          | cons p1 tp1 => cases tp1 with
            | cons p2 tp2 => cases tp2 with
              | cons p3 tp3 =>
                cases tp3
                obtain ⟨a, rfl, pa⟩ := p1
                obtain ⟨b, rfl, pb⟩ := p2
                obtain ⟨c, rfl, pc⟩ := p3
                exact ⟨_, rfl, _, _, _, _, rfl, rfl, hl0, at_of (j := 0) rfl rfl, _, rfl, _, _, _, _, rfl, rfl, hl0, at_of (j := 1) rfl rfl, _, rfl, _, _, _, _, rfl, rfl, hl0, at_of (j := 2) rfl rfl, a, b, c, s0, f, sn, k, rfl, pa, pb, pc, k0, k1, k2, tb0, q0⟩
  have n4 : wd ≠ .ite := fun z => h3 (by rw [z]; rfl)
  refine ⟨_, rfl, rfl, _, rfl, iteD (fun h => ?_) (fun h4 => ?_)⟩
  · obtain rfl := wd_eq (v := .orelse) h
    obtain rfl := sig_orelse hsg
    cases hk with
    | @cons _ f _ _ k1 t1 => cases t1 with
      | @cons _ sn _ _ k2 t2 =>
        cases t2
        cases hp0 with
        | cons p1 tp1 => cases tp1 with
          | cons p2 tp2 =>
            cases tp2
            obtain ⟨a, rfl, pa⟩ := p1
            obtain ⟨b, rfl, pb⟩ := p2
            exact ⟨_, rfl, _, _, _, _, rfl, rfl, hl0, at_of (j := 0) rfl rfl, _, rfl, _, _, _, _, rfl, rfl, hl0, at_of (j := 1) rfl rfl, a, b, f, sn, k, rfl, pa, pb, k1, k2, tb0, q0⟩
  have n5 : wd ≠ .orelse := fun z => h4 (by rw [z]; rfl)
  have hst := miss_wd n1 n2 n3 n4 n5
  rw [spF_strict hst] at q0
  have hpm : (("span_from", none) : He.Defn) ∈ tf := List.mem_of_getElem? (i := 2) rfl
  have hsc : ∀ s ∈ ss, isSc s.lo = true := fun s hs => by
    obtain ⟨ki, _, z⟩ := Paired.memR hk hs
    exact spanK_sc z
  refine ⟨_, rfl, l, us, rfl, hl0, tb0 _ hpm, T.out _ hpm, ?_, fun H2 hT => ?_⟩
  · exact elt_lo (X := (cxOf CX0 P w K mg base _ _ _ _ _ _ _ _ _ _).nox) hp0 hsc rfl rfl (tb0 _ hpm)
  have g2 : Gk H0 H2 := tabbed_gk (tb0 _ hpm) hT
  have tb2 : Tabs K H2 := tabbed_tabs tb0 hT
  rw [any_range (p := fun z => decide (z.lo = .non)) lu]
  refine ⟨_, rfl, iteB (fun h => ?_) (fun h5 => ?_)⟩
  · rw [if_pos h] at q0
    exact OutS.no T (q0.s g2 tb2)
  have h5' : ¬ (ss.any fun s => decide (s.lo = .non)) = true := by rw [h5]; exact Bool.false_ne_true
  rw [if_neg h5'] at q0
  have hn := notlo h5'
  have hl2 := g2.gr.seq hl0
  have hp2 : Paired (SpanAt K H2) us ss := Paired.mapG (fun _ _ z => z.gr g2.gr) hp0
  have q2 := q0.g g2
  rcases sig_strict_len hst hsg with ⟨ka, rfl⟩ | ⟨ka, kb, rfl⟩
  · cases hk with
    | @cons _ s0 _ _ k0 t0 =>
    cases t0
    cases hp2 with
    | @cons u0 _ _ _ p0 tp =>
    cases tp
    obtain ⟨t, rfl, ht⟩ := p0
    refine ⟨_, rfl, _, _, rfl, .inl hl2, rfl, _, rfl, iteD (fun _ => ?_) (fun h => absurd rfl h)⟩
    exact ⟨_, rfl, _, rfl, _, _, _, _, rfl, rfl, hl2, at_of (j := 0) rfl rfl, wd, t, s0, ka, k, rfl, ht, hst, hsg, k0, hn _ List.mem_cons_self, q2.s (Gk.refl _) tb2⟩
  · cases hk with
    | @cons _ f _ _ k1 t1 => cases t1 with
      | @cons _ sn _ _ k2 t2 =>
        cases t2
        cases hp2 with
        | cons p1 tp1 => cases tp1 with
          | cons p2 tp2 =>
            cases tp2
            obtain ⟨a, rfl, pa⟩ := p1
            obtain ⟨b, rfl, pb⟩ := p2
            have m1 := hn f List.mem_cons_self
            have m2 := hn sn (List.mem_cons_of_mem _ List.mem_cons_self)
            refine ⟨_, rfl, _, _, rfl, .inl hl2, rfl, _, rfl, iteD (fun h => absurd (V.int.inj h) (by show ¬ (2 : Int) = 1; decide)) (fun _ => ?_)⟩
            refine ⟨_, rfl, _, _, rfl, .inr (T.tComp H2), rfl, rfl, _, rfl, ?_⟩
            show if inV (V.str wd.s) vComp = true then _ else _
            rw [in_comp]
            have e : strS wd [f, sn] = if wd.isCmp = true then cmpS wd f sn else if wd = .joined then joiS f sn else ariS wd f sn := rfl
            rw [e] at q2
            rcases strS_two hst hsg with ⟨e1, rfl, rfl⟩ | ⟨rfl, rfl, rfl, rfl⟩ | ⟨e1, e2, e3, rfl, rfl, rfl⟩
            · rw [if_pos e1] at q2
              rw [e1]
              obtain ⟨f1, f2⟩ := spanK_v k1 m1
              obtain ⟨s1, s2⟩ := spanK_v k2 m2
              exact iteT ⟨_, rfl, _, rfl, _, _, _, _, rfl, rfl, hl2, at_of (j := 0) rfl rfl, _, rfl, _, _, _, _, rfl, rfl, hl2, at_of (j := 1) rfl rfl, wd, a, b, f, sn, _, rfl, e1, pa, pb, f1, f2, s1, s2, by decide, fun _ => by decide, q2.s (Gk.refl _) tb2⟩
            · obtain ⟨x1, x2, m, rfl, va, vb⟩ := spanK_text k1 m1
              obtain ⟨y1, y2, n, rfl, vc, vd⟩ := spanK_text k2 m2
              refine iteF ⟨_, rfl, rfl, _, rfl, iteD (fun _ => ?_) (fun h => absurd rfl h)⟩
              exact ⟨_, rfl, _, _, _, _, rfl, rfl, hl2, at_of (j := 0) rfl rfl, _, rfl, _, _, _, _, rfl, rfl, hl2, at_of (j := 1) rfl rfl, a, b, x1, x2, y1, y2, m, n, rfl, pa, pb, va.1, vc.1, q2.s (Gk.refl _) tb2⟩
            · rw [e2, if_neg Bool.false_ne_true, if_neg e3] at q2
              rw [e2]
              obtain ⟨x1, x2, m, rfl, va, vb⟩ := spanK_int k1 m1
              obtain ⟨y1, y2, n, rfl, vc, vd⟩ := spanK_int k2 m2
              refine iteF ⟨_, rfl, rfl, _, rfl, iteD (fun h => absurd (wd_eq (v := .joined) h) e3) (fun _ => ?_)⟩
              exact ⟨_, rfl, _, rfl, _, _, _, _, rfl, rfl, hl2, at_of (j := 0) rfl rfl, _, rfl, _, _, _, _, rfl, rfl, hl2, at_of (j := 1) rfl rfl, wd, a, b, x1, x2, y1, y2, m, n, rfl, pa, pb, e1, va, vb, vc, vd, q2.s (Gk.refl _) tb2⟩
end
end Ms
namespace Ms
open PySem PySem.Spec PyProof.Rows L2
/-! ### box, marks, papers -/
def PairAt (K : PySem.W.Frag) (H : Hp) (v : V) (b : Int × Int) : Prop := ∃ u, v = .ref u ∧ SqT K H u [.int b.1, .int b.2]
def BoxAt (K : PySem.W.Frag) (H : Hp) (v : V) (bx : List (Int × Int)) : Prop := ∃ t vs, v = .ref t ∧ SqT K H t vs ∧ Paired (PairAt K H) vs bx
def ColAt (K : PySem.W.Frag) (H : Hp) (v : V) (s : Sn) : Prop := ∃ z m, v = .ref z ∧ SqT K H z [.int m, s.lo, s.hi] ∧ s.ms = decide (m > 0)
def MkAt (K : PySem.W.Frag) (H : Hp) (v : V) (ms : List Sn) : Prop := ∃ t c u vs, v = .ref t ∧ SqT K H t [.int c, .ref u] ∧ SqT K H u vs ∧ Paired (ColAt K H) vs ms
structure Bxm (K : PySem.W.Frag) (H : Hp) (p : Addr) (vb vm : V) (sh : Shp) (bx : List (Int × Int)) (ms : List Sn) : Prop where
  shp : ShAt (shC K) H p sh
  box : BoxAt K H vb bx
  mks : MkAt K H vm ms
  lb : bx.length = sh.dims.length
  bd : ∀ b ∈ bx, Bd b.1 ∧ Bd b.2
  lm : ms.length = sh.attrs.length
  mo : ∀ (i : Nat) (n : Str) (k : Kd), sh.attrs[i]? = some (n, k) → ∃ s, ms[i]? = some s ∧ SpanK k s
theorem PairAt.gr {K : PySem.W.Frag} {H H' : Hp} {v : V} {b : Int × Int} (g : Gr H H') (h : PairAt K H v b) : PairAt K H' v b := by
  obtain ⟨u, e, z⟩ := h
  exact ⟨u, e, g.tupl z⟩
theorem BoxAt.gr {K : PySem.W.Frag} {H H' : Hp} {v : V} {b : List (Int × Int)} (g : Gr H H') (h : BoxAt K H v b) : BoxAt K H' v b := by
  obtain ⟨t, vs, e, z, p⟩ := h
  exact ⟨t, vs, e, g.tupl z, Paired.mapG (fun _ _ q => q.gr g) p⟩
theorem ColAt.gr {K : PySem.W.Frag} {H H' : Hp} {v : V} {b : Sn} (g : Gr H H') (h : ColAt K H v b) : ColAt K H' v b := by
  obtain ⟨z, m, e, q, r⟩ := h
  exact ⟨z, m, e, g.tupl q, r⟩
theorem MkAt.gr {K : PySem.W.Frag} {H H' : Hp} {v : V} {b : List Sn} (g : Gr H H') (h : MkAt K H v b) : MkAt K H' v b := by
  obtain ⟨t, c, u, vs, e, z, y, p⟩ := h
  exact ⟨t, c, u, vs, e, g.tupl z, g.tupl y, Paired.mapG (fun _ _ q => q.gr g) p⟩
theorem Bxm.gr {K : PySem.W.Frag} {H H' : Hp} {p : Addr} {vb vm : V} {sh : Shp} {bx : List (Int × Int)} {ms : List Sn} (g : Gr H H') (h : Bxm K H p vb vm sh bx ms) : Bxm K H' p vb vm sh bx ms :=
  ⟨h.shp.gr g, h.box.gr g, h.mks.gr g, h.lb, h.bd, h.lm, h.mo⟩
/-- a cell keeps to the box and the marks -/
def Keeps0 (bx : List (Int × Int)) (ms : List Sn) (ps : List Int) (us : List V) : Prop :=
  (∀ (i : Nat) (b : Int × Int) (p : Int), bx[i]? = some b → ps[i]? = some p → b.1 ≤ p ∧ p ≤ b.2) ∧ ∀ (i : Nat) (s : Sn) (u : V), ms[i]? = some s → us[i]? = some u → InS u s
def leafS (sh : Shp) (bx : List (Int × Int)) (ms : List Sn) : Ex → Sn
  | .val _ v => if v = .non then nothing else ⟨v, v, false⟩
  | .attr n => match sh.aix n with
    | some i => ms.getD i nothing
    | none => nothing
  | .dim n => match sh.dix n with
    | some i => ⟨.int (bx.getD i (0, 0)).1, .int (bx.getD i (0, 0)).2, false⟩
    | none => nothing
  | _ => nothing
section
variable {K : PySem.W.Frag} {H : Hp} {p : Addr} {vb vm : V} {sh : Shp} {bx : List (Int × Int)} {ms : List Sn}
theorem leafS_k (E0 : Bxm K H p vb vm sh bx ms) {e : Ex} {k : Kd} (hl : e.leaf = true) (h : HasK sh e k) : SpanK k (leafS sh bx ms e) := by
  cases h with
  | @val k v h =>
    show SpanK k (if v = .non then nothing else ⟨v, v, false⟩)
    by_cases e : v = .non
    · rw [if_pos e]; exact .inl rfl
    · rw [if_neg e]; exact .inr ⟨h.resolve_left e, h.resolve_left e⟩
  | @attr n i k h1 h2 =>
    obtain ⟨s, e1, e2⟩ := E0.mo i n k h2
    show SpanK k (match sh.aix n with | some i => ms.getD i nothing | none => nothing)
    rw [h1]
    show SpanK k (ms.getD i nothing)
    rw [List.getD_eq_getElem?_getD, e1]
    exact e2
  | @dim n i h1 h2 =>
    have lt : i < bx.length := by rw [E0.lb]; exact h2
    show SpanK .int (match sh.dix n with | some i => ⟨.int (bx.getD i (0, 0)).1, .int (bx.getD i (0, 0)).2, false⟩ | none => nothing)
    rw [h1]
    have e : bx.getD i (0, 0) = bx[i] := by rw [List.getD_eq_getElem?_getD, List.getElem?_eq_getElem lt]; rfl
    show SpanK .int ⟨.int (bx.getD i (0, 0)).1, .int (bx.getD i (0, 0)).2, false⟩
    rw [e]
    exact .inr (E0.bd _ (List.getElem_mem lt))
  | n1 => cases hl
  | n2 => cases hl
  | n3 => cases hl
theorem leafS_in (E0 : Bxm K H p vb vm sh bx ms) {e : Ex} {k : Kd} {ps : List Int} {us : List V} (hl : e.leaf = true) (h : HasK sh e k) (c : CellOk sh ps us) (kp : Keeps0 bx ms ps us) : InS (evE sh ps us e) (leafS sh bx ms e) := by
  cases h with
  | @val k v h =>
    show InS v (if v = .non then nothing else ⟨v, v, false⟩)
    by_cases e : v = .non
    · rw [if_pos e, e]; exact inS_nothing.mpr rfl
    · rw [if_neg e]
      have z := h.resolve_left e
      exact .inr ⟨e, e, leB_refl (z.sk z), leB_refl (z.sk z)⟩
  | @attr n i k h1 h2 =>
    obtain ⟨s, e1, e2⟩ := E0.mo i n k h2
    obtain ⟨u, f1, f2⟩ := c.ok i n k h2
    show InS (match sh.aix n with | some i => us.getD i .non | none => .non) (match sh.aix n with | some i => ms.getD i nothing | none => nothing)
    rw [h1]
    show InS (us.getD i .non) (ms.getD i nothing)
    rw [List.getD_eq_getElem?_getD, List.getD_eq_getElem?_getD, e1, f1]
    exact kp.2 i s u e1 f1
  | @dim n i h1 h2 =>
    have lt : i < bx.length := by rw [E0.lb]; exact h2
    have lt2 : i < ps.length := by rw [c.lp]; exact h2
    show InS (match sh.dix n with | some i => .int (ps.getD i 0) | none => .non) (match sh.dix n with | some i => ⟨.int (bx.getD i (0, 0)).1, .int (bx.getD i (0, 0)).2, false⟩ | none => nothing)
    rw [h1]
    have e : bx.getD i (0, 0) = bx[i] := by rw [List.getD_eq_getElem?_getD, List.getElem?_eq_getElem lt]; rfl
    have e2 : ps.getD i 0 = ps[i] := by rw [List.getD_eq_getElem?_getD, List.getElem?_eq_getElem lt2]; rfl
    show InS (.int (ps.getD i 0)) ⟨.int (bx.getD i (0, 0)).1, .int (bx.getD i (0, 0)).2, false⟩
    rw [e, e2]
    exact inS_int.mpr (kp.1 i _ _ (List.getElem?_eq_getElem lt) (List.getElem?_eq_getElem lt2))
  | n1 => cases hl
  | n2 => cases hl
  | n3 => cases hl
end
def dueS (sh : Shp) (bx : List (Int × Int)) (ms : List Sn) (e : Ex) (ss : List Sn) : Sn := if e.leaf = true then leafS sh bx ms e else spF e.wd ss
section
variable {P : Program} {w : World} {K : PySem.W.Frag} {mg : Str → Option Value} {base : Heap}
/-! _leaf -/
def spLeaf (K : PySem.W.Frag) : Sp := fun vs H Q _ => ∃ (v vb vm : V) (p : Addr) (e : Ex) (k : Kd) (sh : Shp) (bx : List (Int × Int)) (ms : List Sn), vs = [v, .ref p, vb, vm] ∧ ExAt H v e ∧ e.leaf = true ∧ HasK sh e k ∧ Bxm K H p vb vm sh bx ms ∧ OutS K H Q (leafS sh bx ms e)
theorem sc_u_leaf : FnScope ["expression", "shape", "box", "marks", "value", "missing", "least", "greatest", "low", "high"] ["expression", "shape", "box", "marks"] (defScope s_u_leaf) := ⟨rfl, rfl, rfl, by decide +kernel, rfl, by decide +kernel, by decide +kernel⟩
theorem ok_u_leaf (T : Cn w K mg base) : C8.Cal P w K mg base 3 "_leaf" (spLeaf K) [] := by
  refine T.cal (i := 22) (d := d_u_leaf) (k := 2) rfl rfl (by decide +kernel) rfl rfl sc_u_leaf (fun _ _ _ _ _ _ us hl => match us, hl with | [_, _, _, _], _ => rfl) (fun vs H Q E h => ?_) (fun cdv A outer s H vs Q E hr hcd h => ?_)
  · obtain ⟨_, _, _, _, _, _, _, _, _, rfl, _⟩ := h
    rfl
  obtain ⟨v, vb, vm, p, e, k, sh, bx, ms, rfl, he, hl, hk, E0, q⟩ := h
  have c1 := ok_attr_index (P := P) T
  have c2 := ok_dim_index (P := P) T
  refine ⟨_, (pss_cons (ps_if (pt_cmpR op_eq (pe_ix ix_tup (pv 0) pe_int (fun _ _ => rfl)) pe_str (nomark _))
  (pss_cons (ps_set (i := 4) sc_u_leaf.nd rfl (Or.inl rfl) (pe_ix ix_tup (pv 0) pe_int (fun _ _ => rfl)))
  (pss_one (ps_ret (pe_ifExp (pt_cmpR op_isN (pv 4) pe_non (nomark _)) (T.peRef "NOTHING" (by decide +kernel)) (pe_tup (pa_cons (pv 4) (pa_cons (pv 4) (pa_cons pe_bl pa_nil))))))))
  pss_nil)
  (pss_cons (ps_if (pt_cmpR op_eq (pe_ix ix_tup (pv 0) pe_int (fun _ _ => rfl)) pe_str (nomark _))
  (pss_cons (ps_asg (pe_ix ix_tup (pe_ix ix_tup (pv 3) pe_int (fun _ _ => rfl)) (C8.pe_c c1 hr (by omega) rfl (pa_cons (pv 1) (pa_cons (pe_ix ix_tup (pv 0) pe_int (fun _ _ => rfl)) pa_nil))) (fun _ _ => rfl)) (pg_tup (by rfl) (pgs_cons (pg_name (i := 5) sc_u_leaf.nd rfl (Or.inl rfl)) (pgs_cons (pg_name (i := 6) sc_u_leaf.nd rfl (Or.inl rfl)) (pgs_cons (pg_name (i := 7) sc_u_leaf.nd rfl (Or.inl rfl)) pgs_nil)))))
  (pss_one (ps_ret (pe_tup (pa_cons (pv 6) (pa_cons (pv 7) (pa_cons (pe_cmpR op_gt (pv 5) pe_int (nomark _)) pa_nil)))))))
  pss_nil)
  (pss_cons (ps_asg (pe_ix ix_tup (pv 2) (C8.pe_c c2 hr (by omega) rfl (pa_cons (pv 1) (pa_cons (pe_ix ix_tup (pv 0) pe_int (fun _ _ => rfl)) pa_nil))) (fun _ _ => rfl)) (pg_tup (by rfl) (pgs_cons (pg_name (i := 8) sc_u_leaf.nd rfl (Or.inl rfl)) (pgs_cons (pg_name (i := 9) sc_u_leaf.nd rfl (Or.inl rfl)) pgs_nil))))
  (pss_one (ps_ret (pe_tup (pa_cons (pv 8) (pa_cons (pv 9) (pa_cons pe_bl pa_nil))))))))), ?_⟩
  cases he with
  | n1 => cases hl
  | n2 => cases hl
  | n3 => cases hl
  | @val t k' v' h =>
    refine ⟨_, rfl, _, _, _, _, rfl, rfl, .inl (.inl h), at_of (j := 0) rfl rfl, rfl, _, rfl, iteD (fun _ => ?_) (fun h => absurd rfl h)⟩
    refine ⟨_, rfl, _, _, _, _, rfl, rfl, .inl (.inl h), at_of (j := 2) rfl rfl, ?_⟩
    have e1 : leafS sh bx ms (.val k' v') = if v' = .non then nothing else ⟨v', v', false⟩ := rfl
    rw [e1] at q
    refine ⟨_, rfl, rfl, _, rfl, iteD (fun h => ?_) (fun h => ?_)⟩
    · rw [if_pos h] at q
      exact OutS.no T q
    · rw [if_neg h] at q
      exact ⟨_, rfl, _, rfl, OutS.tp q rfl⟩
  | @attr t nm h =>
    cases hk with
    | @attr _ i _ h1 h2 =>
      refine ⟨_, rfl, _, _, _, _, rfl, rfl, .inl (.inl h), at_of (j := 0) rfl rfl, rfl, _, rfl, iteD (fun h => absurd h ne_av) (fun _ => ?_)⟩
      refine ⟨_, rfl, _, _, _, _, rfl, rfl, .inl (.inl h), at_of (j := 0) rfl rfl, rfl, _, rfl, iteD (fun _ => ?_) (fun h => absurd rfl h)⟩
      obtain ⟨tm, c, u, vs, rfl, m1, m2, m3⟩ := E0.mks
      obtain ⟨s, e1, e2⟩ := E0.mo i _ _ h2
      obtain ⟨y, e3, z, m, rfl, hz, hm⟩ := paired_getR m3 e1
      have e4 : leafS sh bx ms (.attr nm) = s := by
        show (match sh.aix nm with | some i => ms.getD i nothing | none => nothing) = s
        rw [h1]
        show ms.getD i nothing = s
        rw [List.getD_eq_getElem?_getD, e1]
        rfl
      rw [e4] at q
      refine ⟨_, rfl, _, _, _, _, rfl, rfl, m1, at_of (j := 1) rfl rfl, _, rfl, _, rfl, _, _, _, _, rfl, rfl, .inl (.inl h), at_of (j := 1) rfl rfl, p, sh, nm, rfl, E0.shp, ?_⟩
      rw [h1]
      refine ⟨_, _, _, _, rfl, rfl, m2, at_of (j := i) rfl e3, _, _, rfl, hz, rfl, _, _, rfl, _, _, rfl, _, _, rfl, rfl, ?_⟩
      refine ⟨_, rfl, _, rfl, _, rfl, _, _, rfl, rfl, OutS.tp q ?_⟩
      show [s.lo, s.hi, V.bl s.ms] = _
      rw [hm]
  | @dim t nm h =>
    cases hk with
    | @dim _ i h1 h2 =>
      refine ⟨_, rfl, _, _, _, _, rfl, rfl, .inl (.inl h), at_of (j := 0) rfl rfl, rfl, _, rfl, iteD (fun h => absurd h ne_dv) (fun _ => ?_)⟩
      refine ⟨_, rfl, _, _, _, _, rfl, rfl, .inl (.inl h), at_of (j := 0) rfl rfl, rfl, _, rfl, iteD (fun h => absurd h ne_da) (fun _ => ?_)⟩
      obtain ⟨tb, vs, rfl, m1, m2⟩ := E0.box
      have lt : i < bx.length := by rw [E0.lb]; exact h2
      have eb := List.getElem?_eq_getElem lt
      obtain ⟨y, e3, z, rfl, hz⟩ := paired_getR m2 eb
      have e4 : leafS sh bx ms (.dim nm) = ⟨.int bx[i].1, .int bx[i].2, false⟩ := by
        show (match sh.dix nm with | some i => (⟨.int (bx.getD i (0, 0)).1, .int (bx.getD i (0, 0)).2, false⟩ : Sn) | none => nothing) = _
        rw [h1]
        show (⟨.int (bx.getD i (0, 0)).1, .int (bx.getD i (0, 0)).2, false⟩ : Sn) = _
        rw [List.getD_eq_getElem?_getD, eb]
        rfl
      rw [e4] at q
      refine ⟨_, rfl, _, rfl, _, rfl, _, _, _, _, rfl, rfl, .inl (.inl h), at_of (j := 1) rfl rfl, p, sh, nm, rfl, E0.shp, ?_⟩
      rw [h1]
      exact ⟨_, _, _, _, rfl, rfl, m1, at_of (j := i) rfl e3, _, _, rfl, hz, rfl, _, _, rfl, _, _, rfl, rfl, _, rfl, _, rfl, OutS.tp q rfl⟩
end
end Ms
namespace Ms
open PySem PySem.Spec PyProof.Rows L2
section
variable {P : Program} {w : World} {K : PySem.W.Frag} {mg : Str → Option Value} {base : Heap}
/-- a paper whose span is s -/
def Pap0 (K : PySem.W.Frag) (H : Hp) (v : V) (s : Sn) : Prop := ∃ t st y, v = .ref t ∧ SqT K H t [.ref st, y] ∧ SqT K H st s.vs
theorem Pap0.gr {H H' : Hp} {v : V} {s : Sn} (g : Gr H H') (h : Pap0 K H v s) : Pap0 K H' v s := by
  obtain ⟨t, st, y, e, a, b⟩ := h
  exact ⟨t, st, y, e, g.tupl a, g.tupl b⟩
/-! _due_span -/
def spDue (K : PySem.W.Frag) : Sp := fun vs H Q _ => ∃ (v vb vm : V) (p t : Addr) (e : Ex) (k : Kd) (sh : Shp) (bx : List (Int × Int)) (ms : List Sn) (us : List V) (ss : List Sn) (ks : List Kd), vs = [v, .ref p, vb, vm, .ref t] ∧ ExAt H v e ∧ HasK sh e k ∧ Bxm K H p vb vm sh bx ms ∧
  SqT K H t us ∧ Paired (Pap0 K H) us ss ∧ ss.length = e.parts.length ∧ (e.leaf = false → Paired SpanK ks ss ∧ sig e.wd ks = some k) ∧ Tabs K H ∧ OutG K H Q (dueS sh bx ms e ss)
theorem node_parts {e : Ex} (h : e.leaf = false) : e.parts.length ≠ 0 := by
  cases e with
  | n1 => show (1 : Nat) ≠ 0; decide
  | n2 => show (2 : Nat) ≠ 0; decide
  | n3 => show (3 : Nat) ≠ 0; decide
  | _ => cases h
theorem sc_u_due_span : FnScope ["expression", "shape", "box", "marks", "papers", "paper"] ["expression", "shape", "box", "marks", "papers"] (defScope s_u_due_span) := ⟨rfl, rfl, rfl, by decide +kernel, rfl, by decide +kernel, by decide +kernel⟩
theorem ok_u_due_span (T : Cn w K mg base) : C8.Cal P w K mg base 6 "_due_span" (spDue K) [] := by
  refine T.cal (i := 38) (d := d_u_due_span) (k := 5) rfl rfl (by decide +kernel) rfl rfl sc_u_due_span (fun _ _ _ _ _ _ us hl => match us, hl with | [_, _, _, _, _], _ => rfl) (fun vs H Q E h => ?_) (fun cdv A outer s H vs Q E hr hcd h => ?_)
  · obtain ⟨_, _, _, _, _, _, _, _, _, _, _, _, _, rfl, _⟩ := h
    rfl
  obtain ⟨v, vb, vm, p, t, e, k, sh, bx, ms, us, ss, ks, rfl, he, hk, E0, ht, hp, hlen, hn, tb, q⟩ := h
  have c1 := ok_u_leaf (P := P) T
  have c2 := ok_span_from (P := P) T
  refine ⟨_, (pss_cons (ps_if (pt_cmpR op_eq (pe_callB call_len_seq (by rfl) (T.fre "len" (by decide +kernel)) (by decide +kernel) (pa_cons (pv 4) pa_nil)) pe_int (nomark _))
  (pss_one (ps_ret (C8.pe_c c1 hr (by omega) rfl (pa_cons (pv 0) (pa_cons (pv 1) (pa_cons (pv 2) (pa_cons (pv 3) pa_nil)))))))
  pss_nil)
  (pss_one (ps_ret (C8.pe_c c2 hr (by omega) rfl (pa_cons (pe_ix ix_tup (pv 0) pe_int (fun _ _ => rfl)) (pa_cons (pe_lc (own := [("paper", 5)]) (te := tOp (rIxT K) (tVar 5) (tC (.int 0))) (by rfl) sc_u_due_span.nd (pi_tup (pv 4)) (blkOk_by (own := [("paper", 5)]) (N := ["expression", "shape", "box", "marks", "papers", "paper"]) (sc := defScope s_u_due_span) (by decide +kernel)) (fun _ _ _ _ _ => (pg_name (i := 5) sc_u_due_span.nd rfl (Or.inl rfl))) (fun _ _ _ _ _ => pts_nil) (fun _ _ _ _ _ => (pe_ix ix_tup (pv 5) pe_int (fun _ _ => rfl)))) pa_nil)))))), ?_⟩
  have lu := Paired.len hp
  unfold dueS at q
  refine ⟨_, rfl, _, _, rfl, .inr ht, rfl, _, rfl, iteD (fun h => ?_) (fun h => ?_)⟩
  · have z := V.int.inj h
    cases hl : e.leaf with
    | false => exact absurd (by omega) (node_parts hl)
    | true =>
      rw [if_pos hl] at q
      exact ⟨_, rfl, _, rfl, _, rfl, _, rfl, v, vb, vm, p, e, k, sh, bx, ms, rfl, he, hl, hk, E0, q.s (Gk.refl H) tb⟩
  · have hl : e.leaf = false := by
      cases hl : e.leaf with
      | false => rfl
      | true =>
        rw [Ex.parts_leaf hl] at hlen
        exact absurd (show V.int ((us.length : Nat) : Int) = V.int 0 by rw [lu, hlen]; rfl) h
    rw [if_neg (by rw [hl]; exact Bool.false_ne_true)] at q
    obtain ⟨hk2, hsg⟩ := hn hl
    obtain ⟨tt, ws, rfl, htt⟩ := he.any
    rw [Ex.ws_node hl] at htt
    have l3 : ss.length ≤ 3 := by rw [hlen]; exact parts_len e
    refine ⟨_, rfl, _, _, _, _, rfl, rfl, .inl (.inl htt), at_of (j := 0) rfl rfl, ?_⟩
    refine ⟨_, rfl, t, rfl, ⟨_, ht⟩, fun D hD => ?_⟩
    refine lc_tup (K := K) (a := t) (xs := us) (fun i H' => Same H H' ∧ ∃ vs', H' D = some (.lst vs') ∧ Paired (SpanAt K H) vs' (ss.take i)) ⟨Same.new hD, [], upd_same, .nil⟩ (fun i H' hi hP => (Same.gr hP.1).tupl ht) (fun i x H' hi hP => ?_) (fun H' hP => ?_)
    · obtain ⟨g1, vs', e1, p1⟩ := hP
      obtain ⟨sn, e2, a, st, y, rfl, ha, hst⟩ := paired_get hp hi
      have lv := Paired.len p1
      rw [List.length_take] at lv
      refine ⟨rfl, _, rfl, _, _, _, _, rfl, rfl, (Same.gr g1).tupl ha, at_of (j := 0) rfl rfl, _, e1, small (by omega), Same.put g1 hD, _, upd_same, ?_⟩
      rw [List.take_add_one, e2]
      exact Paired.snoc p1 ⟨st, rfl, hst⟩
    · obtain ⟨g1, vs', e1, p1⟩ := hP
      rw [lu, List.take_length] at p1
      exact ⟨e.wd, D, vs', ss, ks, k, rfl, .inl (.inl e1), Paired.mapG (fun _ _ z => z.gr (Same.gr g1)) p1, hk2, hsg, tb.same g1, q.g (Same.gk g1)⟩
/-! paper_of, span_of -/
def OutK (K : PySem.W.Frag) (H : Hp) (Q : VK) (k : Kd) : Prop := ∀ st s H', Gk H H' → Tabs K H' → SqT K H' st (Sn.vs s) → SpanK k s → Q (.ref st) H'
def spPaper (K : PySem.W.Frag) (n : Nat) : Sp := fun vs H Q _ => ∃ (v vb vm : V) (p : Addr) (e : Ex) (k : Kd) (sh : Shp) (bx : List (Int × Int)) (ms : List Sn), vs = [v, .ref p, vb, vm] ∧ ExAt H v e ∧ e.ht < n ∧ HasK sh e k ∧ Bxm K H p vb vm sh bx ms ∧ Tabs K H ∧
  ∀ t st y s H', Gk H H' → Tabs K H' → SqT K H' t [.ref st, y] → SqT K H' st (Sn.vs s) → SpanK k s → Q (.ref t) H'
theorem Tabs.new {H : Hp} {D : Addr} {o : HO} (t : Tabs K H) (h : H D = none) : Tabs K (upd H D o) := t.same (Same.new h)
theorem Tabs.put {H : Hp} {D : Addr} {o u : HO} (t : Tabs K H) (h : H D = some u) (hu : noTbl u = true) : Tabs K (upd H D o) := fun p hp => by
  obtain ⟨ps, e, z⟩ := t p hp
  refine ⟨ps, ?_, z⟩
  rw [upd_ne (fun z => by rw [z, h] at e; cases e; cases hu)]
  exact e
theorem Gk.put {H H1 : Hp} {D : Addr} {o : HO} (s : Gk H H1) (h : H D = none) : Gk H (upd H1 D o) := fun b u e z => by
  rw [upd_ne (ne_of_none e h)]
  exact s b u e z
theorem Gr.putd {H1 : Hp} {D : Addr} {xs ys : List V} {v : V} {s : Sn} (h : H1 D = some (.lst xs)) (p : Pap0 K H1 v s) : Pap0 K (upd H1 D (.lst ys)) v s := by
  have k : ∀ {t : Addr} {zs : List V}, SqT K H1 t zs → SqT K (upd H1 D (.lst ys)) t zs := fun {t zs} q => by
    rcases q with (q | ⟨o, q⟩) | q
    · exact .inl (.inl (by rw [upd_ne (fun z => by rw [z, h] at q; cases q)]; exact q))
    · exact .inl (.inr ⟨o, by rw [upd_ne (fun z => by rw [z, h] at q; cases q)]; exact q⟩)
    · exact .inr q
  obtain ⟨t, st, y, e, a, b⟩ := p
  exact ⟨t, st, y, e, k a, k b⟩
theorem sc_paper_of : FnScope ["expression", "shape", "box", "marks", "papers", "part"] ["expression", "shape", "box", "marks"] (defScope s_paper_of) := ⟨rfl, rfl, rfl, by decide +kernel, rfl, by decide +kernel, by decide +kernel⟩
theorem ok_paper_of (T : Cn w K mg base) : ∀ n, C8.Cal P w K mg base (n + 7) "paper_of" (spPaper K n) []
  | 0 => by
    have no : ∀ vs H Q E, ¬ spPaper K 0 vs H Q E := fun vs H Q E h => by
      obtain ⟨_, _, _, _, _, _, _, _, _, _, _, h, _⟩ := h
      exact absurd h (Nat.not_lt_zero _)
    exact T.cal (i := 39) (d := d_paper_of) (k := 6) rfl rfl (by decide +kernel) rfl rfl sc_paper_of (fun _ _ _ _ _ _ us hl => match us, hl with | [_, _, _, _], _ => rfl) (fun vs H Q E h => (no _ _ _ _ h).elim) (fun cdv A outer s H vs Q E hr hcd h => (no _ _ _ _ h).elim)
  | n + 1 => by
    have c0 := ok_paper_of T n
    refine T.cal (i := 39) (d := d_paper_of) (k := (n+7)) rfl rfl (by decide +kernel) rfl rfl sc_paper_of (fun _ _ _ _ _ _ us hl => match us, hl with | [_, _, _, _], _ => rfl) (fun vs H Q E h => ?_) (fun cdv A outer s H vs Q E hr hcd h => ?_)
    · obtain ⟨_, _, _, _, _, _, _, _, _, rfl, _⟩ := h
      rfl
    obtain ⟨v, vb, vm, p, e, k, sh, bx, ms, rfl, he, hn, hk, E0, tb, q⟩ := h
    have c1 := ok_parts_of (P := P) T
    have c2 := ok_u_due_span (P := P) T
    refine ⟨_, (pss_cons (ps_set (i := 4) sc_paper_of.nd rfl (Or.inl rfl) (pe_callTy call_tuple_of (by rfl) (T.fre "tuple" (by decide +kernel)) (by decide +kernel) (pa_cons (pe_lc (own := [("part", 5)])  (by rfl) sc_paper_of.nd (pi_list (C8.pe_c c1 hr (by omega) rfl (pa_cons (pv 0) pa_nil))) (blkOk_by (own := [("part", 5)]) (N := ["expression", "shape", "box", "marks", "papers", "part"]) (sc := defScope s_paper_of) (by decide +kernel)) (fun _ _ _ _ _ => (pg_name (i := 5) sc_paper_of.nd rfl (Or.inl rfl))) (fun _ _ _ _ _ => pts_nil) (fun _ _ _ _ _ => (C8.pe_c c0 hr (by omega) rfl (pa_cons (pv 5) (pa_cons (pv 1) (pa_cons (pv 2) (pa_cons (pv 3) pa_nil))))))) pa_nil)))
  (pss_one (ps_ret (pe_tup (pa_cons (C8.pe_c c2 hr (by omega) rfl (pa_cons (pv 0) (pa_cons (pv 1) (pa_cons (pv 2) (pa_cons (pv 3) (pa_cons (pv 4) pa_nil)))))) (pa_cons (pv 4) pa_nil)))))), ?_⟩
    refine ⟨_, rfl, v, e, rfl, he, fun l us H1 s1 n1 e1 hp => ⟨l, rfl, ⟨_, .inl (.inl e1)⟩, fun D hD => ?_⟩⟩
    have he1 := he.gr (Same.gr s1)
    have E1 := E0.gr (Same.gr s1)
    have tb1 := tb.same s1
    have lw : us.length = e.parts.length := Paired.len hp
    have l3 : e.parts.length ≤ 3 := parts_len e
    have hks : ∃ ks, Paired (fun k p => HasK sh p k) ks e.parts ∧ (e.leaf = false → sig e.wd ks = some k) := by
      cases hl : e.leaf with
      | true => exact ⟨[], by rw [Ex.parts_leaf hl]; exact .nil, fun z => by cases z⟩
      | false =>
        obtain ⟨ks, a, b⟩ := hk.node hl
        exact ⟨ks, b, fun _ => a⟩
    obtain ⟨ks, hpk, hsg⟩ := hks
    have lk : ks.length = e.parts.length := Paired.len hpk
    refine lc_list (K := K) (a := l) (xs := us) (fun i H' => Gk H1 H' ∧ Tabs K H' ∧ ∃ vs' ss, H' D = some (.lst vs') ∧ Paired (Pap0 K H') vs' ss ∧ Paired SpanK (ks.take i) ss) ⟨Same.gk (Same.new hD), tb1.new hD, [], [], upd_same, .nil, .nil⟩ (fun i H' hi hP => .inl (.inl (hP.1 _ _ e1 rfl))) (fun i x H' hi hP => ?_) (fun H' hP => ?_)
    · obtain ⟨g1, tb2, vs', ss, e2, p2, p3⟩ := hP
      obtain ⟨pe, e3, e4⟩ := paired_get hp hi
      obtain ⟨kp, e5, e6⟩ := paired_getR hpk e3
      refine ⟨rfl, _, rfl, _, rfl, _, rfl, _, rfl, x, vb, vm, p, pe, kp, sh, bx, ms, rfl, e4.gr ((Same.gr s1).trans g1.gr), Nat.lt_of_lt_of_le (Ex.ht_parts (List.mem_of_getElem? e3)) (by omega), e6, E1.gr g1.gr, tb2, fun t st y sn H4 g4 tb4 ht hst hs => ?_⟩
      have e7 := g4 _ _ e2 rfl
      have lv := Paired.len p2
      have lv2 := Paired.len p3
      rw [List.length_take] at lv2
      refine ⟨_, e7, small (by omega), Gk.put (g1.trans g4) hD, tb4.put e7 rfl, _, ss ++ [sn], upd_same, ?_, ?_⟩
      · exact Paired.mapG (fun _ _ z => Gr.putd e7 z) (Paired.snoc (Paired.mapG (fun _ _ z => z.gr g4.gr) p2) ⟨t, st, y, rfl, ht, hst⟩)
      · rw [List.take_add_one, e5]
        exact Paired.snoc p3 hs
    · obtain ⟨g1, tb2, vs', ss, e2, p2, p3⟩ := hP
      rw [lw, ← lk, List.take_length] at p3
      refine ⟨D, vs', rfl, .inl ⟨.inl (.inl e2), fun tp htp => ?_⟩⟩
      have s3 := Same.new (o := HO.tup vs') htp
      have g3 := g1.trans (Same.gk s3)
      have lv2 := Paired.len p3
      refine ⟨_, rfl, _, rfl, _, rfl, _, rfl, _, rfl, v, vb, vm, p, tp, e, k, sh, bx, ms, vs', ss, ks, rfl, he1.gr g3.gr, hk, E1.gr g3.gr, .inl (.inl upd_same), Paired.mapG (fun _ _ z => z.gr (Same.gr s3)) p2, by omega, fun hl => ⟨p3, hsg hl⟩, tb2.same s3, fun st H5 g5 tb5 hst => ?_⟩
      refine ⟨_, rfl, sz2, fun t ht => ?_⟩
      have g6 := Same.new (o := HO.tup [.ref st, .ref tp]) ht
      refine q t st _ (dueS sh bx ms e ss) _ ((Same.gk s1).trans (g3.trans (g5.trans (Same.gk g6)))) (tb5.same g6) (.inl (.inl upd_same)) ((Same.gr g6).tupl hst) ?_
      unfold dueS
      cases hl : e.leaf with
      | true => rw [if_pos rfl]; exact leafS_k E0 hl hk
      | false => rw [if_neg Bool.false_ne_true]; exact spF_k (hsg hl) p3
def spSpanOf (K : PySem.W.Frag) (n : Nat) : Sp := fun vs H Q _ => ∃ (v vb vm : V) (p : Addr) (e : Ex) (k : Kd) (sh : Shp) (bx : List (Int × Int)) (ms : List Sn), vs = [v, .ref p, vb, vm] ∧ ExAt H v e ∧ e.ht < n ∧ HasK sh e k ∧ Bxm K H p vb vm sh bx ms ∧ Tabs K H ∧ OutK K H Q k
theorem sc_span_of : FnScope ["expression", "shape", "box", "marks"] ["expression", "shape", "box", "marks"] (defScope s_span_of) := ⟨rfl, rfl, rfl, by decide +kernel, rfl, by decide +kernel, by decide +kernel⟩
theorem ok_span_of (T : Cn w K mg base) (n : Nat) : C8.Cal P w K mg base (n + 8) "span_of" (spSpanOf K n) [] := by
  refine T.cal (i := 40) (d := d_span_of) (k := (n+7)) rfl rfl (by decide +kernel) rfl rfl sc_span_of (fun _ _ _ _ _ _ us hl => match us, hl with | [_, _, _, _], _ => rfl) (fun vs H Q E h => ?_) (fun cdv A outer s H vs Q E hr hcd h => ?_)
  · obtain ⟨_, _, _, _, _, _, _, _, _, rfl, _⟩ := h
    rfl
  obtain ⟨v, vb, vm, p, e, k, sh, bx, ms, rfl, he, hn, hk, E0, tb, q⟩ := h
  have c0 := ok_paper_of (P := P) T n
  refine ⟨_, (pss_one (ps_ret (pe_ix ix_tup (C8.pe_c c0 hr (by omega) rfl (pa_cons (pv 0) (pa_cons (pv 1) (pa_cons (pv 2) (pa_cons (pv 3) pa_nil))))) pe_int (fun _ _ => rfl)))), ?_⟩
  exact ⟨_, rfl, _, rfl, _, rfl, _, rfl, v, vb, vm, p, e, k, sh, bx, ms, rfl, he, hn, hk, E0, tb, fun t st y sn H' g tb' ht hst hs => ⟨_, _, _, _, rfl, rfl, ht, at_of (j := 0) rfl rfl, q st sn H' g tb' hst hs⟩⟩
/-! _is_span, _encloses, can_pass -/
def spIsSpan (K : PySem.W.Frag) : Sp := fun vs H Q _ => ∃ (k : Kd) (t : Addr) (s : Sn), vs = [.str k.s, .ref t] ∧ SqT K H t s.vs ∧ SpanK k s ∧ ∀ b, Q (.bl b) H
theorem sc_u_is_span : FnScope ["kind", "span"] ["kind", "span"] (defScope s_u_is_span) := ⟨rfl, rfl, rfl, by decide +kernel, rfl, by decide +kernel, by decide +kernel⟩
theorem ok_u_is_span (T : Cn w K mg base) : C8.Cal P w K mg base 3 "_is_span" (spIsSpan K) [] := by
  refine T.cal (i := 41) (d := d_u_is_span) (k := 2) rfl rfl (by decide +kernel) rfl rfl sc_u_is_span (fun _ _ _ _ _ _ us hl => match us, hl with | [_, _], _ => rfl) (fun vs H Q E h => ?_) (fun cdv A outer s H vs Q E hr hcd h => ?_)
  · obtain ⟨_, _, _, rfl, _⟩ := h
    rfl
  obtain ⟨k, t, sn, rfl, ht, hs, q⟩ := h
  have c1 := ok_is_value (P := P) T
  have hu : _ + 1 < cLine := hu_of hr
  refine ⟨_, (pss_cons (ps_if (PW.pt (pw_or (pt_not (pt_val (pe_callB call_isi (by rfl) (T.fre "isinstance" (by decide +kernel)) (by decide +kernel) (pa_cons (pv 1) (pa_cons (pe_bltn (v := .ty "tuple") (by rfl) (T.fre "tuple" (by decide +kernel)) (by decide +kernel) rfl) pa_nil))))) (pw_or (pt_cmpR op_ne (pe_callB call_len_seq (by rfl) (T.fre "len" (by decide +kernel)) (by decide +kernel) (pa_cons (pv 1) pa_nil)) pe_int (nomark _)) (pw_or1 (pt_not (pt_val (pe_callB call_isi (by rfl) (T.fre "isinstance" (by decide +kernel)) (by decide +kernel) (pa_cons (pe_ix ix_tup (pv 1) pe_int (fun _ _ => rfl)) (pa_cons (pe_bltn (v := .ty "bool") (by rfl) (T.fre "bool" (by decide +kernel)) (by decide +kernel) rfl) pa_nil)))))))))
  (pss_one (ps_ret pe_bl))
  pss_nil)
  (pss_cons (ps_if (PW.pt (pw_and (pt_cmpR op_isN (pe_ix ix_tup (pv 1) pe_int (fun _ _ => rfl)) pe_non (nomark _)) (pw_and1 (pt_cmpR op_isN (pe_ix ix_tup (pv 1) pe_int (fun _ _ => rfl)) pe_non (nomark _)))))
  (pss_one (ps_ret (pe_ix ix_tup (pv 1) pe_int (fun _ _ => rfl))))
  pss_nil)
  (pss_one (ps_ret (pe_and (C8.pe_c c1 hr (by omega) rfl (pa_cons (pv 0) (pa_cons (pe_ix ix_tup (pv 1) pe_int (fun _ _ => rfl)) pa_nil))) (pe_and (C8.pe_c c1 hr (by omega) rfl (pa_cons (pv 0) (pa_cons (pe_ix ix_tup (pv 1) pe_int (fun _ _ => rfl)) pa_nil))) (pe_one (pe_cmpR (op_leK hu) (pe_ix ix_tup (pv 1) pe_int (fun _ _ => rfl)) (pe_ix ix_tup (pv 1) pe_int (fun _ _ => rfl)) (nomark _))))))))), ?_⟩
  refine ⟨_, rfl, _, _, _, _, _, rfl, .ty _, tyxT ht, kit_ty (show kitB "tuple" "tuple" = some true by decide +kernel), _, rfl, ?_⟩
  refine iteF ⟨_, rfl, _, _, rfl, .inr ht, rfl, _, rfl, iteN (fun h => absurd rfl h) (fun _ => ?_)⟩
  refine ⟨_, rfl, _, _, _, _, rfl, rfl, ht, at_of (j := 2) rfl rfl, _, _, _, _, _, rfl, .ty _, .base (.bl _), kit_ty (show kitB "bool" "bool" = some true by decide +kernel), _, rfl, iteF ?_⟩
  rcases hs with hs | ⟨h1, h2⟩
  · subst hs
    refine ⟨_, rfl, _, _, _, _, rfl, rfl, ht, at_of (j := 0) rfl rfl, rfl, _, rfl, iteD (fun _ => ?_) (fun h => absurd rfl h)⟩
    refine ⟨_, rfl, _, _, _, _, rfl, rfl, ht, at_of (j := 1) rfl rfl, rfl, _, rfl, iteD (fun _ => ?_) (fun h => absurd rfl h)⟩
    exact ⟨_, rfl, _, _, _, _, rfl, rfl, ht, at_of (j := 2) rfl rfl, q _⟩
  · refine ⟨_, rfl, _, _, _, _, rfl, rfl, ht, at_of (j := 0) rfl rfl, rfl, _, rfl, iteD (fun h => absurd h h1.ne) (fun _ => iteF ?_)⟩
    refine ⟨_, rfl, _, rfl, _, _, _, _, rfl, rfl, ht, at_of (j := 0) rfl rfl, k, _, rfl, h1, _, rfl, iteT ?_⟩
    refine ⟨_, rfl, _, rfl, _, _, _, _, rfl, rfl, ht, at_of (j := 1) rfl rfl, k, _, rfl, h2, _, rfl, iteT ?_⟩
    exact ⟨_, rfl, _, _, _, _, rfl, rfl, ht, at_of (j := 0) rfl rfl, _, rfl, _, _, _, _, rfl, rfl, ht, at_of (j := 1) rfl rfl, h1.sk h2, q _⟩
def encB (o i : Sn) : Bool := if i.ms = true ∧ o.ms = false then false else if i.lo = .non then true else if o.lo = .non then false else (leB o.lo i.lo && leB i.hi o.hi)
theorem encB_in {k : Kd} {o i : Sn} {v : V} (ho : SpanK k o) (hi : SpanK k i) (hv : IsO k v) (h : encB o i = true) (z : InS v i) : InS v o := by
  unfold encB at h
  by_cases h1 : i.ms = true ∧ o.ms = false
  · rw [if_pos h1] at h; cases h
  · rw [if_neg h1] at h
    rcases z with ⟨e, z⟩ | ⟨e, e2, l1, l2⟩
    · subst e
      refine inS_non.mpr ?_
      cases hm : o.ms with
      | true => rfl
      | false => exact absurd ⟨z, hm⟩ h1
    · rw [if_neg e2] at h
      by_cases h2 : o.lo = .non
      · rw [if_pos h2] at h; cases h
      · rw [if_neg h2] at h
        obtain ⟨h3, h4⟩ := Bool.and_eq_true_iff.mp h
        obtain ⟨o1, o2⟩ := spanK_v ho h2
        obtain ⟨i1, i2⟩ := spanK_v hi e2
        have vv := hv.resolve_left e
        exact .inr ⟨e, h2, leB_trans (o1.sk i1) (i1.sk vv) h3 l1, leB_trans (vv.sk i2) (i2.sk o2) l2 h4⟩
def spEnc (K : PySem.W.Frag) : Sp := fun vs H Q _ => ∃ (k : Kd) (t u : Addr) (o i : Sn), vs = [.ref t, .ref u] ∧ SqT K H t o.vs ∧ SqT K H u i.vs ∧ SpanK k o ∧ SpanK k i ∧ Q (.bl (encB o i)) H
theorem sc_u_encloses : FnScope ["outer", "inner"] ["outer", "inner"] (defScope s_u_encloses) := ⟨rfl, rfl, rfl, by decide +kernel, rfl, by decide +kernel, by decide +kernel⟩
theorem ok_u_encloses (T : Cn w K mg base) : C8.Cal P w K mg base 1 "_encloses" (spEnc K) [] := by
  refine T.cal (i := 42) (d := d_u_encloses) (k := 0) rfl rfl (by decide +kernel) rfl rfl sc_u_encloses (fun _ _ _ _ _ _ us hl => match us, hl with | [_, _], _ => rfl) (fun vs H Q E h => ?_) (fun cdv A outer s H vs Q E hr hcd h => ?_)
  · obtain ⟨_, _, _, _, _, rfl, _⟩ := h
    rfl
  obtain ⟨k, t, u, o, i, rfl, ht, hu', ho, hi, q⟩ := h
  have hu : _ + 1 < cLine := hu_of hr
  refine ⟨_, (pss_cons (ps_if (PW.pt (pw_and (pt_val (pe_ix ix_tup (pv 1) pe_int (fun _ _ => rfl))) (pw_and1 (pt_not (pt_val (pe_ix ix_tup (pv 0) pe_int (fun _ _ => rfl)))))))
  (pss_one (ps_ret pe_bl))
  pss_nil)
  (pss_one (ps_ret (pe_or (pe_cmpR op_isN (pe_ix ix_tup (pv 1) pe_int (fun _ _ => rfl)) pe_non (nomark _)) (pe_one (pe_and (pe_cmpR op_notN (pe_ix ix_tup (pv 0) pe_int (fun _ _ => rfl)) pe_non (nomark _)) (pe_and (pe_cmpR (op_leK hu) (pe_ix ix_tup (pv 0) pe_int (fun _ _ => rfl)) (pe_ix ix_tup (pv 1) pe_int (fun _ _ => rfl)) (nomark _)) (pe_one (pe_cmpR (op_leK hu) (pe_ix ix_tup (pv 1) pe_int (fun _ _ => rfl)) (pe_ix ix_tup (pv 0) pe_int (fun _ _ => rfl)) (nomark _)))))))))), ?_⟩
  have rest : ¬ (i.ms = true ∧ o.ms = false) → encB o i = if i.lo = .non then true else if o.lo = .non then false else (leB o.lo i.lo && leB i.hi o.hi) := fun z => if_neg z
  have go : ¬ (i.ms = true ∧ o.ms = false) → tRet (tOrV (tOp (fun x y H Q => y = V.non ∧ Q (V.bl (decide (x = V.non))) H) (tOp (rIxT K) (tVar 1) (tC (V.int 0))) (tC V.non)) (tAndV (tOp (fun x y H Q => y = V.non ∧ Q (V.bl !decide (x = V.non)) H) (tOp (rIxT K) (tVar 0) (tC (V.int 0))) (tC V.non)) (tAndV (tOp (rK leB) (tOp (rIxT K) (tVar 0) (tC (V.int 0))) (tOp (rIxT K) (tVar 1) (tC (V.int 0)))) (tOp (rK leB) (tOp (rIxT K) (tVar 1) (tC (V.int 1))) (tOp (rIxT K) (tVar 0) (tC (V.int 1)))))))
      { nx := fun x H' => Q V.non H', rt := Q } (L2.start ["outer", "inner"] [V.ref t, V.ref u]) H := fun z => by
    rw [rest z] at q
    refine ⟨_, rfl, _, _, _, _, rfl, rfl, hu', at_of (j := 0) rfl rfl, rfl, _, rfl, ?_⟩
    by_cases h1 : i.lo = .non
    · rw [if_pos h1] at q
      show if decide (i.lo = .non) = true then Q (V.bl true) H else _
      rw [decide_eq_true h1]
      exact iteT q
    rw [if_neg h1] at q
    show if decide (i.lo = .non) = true then _ else _
    rw [decide_eq_false h1]
    refine iteF ⟨_, rfl, _, _, _, _, rfl, rfl, ht, at_of (j := 0) rfl rfl, rfl, _, rfl, ?_⟩
    by_cases h2 : o.lo = .non
    · rw [if_pos h2] at q
      show if (!decide (o.lo = .non)) = true then _ else Q (V.bl false) H
      rw [decide_eq_true h2]
      exact iteF q
    rw [if_neg h2] at q
    show if (!decide (o.lo = .non)) = true then _ else _
    rw [decide_eq_false h2]
    obtain ⟨o1, o2⟩ := spanK_v ho h2
    obtain ⟨i1, i2⟩ := spanK_v hi h1
    refine iteT ⟨_, rfl, _, _, _, _, rfl, rfl, ht, at_of (j := 0) rfl rfl, _, rfl, _, _, _, _, rfl, rfl, hu', at_of (j := 0) rfl rfl, o1.sk i1, _, rfl, iteB (fun h => ?_) (fun h => ?_)⟩
    · rw [h] at q
      exact ⟨_, rfl, _, _, _, _, rfl, rfl, hu', at_of (j := 1) rfl rfl, _, rfl, _, _, _, _, rfl, rfl, ht, at_of (j := 1) rfl rfl, i2.sk o2, q⟩
    · rw [h] at q
      exact q
  refine ⟨_, rfl, _, _, _, _, rfl, rfl, hu', at_of (j := 2) rfl rfl, _, rfl, iteB (fun h => ?_) (fun h => ?_)⟩
  · refine ⟨_, rfl, _, _, _, _, rfl, rfl, ht, at_of (j := 2) rfl rfl, _, rfl, iteC (fun h2 => ?_) (fun h2 => ?_)⟩
    · exact go fun z => by rw [h2] at z; cases z.2
    · rw [show encB o i = false from if_pos ⟨h, h2⟩] at q
      exact q
  · exact go fun z => by rw [h] at z; cases z.1
def spCanP (K : PySem.W.Frag) : Sp := fun vs H Q _ => ∃ (t : Addr) (s : Sn), vs = [.ref t] ∧ Pap0 K H (.ref t) s ∧ SpanK .flag s ∧ Q (.bl (!alwB s (.bl true))) H
theorem sc_can_pass : FnScope ["paper"] ["paper"] (defScope s_can_pass) := ⟨rfl, rfl, rfl, by decide +kernel, rfl, by decide +kernel, by decide +kernel⟩
theorem ok_can_pass (T : Cn w K mg base) : C8.Cal P w K mg base 2 "can_pass" (spCanP K) [] := by
  refine T.cal (i := 44) (d := d_can_pass) (k := 1) rfl rfl (by decide +kernel) rfl rfl sc_can_pass (fun _ _ _ _ _ _ us hl => match us, hl with | [_], _ => rfl) (fun vs H Q E h => ?_) (fun cdv A outer s H vs Q E hr hcd h => ?_)
  · obtain ⟨_, _, rfl, _⟩ := h
    rfl
  obtain ⟨t, sn, rfl, ⟨t', st, y, e, ht, hst⟩, hs, q⟩ := h
  cases e
  have c1 := ok_allows (P := P) T
  refine ⟨_, (pss_one (ps_ret (pe_not (C8.pe_c c1 hr (by omega) rfl (pa_cons (pe_ix ix_tup (pv 0) pe_int (fun _ _ => rfl)) (pa_cons pe_bl pa_nil)))))), ?_⟩
  exact ⟨_, rfl, _, _, _, _, rfl, rfl, ht, at_of (j := 0) rfl rfl, st, sn, .bl true, .flag, rfl, hst, hs, .inr trivial, _, rfl, q⟩
end
end Ms
namespace Ms
open PySem PySem.Spec PyProof.Rows L2
/-! papers -/
inductive Pp where
  | l (s : Sn)
  | n1 (s : Sn) (a : Pp)
  | n2 (s : Sn) (a b : Pp)
  | n3 (s : Sn) (a b c : Pp)
def Pp.s : Pp → Sn
  | .l s => s
  | .n1 s _ => s
  | .n2 s _ _ => s
  | .n3 s _ _ _ => s
def Pp.parts : Pp → List Pp
  | .l _ => []
  | .n1 _ a => [a]
  | .n2 _ a b => [a, b]
  | .n3 _ a b c => [a, b, c]
inductive PapAt (K : PySem.W.Frag) (H : Hp) : V → Pp → Prop
  | l {t st pt : Addr} {s : Sn} : SqT K H t [.ref st, .ref pt] → SqT K H st s.vs → SqT K H pt [] → PapAt K H (.ref t) (.l s)
  | n1 {t st pt : Addr} {s : Sn} {u : V} {a : Pp} : SqT K H t [.ref st, .ref pt] → SqT K H st s.vs → SqT K H pt [u] → PapAt K H u a → PapAt K H (.ref t) (.n1 s a)
  | n2 {t st pt : Addr} {s : Sn} {u v : V} {a b : Pp} : SqT K H t [.ref st, .ref pt] → SqT K H st s.vs → SqT K H pt [u, v] → PapAt K H u a → PapAt K H v b → PapAt K H (.ref t) (.n2 s a b)
  | n3 {t st pt : Addr} {s : Sn} {u v z : V} {a b c : Pp} : SqT K H t [.ref st, .ref pt] → SqT K H st s.vs → SqT K H pt [u, v, z] → PapAt K H u a → PapAt K H v b → PapAt K H z c → PapAt K H (.ref t) (.n3 s a b c)
theorem PapAt.gr {K : PySem.W.Frag} {H H' : Hp} {v : V} {p : Pp} (g : Gr H H') (h : PapAt K H v p) : PapAt K H' v p := by
  induction h with
  | l a b c => exact .l (g.tupl a) (g.tupl b) (g.tupl c)
  | n1 a b c _ i1 => exact .n1 (g.tupl a) (g.tupl b) (g.tupl c) i1
  | n2 a b c _ _ i1 i2 => exact .n2 (g.tupl a) (g.tupl b) (g.tupl c) i1 i2
  | n3 a b c _ _ _ i1 i2 i3 => exact .n3 (g.tupl a) (g.tupl b) (g.tupl c) i1 i2 i3
theorem PapAt.any {K : PySem.W.Frag} {H : Hp} {v : V} {p : Pp} (h : PapAt K H v p) : ∃ t st pt us, v = .ref t ∧ SqT K H t [.ref st, .ref pt] ∧ SqT K H st p.s.vs ∧ SqT K H pt us ∧ Paired (PapAt K H) us p.parts := by
  cases h with
  | l a b c => exact ⟨_, _, _, _, rfl, a, b, c, .nil⟩
  | n1 a b c x => exact ⟨_, _, _, _, rfl, a, b, c, .cons x .nil⟩
  | n2 a b c x y => exact ⟨_, _, _, _, rfl, a, b, c, .cons x (.cons y .nil)⟩
  | n3 a b c x y z => exact ⟨_, _, _, _, rfl, a, b, c, .cons x (.cons y (.cons z .nil))⟩
theorem PapAt.pap0 {K : PySem.W.Frag} {H : Hp} {v : V} {p : Pp} (h : PapAt K H v p) : Pap0 K H v p.s := by
  obtain ⟨t, st, pt, us, e, a, b, _⟩ := h.any
  exact ⟨t, st, _, e, a, b⟩
inductive FitP (sh : Shp) : Ex → Kd → Pp → Prop
  | l {e : Ex} {k : Kd} {s : Sn} : e.leaf = true → HasK sh e k → SpanK k s → FitP sh e k (.l s)
  | n1 {w : Wd} {a : Ex} {ka k : Kd} {s : Sn} {p : Pp} : FitP sh a ka p → sig w [ka] = some k → SpanK k s → FitP sh (.n1 w a) k (.n1 s p)
  | n2 {w : Wd} {a b : Ex} {ka kb k : Kd} {s : Sn} {p q : Pp} : FitP sh a ka p → FitP sh b kb q → sig w [ka, kb] = some k → SpanK k s → FitP sh (.n2 w a b) k (.n2 s p q)
  | n3 {w : Wd} {a b c : Ex} {ka kb kc k : Kd} {s : Sn} {p q r : Pp} : FitP sh a ka p → FitP sh b kb q → FitP sh c kc r → sig w [ka, kb, kc] = some k → SpanK k s → FitP sh (.n3 w a b c) k (.n3 s p q r)
theorem FitP.has {sh : Shp} {e : Ex} {k : Kd} {p : Pp} (h : FitP sh e k p) : HasK sh e k := by
  induction h with
  | l _ h _ => exact h
  | n1 _ g _ i => exact .n1 i g
  | n2 _ _ g _ i j => exact .n2 i j g
  | n3 _ _ _ g _ i j l => exact .n3 i j l g
theorem FitP.sp {sh : Shp} {e : Ex} {k : Kd} {p : Pp} (h : FitP sh e k p) : SpanK k p.s := by
  cases h with
  | l _ _ h => exact h
  | n1 _ _ h => exact h
  | n2 _ _ _ h => exact h
  | n3 _ _ _ _ h => exact h
/-- parts side by side: expressions, kinds, papers -/
inductive Trip (sh : Shp) : List Ex → List Kd → List Pp → Prop
  | nil : Trip sh [] [] []
  | cons {e : Ex} {k : Kd} {p : Pp} {es : List Ex} {ks : List Kd} {ps : List Pp} : FitP sh e k p → Trip sh es ks ps → Trip sh (e :: es) (k :: ks) (p :: ps)
theorem FitP.trip {sh : Shp} {e : Ex} {k : Kd} {p : Pp} (h : FitP sh e k p) : ∃ ks, Trip sh e.parts ks p.parts ∧ (e.leaf = false → sig e.wd ks = some k) := by
  cases h with
  | l hl _ _ => exact ⟨[], by rw [Ex.parts_leaf hl]; exact .nil, fun z => by rw [hl] at z; cases z⟩
  | n1 a g _ => exact ⟨_, .cons a .nil, fun _ => g⟩
  | n2 a b g _ => exact ⟨_, .cons a (.cons b .nil), fun _ => g⟩
  | n3 a b c g _ => exact ⟨_, .cons a (.cons b (.cons c .nil)), fun _ => g⟩
theorem Trip.len {sh : Shp} : ∀ {es : List Ex} {ks : List Kd} {ps : List Pp}, Trip sh es ks ps → es.length = ks.length ∧ es.length = ps.length
  | _, _, _, .nil => ⟨rfl, rfl⟩
  | _, _, _, .cons _ t => ⟨congrArg (· + 1) t.len.1, congrArg (· + 1) t.len.2⟩
theorem Trip.at {sh : Shp} : ∀ {es : List Ex} {ks : List Kd} {ps : List Pp} {i : Nat} {e : Ex}, Trip sh es ks ps → es[i]? = some e → ∃ k p, ks[i]? = some k ∧ ps[i]? = some p ∧ FitP sh e k p
  | _, _, _, 0, _, .cons h _, q => by cases q; exact ⟨_, _, rfl, rfl, h⟩
  | _, _, _, i + 1, _, .cons _ t, q => Trip.at (i := i) t q
theorem Trip.sps {sh : Shp} : ∀ {es : List Ex} {ks : List Kd} {ps : List Pp}, Trip sh es ks ps → Paired SpanK ks (ps.map Pp.s)
  | _, _, _, .nil => .nil
  | _, _, _, .cons h t => .cons h.sp t.sps
/-- every value lies in its span -/
def Lies (sh : Shp) (ps : List Int) (us : List V) : Ex → Pp → Prop
  | .n1 w a, .n1 s p => InS (evE sh ps us (.n1 w a)) s ∧ Lies sh ps us a p
  | .n2 w a b, .n2 s p q => InS (evE sh ps us (.n2 w a b)) s ∧ Lies sh ps us a p ∧ Lies sh ps us b q
  | .n3 w a b c, .n3 s p q r => InS (evE sh ps us (.n3 w a b c)) s ∧ Lies sh ps us a p ∧ Lies sh ps us b q ∧ Lies sh ps us c r
  | e, p => InS (evE sh ps us e) p.s
theorem lies_top {sh : Shp} {ps : List Int} {us : List V} {e : Ex} {k : Kd} {p : Pp} (f : FitP sh e k p) (h : Lies sh ps us e p) : InS (evE sh ps us e) p.s := by
  cases f with
  | l hl _ _ =>
    cases e <;> first
      | exact h
      | cases hl
  | n1 => exact h.1
  | n2 => exact h.1
  | n3 => exact h.1
theorem lies_at {sh : Shp} {ps : List Int} {us : List V} {e : Ex} {k : Kd} {p : Pp} (f : FitP sh e k p) (h : Lies sh ps us e p) : ∀ {i : Nat} {a : Ex} {q : Pp}, e.parts[i]? = some a → p.parts[i]? = some q → Lies sh ps us a q := by
  intro i a q h1 h2
  cases f with
  | l hl _ _ => rw [Ex.parts_leaf hl] at h1; cases h1
  | n1 =>
    match i, h1, h2 with
    | 0, h1, h2 => cases h1; cases h2; exact h.2
  | n2 =>
    match i, h1, h2 with
    | 0, h1, h2 => cases h1; cases h2; exact h.2.1
    | 1, h1, h2 => cases h1; cases h2; exact h.2.2
  | n3 =>
    match i, h1, h2 with
    | 0, h1, h2 => cases h1; cases h2; exact h.2.1
    | 1, h1, h2 => cases h1; cases h2; exact h.2.2.1
    | 2, h1, h2 => cases h1; cases h2; exact h.2.2.2
theorem lies_mk {sh : Shp} {ps : List Int} {us : List V} {e : Ex} {k : Kd} {p : Pp} (f : FitP sh e k p) (h : InS (evE sh ps us e) p.s) (hp : ∀ {i : Nat} {a : Ex} {q : Pp}, e.parts[i]? = some a → p.parts[i]? = some q → Lies sh ps us a q) : Lies sh ps us e p := by
  cases f with
  | l hl _ _ =>
    cases e <;> first
      | exact h
      | cases hl
  | n1 => exact ⟨h, hp (i := 0) rfl rfl⟩
  | n2 => exact ⟨h, hp (i := 0) rfl rfl, hp (i := 1) rfl rfl⟩
  | n3 => exact ⟨h, hp (i := 0) rfl rfl, hp (i := 1) rfl rfl, hp (i := 2) rfl rfl⟩
/-- for all cells that keep to the box and the marks -/
def SoundP (sh : Shp) (bx : List (Int × Int)) (ms : List Sn) (e : Ex) (p : Pp) : Prop := ∀ ps us, CellOk sh ps us → Keeps0 bx ms ps us → Lies sh ps us e p
theorem trip_in {sh : Shp} {ps : List Int} {us : List V} : ∀ {es : List Ex} {ks : List Kd} {qs : List Pp}, Trip sh es ks qs → (∀ {i : Nat} {a : Ex} {q : Pp}, es[i]? = some a → qs[i]? = some q → Lies sh ps us a q) → Paired InS (es.map (evE sh ps us)) (qs.map Pp.s)
  | _, _, _, .nil, _ => .nil
  | _, _, _, .cons f t, h => .cons (lies_top f (h (i := 0) rfl rfl)) (trip_in t fun {i a q} h1 h2 => h (i := i + 1) h1 h2)
theorem trip_o {sh : Shp} {ps : List Int} {us : List V} (c : CellOk sh ps us) : ∀ {es : List Ex} {ks : List Kd} {qs : List Pp}, Trip sh es ks qs → Paired IsO ks (es.map (evE sh ps us))
  | _, _, _, .nil => .nil
  | _, _, _, .cons f t => .cons (evE_isO c f.has) (trip_o c t)
theorem due_k {K : PySem.W.Frag} {H : Hp} {p : Addr} {vb vm : V} {sh : Shp} {bx : List (Int × Int)} {ms : List Sn} (E0 : Bxm K H p vb vm sh bx ms) {e : Ex} {k : Kd} {pp : Pp} (f : FitP sh e k pp) : SpanK k (dueS sh bx ms e (pp.parts.map Pp.s)) := by
  obtain ⟨ks, t, hs⟩ := f.trip
  unfold dueS
  cases hl : e.leaf with
  | true => rw [if_pos rfl]; exact leafS_k E0 hl f.has
  | false => rw [if_neg Bool.false_ne_true]; exact spF_k (hs hl) t.sps
theorem sound_mk {K : PySem.W.Frag} {H : Hp} {p : Addr} {vb vm : V} {sh : Shp} {bx : List (Int × Int)} {ms : List Sn} (E0 : Bxm K H p vb vm sh bx ms) {e : Ex} {k : Kd} {pp : Pp} (f : FitP sh e k pp)
    (he : encB pp.s (dueS sh bx ms e (pp.parts.map Pp.s)) = true) (hp : ∀ {i : Nat} {a : Ex} {q : Pp}, e.parts[i]? = some a → pp.parts[i]? = some q → SoundP sh bx ms a q) : SoundP sh bx ms e pp := by
  intro ps us c kp
  obtain ⟨ks, t, hs⟩ := f.trip
  have hd := due_k E0 f
  refine lies_mk f (encB_in f.sp hd (evE_isO c f.has) he ?_) fun h1 h2 => hp h1 h2 ps us c kp
  unfold dueS
  cases hl : e.leaf with
  | true => rw [if_pos rfl]; exact leafS_in E0 hl f.has c kp
  | false =>
    rw [if_neg Bool.false_ne_true, evE_node hl]
    exact spF_in (hs hl) t.sps (trip_o c t) (trip_in t fun h1 h2 => hp h1 h2 ps us c kp)
section
variable {P : Program} {w : World} {K : PySem.W.Frag} {mg : Str → Option Value} {base : Heap}
/-! shows -/
def spShows (K : PySem.W.Frag) (n : Nat) : Sp := fun vs H Q _ => ∃ (v vb vm vp : V) (p : Addr) (e : Ex) (k : Kd) (sh : Shp) (bx : List (Int × Int)) (ms : List Sn) (pp : Pp), vs = [v, .ref p, vb, vm, vp] ∧ ExAt H v e ∧ e.ht < n ∧ FitP sh e k pp ∧ PapAt K H vp pp ∧ Bxm K H p vb vm sh bx ms ∧ Tabs K H ∧
  ∀ b H', Gk H H' → Tabs K H' → (b = true → SoundP sh bx ms e pp) → Q (.bl b) H'
theorem sc_shows : FnScope ["expression", "shape", "box", "marks", "paper", "parts", "k"] ["expression", "shape", "box", "marks", "paper"] (defScope s_shows) := ⟨rfl, rfl, rfl, by decide +kernel, rfl, by decide +kernel, by decide +kernel⟩
theorem ok_shows (T : Cn w K mg base) : ∀ n, C8.Cal P w K mg base (n + 7) "shows" (spShows K n) []
  | 0 => by
    have no : ∀ vs H Q E, ¬ spShows K 0 vs H Q E := fun vs H Q E h => by
      obtain ⟨_, _, _, _, _, _, _, _, _, _, _, _, _, h, _⟩ := h
      exact absurd h (Nat.not_lt_zero _)
    exact T.cal (i := 43) (d := d_shows) (k := 6) rfl rfl (by decide +kernel) rfl rfl sc_shows (fun _ _ _ _ _ _ us hl => match us, hl with | [_, _, _, _, _], _ => rfl) (fun vs H Q E h => (no _ _ _ _ h).elim) (fun cdv A outer s H vs Q E hr hcd h => (no _ _ _ _ h).elim)
  | n + 1 => by
    have c0 := ok_shows T n
    refine T.cal (i := 43) (d := d_shows) (k := (n+7)) rfl rfl (by decide +kernel) rfl rfl sc_shows (fun _ _ _ _ _ _ us hl => match us, hl with | [_, _, _, _, _], _ => rfl) (fun vs H Q E h => ?_) (fun cdv A outer s H vs Q E hr hcd h => ?_)
    · obtain ⟨_, _, _, _, _, _, _, _, _, _, _, rfl, _⟩ := h
      rfl
    obtain ⟨v, vb, vm, vp, p, e, k, sh, bx, ms, pp, rfl, he, hn, f, hp, E0, tb, q⟩ := h
    have c1 := ok_parts_of (P := P) T
    have c2 := ok_kind_of (P := P) T (n + 1)
    have c3 := ok_u_is_span (P := P) T
    have c4 := ok_u_encloses (P := P) T
    have c5 := ok_u_due_span (P := P) T
    refine ⟨_, (pss_cons (ps_if (PW.pt (pw_or (pt_not (pt_val (pe_callB call_isi (by rfl) (T.fre "isinstance" (by decide +kernel)) (by decide +kernel) (pa_cons (pv 4) (pa_cons (pe_bltn (v := .ty "tuple") (by rfl) (T.fre "tuple" (by decide +kernel)) (by decide +kernel) rfl) pa_nil))))) (pw_or (pt_cmpR op_ne (pe_callB call_len_seq (by rfl) (T.fre "len" (by decide +kernel)) (by decide +kernel) (pa_cons (pv 4) pa_nil)) pe_int (nomark _)) (pw_or1 (pt_not (pt_val (pe_callB call_isi (by rfl) (T.fre "isinstance" (by decide +kernel)) (by decide +kernel) (pa_cons (pe_ix ix_tup (pv 4) pe_int (fun _ _ => rfl)) (pa_cons (pe_bltn (v := .ty "tuple") (by rfl) (T.fre "tuple" (by decide +kernel)) (by decide +kernel) rfl) pa_nil)))))))))
  (pss_one (ps_ret pe_bl))
  pss_nil)
  (pss_cons (ps_set (i := 5) sc_shows.nd rfl (Or.inl rfl) (C8.pe_c c1 hr (by omega) rfl (pa_cons (pv 0) pa_nil)))
  (pss_cons (ps_if (PW.pt (pw_or (pt_not (pt_val (C8.pe_c c3 hr (by omega) rfl (pa_cons (C8.pe_c c2 hr (by omega) rfl (pa_cons (pv 0) (pa_cons (pv 1) pa_nil))) (pa_cons (pe_ix ix_tup (pv 4) pe_int (fun _ _ => rfl)) pa_nil))))) (pw_or1 (pt_cmpR op_ne (pe_callB call_len_seq (by rfl) (T.fre "len" (by decide +kernel)) (by decide +kernel) (pa_cons (pe_ix ix_tup (pv 4) pe_int (fun _ _ => rfl)) pa_nil)) (pe_callB call_len_seq (by rfl) (T.fre "len" (by decide +kernel)) (by decide +kernel) (pa_cons (pv 5) pa_nil)) (nomark _)))))
  (pss_one (ps_ret pe_bl))
  pss_nil)
  (pss_cons (ps_for PassesOwn.never rfl (pi_range1 (by rfl) (T.fre "range" (by decide +kernel)) (pa_cons (pe_callB call_len_seq (by rfl) (T.fre "len" (by decide +kernel)) (by decide +kernel) (pa_cons (pv 5) pa_nil)) pa_nil)) (pg_name (i := 6) sc_shows.nd rfl (Or.inl rfl))
  (pss_one (ps_if (pt_not (pt_val (C8.pe_c c0 hr (by omega) rfl (pa_cons (pe_ix ix_list (pv 5) (pv 6) (fun _ _ => rfl)) (pa_cons (pv 1) (pa_cons (pv 2) (pa_cons (pv 3) (pa_cons (pe_ix ix_tup (pe_ix ix_tup (pv 4) pe_int (fun _ _ => rfl)) (pv 6) (fun _ _ => rfl)) pa_nil))))))))
  (pss_one (ps_ret pe_bl))
  pss_nil)))
  (pss_one (ps_ret (C8.pe_c c4 hr (by omega) rfl (pa_cons (pe_ix ix_tup (pv 4) pe_int (fun _ _ => rfl)) (pa_cons (C8.pe_c c5 hr (by omega) rfl (pa_cons (pv 0) (pa_cons (pv 1) (pa_cons (pv 2) (pa_cons (pv 3) (pa_cons (pe_ix ix_tup (pv 4) pe_int (fun _ _ => rfl)) pa_nil)))))) pa_nil))))))))), ?_⟩
    obtain ⟨t, st, pt, us, rfl, ht, hst, hpt, hpp⟩ := hp.any
    refine ⟨_, rfl, _, _, _, _, _, rfl, .ty _, tyxT ht, kit_ty (show kitB "tuple" "tuple" = some true by decide +kernel), _, rfl, ?_⟩
    refine iteF ⟨_, rfl, _, _, rfl, .inr ht, rfl, _, rfl, iteN (fun h => absurd rfl h) (fun _ => ?_)⟩
    refine ⟨_, rfl, _, _, _, _, rfl, rfl, ht, at_of (j := 1) rfl rfl, _, _, _, _, _, rfl, .ty _, tyxT hpt, kit_ty (show kitB "tuple" "tuple" = some true by decide +kernel), _, rfl, iteF ?_⟩
    refine ⟨_, rfl, v, e, rfl, he, fun l ws H1 s1 n1 e1 hw => ?_⟩
    have ko := f.has
    refine ⟨_, rfl, _, rfl, p, v, e, k, sh, rfl, he.gr (Same.gr s1), hn, E0.shp.gr (Same.gr s1), ko, tb.same s1, fun H2 g2 tb2 => ?_⟩
    have g02 : Gk H H2 := (Same.gk s1).trans g2
    have tz : ∀ {H' : Hp} {a : Addr} {xs : List V}, Gk H H' → SqT K H a xs → SqT K H' a xs := fun g h => g.gr.tupl h
    have l2 : H2 l = some (.lst ws) := g2 _ _ e1 rfl
    refine ⟨_, rfl, _, _, _, _, rfl, rfl, tz g02 ht, at_of (j := 0) rfl rfl, k, st, pp.s, rfl, tz g02 hst, f.sp, fun b => ?_⟩
    obtain ⟨ks, tr, hsg⟩ := f.trip
    have lw := Paired.len hw
    have lp := Paired.len hpp
    have lt := tr.len
    cases b with
    | false => exact ⟨_, rfl, iteT (q false H2 g02 tb2 fun z => by cases z)⟩
    | true =>
      refine ⟨_, rfl, iteF ⟨_, rfl, _, _, _, _, rfl, rfl, tz g02 ht, at_of (j := 1) rfl rfl, _, _, rfl, .inr (tz g02 hpt), _, rfl, _, _, rfl, .inl (.inl (.inl l2)), rfl, _, rfl, iteN (fun h => absurd (show V.int ((us.length : Nat) : Int) = V.int ((ws.length : Nat) : Int) by rw [lp, lw, lt.2]) h) (fun _ => ?_)⟩⟩
      have l3 : e.parts.length ≤ 3 := parts_len e
      refine ⟨_, rfl, _, _, rfl, .inl (.inl (.inl l2)), _, rfl, by omega, by omega, ?_⟩
      refine for_range (lo := 0) (n := ((ws.length : Nat) : Int).toNat) (fun i σ H' => (∃ o, σ = [some v, some (.ref p), some vb, some vm, some (.ref t), some (.ref l), o]) ∧ Gk H H' ∧ Tabs K H' ∧ H' l = some (.lst ws) ∧ ∀ j, j < i → ∀ a q, e.parts[j]? = some a → pp.parts[j]? = some q → SoundP sh bx ms a q) ?_ (fun i σ H3 hi hP => ?_) (fun σ H3 hP => ?_)
      · exact ⟨⟨_, rfl⟩, g02, tb2, l2, fun j hj => absurd hj (Nat.not_lt_zero j)⟩
      · obtain ⟨⟨o, rfl⟩, g3, tb3, l3', hj⟩ := hP
        rw [Int.toNat_natCast] at hi
        obtain ⟨a, ea, xa⟩ := paired_get hw (List.getElem?_eq_getElem hi)
        obtain ⟨ka, q1, ek, eq1, fa⟩ := tr.at ea
        obtain ⟨u, eu, pu⟩ := paired_getR hpp eq1
        refine ⟨_, rfl, _, rfl, _, _, _, _, rfl, rfl, .inl (.inl l3'), at_of (j := i) (by omega) (List.getElem?_eq_getElem hi), _, rfl, _, rfl, _, rfl, _, rfl, _, _, _, _, rfl, rfl, tz g3 ht, at_of (j := 1) rfl rfl, _, rfl, _, _, _, _, rfl, rfl, tz g3 hpt, at_of (j := i) (by omega) eu, ?_⟩
        refine ⟨_, vb, vm, u, p, a, ka, sh, bx, ms, q1, rfl, xa.gr g3.gr, Nat.lt_of_lt_of_le (Ex.ht_parts (List.mem_of_getElem? ea)) (by omega), fa, pu.gr g3.gr, E0.gr g3.gr, tb3, fun b H4 g4 tb4 hb => ?_⟩
        cases b with
        | false => exact ⟨_, rfl, iteT (q false H4 (g3.trans g4) tb4 fun z => by cases z)⟩
        | true =>
          refine ⟨_, rfl, iteF ⟨⟨_, rfl⟩, g3.trans g4, tb4, g4 _ _ l3' rfl, fun j hji a' q' ha' hq' => ?_⟩⟩
          by_cases e' : j = i
          · subst e'
            rw [ea] at ha'
            rw [eq1] at hq'
            cases ha'
            cases hq'
            exact hb rfl
          · exact hj j (by omega) a' q' ha' hq'
      · obtain ⟨⟨o, rfl⟩, g3, tb3, l3', hj⟩ := hP
        rw [Int.toNat_natCast] at hj
        have hpp0 : Paired (Pap0 K H3) us (pp.parts.map Pp.s) := Paired.mapR (F := PapAt K H) Pp.s (fun x y z => (z.gr g3.gr).pap0) hpp
        refine ⟨_, rfl, _, _, _, _, rfl, rfl, tz g3 ht, at_of (j := 0) rfl rfl, _, rfl, _, rfl, _, rfl, _, rfl, _, rfl, _, _, _, _, rfl, rfl, tz g3 ht, at_of (j := 1) rfl rfl, ?_⟩
        refine ⟨v, vb, vm, p, pt, e, k, sh, bx, ms, us, pp.parts.map Pp.s, ks, rfl, he.gr g3.gr, ko, E0.gr g3.gr, tz g3 hpt, hpp0, by rw [List.length_map, lt.2], fun hl => ⟨tr.sps, hsg hl⟩, tb3, fun d H4 g4 tb4 hd => ?_⟩
        refine ⟨k, st, d, pp.s, dueS sh bx ms e (pp.parts.map Pp.s), rfl, tz (g3.trans g4) hst, hd, f.sp, due_k E0 f, ?_⟩
        refine q _ H4 (g3.trans g4) tb4 fun hb => sound_mk E0 f hb fun {i a q} h1 h2 => ?_
        have hi : i < e.parts.length := (List.getElem?_eq_some_iff.mp h1).1
        exact hj i (by omega) a q h1 h2
end
end Ms
namespace Ms
open PySem PySem.Spec PyProof.Rows L2
/-! tuples and instances kept -/
def stS : HO → Bool
  | .tup _ => true
  | .frz _ (.tup _) => true
  | .ins _ _ _ => true
  | _ => false
def Gs (H H' : Hp) : Prop := ∀ b o, H b = some o → stS o = true → H' b = some o
theorem Gs.refl (H : Hp) : Gs H H := fun _ _ h _ => h
theorem Gs.trans {H H1 H2 : Hp} (a : Gs H H1) (b : Gs H1 H2) : Gs H H2 := fun c o h z => b c o (a c o h z) z
theorem Gr.gs {H H' : Hp} (a : Gr H H') : Gs H H' := fun c o h z => a c o h (by cases o <;> first | rfl | cases z)
theorem Same.gs {H H' : Hp} (a : Same H H') : Gs H H' := fun c o h _ => a c o h
theorem Gs.put {H : Hp} {D : Addr} {u o : HO} (h : H D = some u) (hu : stS u = false) : Gs H (upd H D o) := fun b q e z => by
  rw [upd_ne (fun y => by rw [y, h] at e; cases e; rw [hu] at z; cases z)]
  exact e
section
variable {K : PySem.W.Frag} {H H' : Hp} {v : V}
theorem Gs.tupl {a : Addr} {xs : List V} (g : Gs H H') (h : SqT K H a xs) : SqT K H' a xs := by
  rcases h with (h | ⟨o, h⟩) | h
  · exact .inl (.inl (g _ _ h rfl))
  · exact .inl (.inr ⟨o, g _ _ h rfl⟩)
  · exact .inr h
theorem Gs.ex {e : Ex} (g : Gs H H') (h : ExAt H v e) : ExAt H' v e := by
  induction h with
  | val h => exact .val (g _ _ h rfl)
  | attr h => exact .attr (g _ _ h rfl)
  | dim h => exact .dim (g _ _ h rfl)
  | n1 h _ ih => exact .n1 (g _ _ h rfl) ih
  | n2 h _ _ i1 i2 => exact .n2 (g _ _ h rfl) i1 i2
  | n3 h _ _ _ i1 i2 i3 => exact .n3 (g _ _ h rfl) i1 i2 i3
theorem Gs.sh {C p : Addr} {sh : Shp} (g : Gs H H') (h : ShAt C H p sh) : ShAt C H' p sh := by
  obtain ⟨dx, d, a, ds, as, h1, h2, h3, h4, h5⟩ := h.ex
  exact ⟨h.len, dx, d, a, ds, as, g _ _ h1 rfl, g _ _ h2 rfl, g _ _ h3 rfl, Paired.mapG (fun _ _ ⟨t, e, z⟩ => ⟨t, e, g _ _ z rfl⟩) h4, Paired.mapG (fun _ _ ⟨t, e, z⟩ => ⟨t, e, g _ _ z rfl⟩) h5⟩
theorem Gs.pair {b : Int × Int} (g : Gs H H') (h : PairAt K H v b) : PairAt K H' v b := by
  obtain ⟨u, e, z⟩ := h
  exact ⟨u, e, g.tupl z⟩
theorem Gs.col {b : Sn} (g : Gs H H') (h : ColAt K H v b) : ColAt K H' v b := by
  obtain ⟨z, m, e, q, r⟩ := h
  exact ⟨z, m, e, g.tupl q, r⟩
theorem Gs.bxm {p : Addr} {vb vm : V} {sh : Shp} {bx : List (Int × Int)} {ms : List Sn} (g : Gs H H') (h : Bxm K H p vb vm sh bx ms) : Bxm K H' p vb vm sh bx ms := by
  obtain ⟨t, vs, e, z, q⟩ := h.box
  obtain ⟨t2, c, u, vs2, e2, z2, y2, q2⟩ := h.mks
  exact ⟨g.sh h.shp, ⟨t, vs, e, g.tupl z, Paired.mapG (fun _ _ q => g.pair q) q⟩, ⟨t2, c, u, vs2, e2, g.tupl z2, g.tupl y2, Paired.mapG (fun _ _ q => g.col q) q2⟩, h.lb, h.bd, h.lm, h.mo⟩
theorem Gs.pap {p : Pp} (g : Gs H H') (h : PapAt K H v p) : PapAt K H' v p := by
  induction h with
  | l a b c => exact .l (g.tupl a) (g.tupl b) (g.tupl c)
  | n1 a b c _ i1 => exact .n1 (g.tupl a) (g.tupl b) (g.tupl c) i1
  | n2 a b c _ _ i1 i2 => exact .n2 (g.tupl a) (g.tupl b) (g.tupl c) i1 i2
  | n3 a b c _ _ _ i1 i2 i3 => exact .n3 (g.tupl a) (g.tupl b) (g.tupl c) i1 i2 i3
end
/-! cells -/
def KvAt (K : PySem.W.Frag) (H : Hp) (kv : List Key × V) (c : List Int × List V) : Prop := kv.1 = c.1.map Sum.inl ∧ ∃ a, kv.2 = .ref a ∧ SqT K H a c.2
theorem Gs.kv {K : PySem.W.Frag} {H H' : Hp} {kv : List Key × V} {c : List Int × List V} (g : Gs H H') (h : KvAt K H kv c) : KvAt K H' kv c := by
  obtain ⟨e, a, z, q⟩ := h
  exact ⟨e, a, z, g.tupl q⟩
structure CellsAt (K : PySem.W.Frag) (H : Hp) (kvs : List (List Key × V)) (sh : Shp) (cs : List (List Int × List V)) : Prop where
  kv : Paired (KvAt K H) kvs cs
  ok : ∀ c ∈ cs, CellOk sh c.1 c.2
  len : cs.length ≤ 16
  ne : cs ≠ []
theorem CellsAt.gs {K : PySem.W.Frag} {H H' : Hp} {kvs : List (List Key × V)} {sh : Shp} {cs : List (List Int × List V)} (g : Gs H H') (h : CellsAt K H kvs sh cs) : CellsAt K H' kvs sh cs :=
  ⟨Paired.mapG (fun _ _ q => g.kv q) h.kv, h.ok, h.len, h.ne⟩
def colS (vs : List V) : Sn := match vs.filter notN with
  | [] => nothing
  | x :: r => ⟨minV x r, maxV x r, decide (((vs.length : Nat) : Int) - (((vs.filter notN).length : Nat) : Int) > 0)⟩
theorem notN_v {k : Kd} {vs : List V} (h : ∀ v ∈ vs, IsO k v) : ∀ x ∈ vs.filter notN, IsV k x := fun x hx => by
  obtain ⟨h1, h2⟩ := List.mem_filter.mp hx
  refine (h x h1).resolve_left fun e => ?_
  rw [e] at h2
  cases h2
theorem colS_k {k : Kd} {vs : List V} (h : ∀ v ∈ vs, IsO k v) : SpanK k (colS vs) := by
  have hv := notN_v h
  unfold colS
  cases e : vs.filter notN with
  | nil => exact .inl rfl
  | cons x r =>
    rw [e] at hv
    exact .inr ⟨hv _ (minV_mem x r), hv _ (maxV_mem x r)⟩
theorem colS_in {k : Kd} {vs : List V} {v : V} (h : ∀ v ∈ vs, IsO k v) (hm : v ∈ vs) : InS v (colS vs) := by
  have hv := notN_v h
  unfold colS
  by_cases e : v = .non
  · subst e
    refine inS_non.mpr ?_
    cases e2 : vs.filter notN with
    | nil => rfl
    | cons x r =>
      have lt : (vs.filter notN).length < vs.length := by
        refine Nat.lt_of_le_of_ne (List.length_filter_le _ _) fun z => ?_
        have z2 := List.length_filter_eq_length_iff.mp z _ hm
        cases z2
      rw [e2] at lt
      show decide (((vs.length : Nat) : Int) - (((x :: r).length : Nat) : Int) > 0) = true
      exact decide_eq_true (by omega)
  · have hf : v ∈ vs.filter notN := List.mem_filter.mpr ⟨hm, by unfold notN; rw [decide_eq_false e]; rfl⟩
    cases e2 : vs.filter notN with
    | nil => rw [e2] at hf; cases hf
    | cons x r =>
      rw [e2] at hf hv
      exact .inr ⟨e, (hv _ (minV_mem x r)).ne, minV_le x r (skAll_of hv) _ hf, maxV_le x r (skAll_of hv) _ hf⟩
def colV (cs : List (List Int × List V)) (i : Nat) : List V := cs.map fun c => c.2.getD i .non
def marksL (sh : Shp) (cs : List (List Int × List V)) : List Sn := (List.range sh.attrs.length).map fun i => colS (colV cs i)
def boxV (cs : List (List Int × List V)) (i : Nat) : List V := cs.map fun c => .int (c.1.getD i 0)
def boxP (xs : List V) : Int × Int := match xs with
  | [] => (0, 0)
  | x :: r => (iv (minV x r), iv (maxV x r))
def boxL (sh : Shp) (cs : List (List Int × List V)) : List (Int × Int) := (List.range sh.dims.length).map fun i => boxP (boxV cs i)
theorem cell_get {sh : Shp} {ps : List Int} {us : List V} (c : CellOk sh ps us) {i : Nat} {n : Str} {k : Kd} (h : sh.attrs[i]? = some (n, k)) : us[i]? = some (us.getD i .non) ∧ IsO k (us.getD i .non) := by
  obtain ⟨v, e, o⟩ := c.ok i n k h
  have e2 : us.getD i .non = v := by rw [List.getD_eq_getElem?_getD, e]; rfl
  rw [e2]
  exact ⟨e, o⟩
theorem colV_o {K : PySem.W.Frag} {H : Hp} {kvs : List (List Key × V)} {sh : Shp} {cs : List (List Int × List V)} (C : CellsAt K H kvs sh cs) {i : Nat} {n : Str} {k : Kd} (h : sh.attrs[i]? = some (n, k)) : ∀ v ∈ colV cs i, IsO k v := fun v hv => by
  obtain ⟨c, hc, rfl⟩ := List.mem_map.mp hv
  exact (cell_get (C.ok c hc) h).2
theorem boxP_bd {xs : List V} (h : ∀ x ∈ xs, ∃ i, x = V.int i ∧ Bd i) (hn : xs ≠ []) : Bd (boxP xs).1 ∧ Bd (boxP xs).2 ∧ (∀ i, V.int i ∈ xs → (boxP xs).1 ≤ i ∧ i ≤ (boxP xs).2) := by
  cases xs with
  | nil => exact absurd rfl hn
  | cons x r =>
    have hk : SkAll (x :: r) := fun a ha b hb => by
      obtain ⟨i, rfl, _⟩ := h a ha
      obtain ⟨j, rfl, _⟩ := h b hb
      rfl
    obtain ⟨a, ea, ba⟩ := h _ (minV_mem x r)
    obtain ⟨b, eb, bb⟩ := h _ (maxV_mem x r)
    show Bd (iv (minV x r)) ∧ Bd (iv (maxV x r)) ∧ ∀ i, V.int i ∈ x :: r → iv (minV x r) ≤ i ∧ i ≤ iv (maxV x r)
    rw [ea, eb]
    refine ⟨ba, bb, fun i hi => ?_⟩
    have l1 := minV_le x r hk _ hi
    have l2 := maxV_le x r hk _ hi
    rw [ea, leB_int] at l1
    rw [eb, leB_int] at l2
    exact ⟨of_decide_eq_true l1, of_decide_eq_true l2⟩
theorem boxV_bd {K : PySem.W.Frag} {H : Hp} {kvs : List (List Key × V)} {sh : Shp} {cs : List (List Int × List V)} (C : CellsAt K H kvs sh cs) {i : Nat} (hi : i < sh.dims.length) : ∀ x ∈ boxV cs i, ∃ j, x = V.int j ∧ Bd j := fun x hx => by
  obtain ⟨c, hc, rfl⟩ := List.mem_map.mp hx
  have lt : i < c.1.length := by rw [(C.ok c hc).lp]; exact hi
  refine ⟨_, rfl, ?_⟩
  rw [List.getD_eq_getElem?_getD, List.getElem?_eq_getElem lt]
  exact (C.ok c hc).bd _ (List.getElem_mem lt)
theorem boxV_ne {K : PySem.W.Frag} {H : Hp} {kvs : List (List Key × V)} {sh : Shp} {cs : List (List Int × List V)} (C : CellsAt K H kvs sh cs) (i : Nat) : boxV cs i ≠ [] := fun z => C.ne (List.map_eq_nil_iff.mp z)
/-- box and marks of the cells -/
theorem bxm_of {K : PySem.W.Frag} {H : Hp} {p : Addr} {vb vm : V} {kvs : List (List Key × V)} {sh : Shp} {cs : List (List Int × List V)} (C : CellsAt K H kvs sh cs) (S : ShAt (shC K) H p sh) (hb : BoxAt K H vb (boxL sh cs)) (hm : MkAt K H vm (marksL sh cs)) : Bxm K H p vb vm sh (boxL sh cs) (marksL sh cs) := by
  refine ⟨S, hb, hm, by unfold boxL; rw [List.length_map, List.length_range], fun b hb => ?_, by unfold marksL; rw [List.length_map, List.length_range], fun i n k h => ?_⟩
  · obtain ⟨i, hi, rfl⟩ := List.mem_map.mp hb
    have z := boxP_bd (boxV_bd C (List.mem_range.mp hi)) (boxV_ne C i)
    exact ⟨z.1, z.2.1⟩
  · have lt : i < sh.attrs.length := (List.getElem?_eq_some_iff.mp h).1
    refine ⟨colS (colV cs i), ?_, colS_k (colV_o C h)⟩
    unfold marksL
    rw [List.getElem?_map, List.getElem?_range lt]
    rfl
theorem keeps_of {K : PySem.W.Frag} {H : Hp} {kvs : List (List Key × V)} {sh : Shp} {cs : List (List Int × List V)} (C : CellsAt K H kvs sh cs) {c : List Int × List V} (hc : c ∈ cs) : Keeps0 (boxL sh cs) (marksL sh cs) c.1 c.2 := by
  refine ⟨fun i b p h1 h2 => ?_, fun i s u h1 h2 => ?_⟩
  · unfold boxL at h1
    rw [List.getElem?_map] at h1
    cases e : (List.range sh.dims.length)[i]? with
    | none => rw [e] at h1; cases h1
    | some j =>
      rw [e] at h1
      have lt : i < sh.dims.length := by
        have z := (List.getElem?_eq_some_iff.mp e).1
        rw [List.length_range] at z
        exact z
      rw [List.getElem?_range lt] at e
      cases e
      cases h1
      refine (boxP_bd (boxV_bd C lt) (boxV_ne C i)).2.2 p (List.mem_map.mpr ⟨c, hc, ?_⟩)
      rw [List.getD_eq_getElem?_getD, h2]
      rfl
  · unfold marksL at h1
    rw [List.getElem?_map] at h1
    cases e : (List.range sh.attrs.length)[i]? with
    | none => rw [e] at h1; cases h1
    | some j =>
      rw [e] at h1
      have lt : i < sh.attrs.length := by
        have z := (List.getElem?_eq_some_iff.mp e).1
        rw [List.length_range] at z
        exact z
      rw [List.getElem?_range lt] at e
      cases e
      cases h1
      obtain ⟨n, k⟩ := sh.attrs[i]
      refine colS_in (k := (sh.attrs[i]).2) (colV_o C (n := (sh.attrs[i]).1) (List.getElem?_eq_getElem lt)) (List.mem_map.mpr ⟨c, hc, ?_⟩)
      rw [List.getD_eq_getElem?_getD, h2]
      rfl
end Ms
namespace Ms
open PySem PySem.Spec PyProof.Rows L2
theorem relock {H H2 : Hp} {D : Addr} {u f : HO} (h : H D = some u) (g : Same (upd H D f) H2) : Same H (upd H2 D u) := fun b o e => by
  by_cases q : b = D
  · rw [q] at e ⊢
    rw [upd_same]
    rw [h] at e
    exact e
  · rw [upd_ne q]
    exact g _ _ (by rw [upd_ne q]; exact e)
theorem lock_gs {H : Hp} {D : Addr} {kvs : List (List Key × V)} {o : HO} (h : H D = some (.dT kvs)) : Gs H (upd H D o) := Gs.put h rfl
section
variable {P : Program} {w : World} {K : PySem.W.Frag} {mg : Str → Option Value} {base : Heap}
/-! marks_of -/
def spMarks (K : PySem.W.Frag) : Sp := fun vs H Q _ => ∃ (p D : Addr) (sh : Shp) (kvs : List (List Key × V)) (cs : List (List Int × List V)), vs = [.ref p, .ref D] ∧ ShAt (shC K) H p sh ∧ H D = some (.dT kvs) ∧ CellsAt K H kvs sh cs ∧ ∀ t H', Same H H' → MkAt K H' (.ref t) (marksL sh cs) → Q (.ref t) H'
theorem sc_marks_of : FnScope ["shape", "cells", "columns", "k", "known", "values", "least", "greatest"] ["shape", "cells"] (defScope s_marks_of) := ⟨rfl, rfl, rfl, by decide +kernel, rfl, by decide +kernel, by decide +kernel⟩
theorem ok_marks_of (T : Cn w K mg base) : C8.Cal P w K mg base 1 "marks_of" (spMarks K) [] := by
  refine T.cal (i := 45) (d := d_marks_of) (k := 0) rfl rfl (by decide +kernel) rfl rfl sc_marks_of (fun _ _ _ _ _ _ us hl => match us, hl with | [_, _], _ => rfl) (fun vs H Q E h => ?_) (fun cdv A outer s H vs Q E hr hcd h => ?_)
  · obtain ⟨_, _, _, _, _, rfl, _⟩ := h
    rfl
  obtain ⟨p, D, sh, kvs, cs, rfl, S, hD, C, q⟩ := h
  have hu : _ + 1 < cLine := hu_of hr
  refine ⟨_, (pss_cons (ps_set (i := 2) sc_marks_of.nd rfl (Or.inl rfl) (pe_lst pa_nil))
  (pss_cons (ps_for PassesOwn.never rfl (pi_range1 (by rfl) (T.fre "range" (by decide +kernel)) (pa_cons (pe_callB call_len_seq (by rfl) (T.fre "len" (by decide +kernel)) (by decide +kernel) (pa_cons (pe_fld (pv 0) rfl) pa_nil)) pa_nil)) (pg_name (i := 3) sc_marks_of.nd rfl (Or.inr rfl))
  (pss_cons (ps_lock (ps_setLc (i := 4) (own := [("values", 5)]) (tt := tTest (tOp (fun x y H Q => y = V.non ∧ Q (V.bl (!decide (x = V.non))) H) (tOp (rIxT K) (tVar 5) (tVar 3)) (tC .non))) (te := tOp (rIxT K) (tVar 5) (tVar 3)) (by rfl) sc_marks_of.nd rfl rfl (sw_true rfl rfl rfl (by decide +kernel)) (pi_valuesT (pv 1)) (blkOk_by (own := [("values", 5)]) (N := ["shape", "cells", "columns", "k", "known", "values", "least", "greatest"]) (sc := defScope s_marks_of) (by decide +kernel)) (fun _ _ _ _ _ => (pg_name (i := 5) sc_marks_of.nd rfl (Or.inl rfl))) (fun _ _ _ _ _ => (pts_one (pt_cmpR op_notN (pe_ix ix_tup (pv 5) (pv 3) (fun _ _ => rfl)) pe_non (nomark _)))) (fun _ _ _ _ _ => (pe_ix ix_tup (pv 5) (pv 3) (fun _ _ => rfl)))))
  (C8.pss_cut (ps_set (i := 6) sc_marks_of.nd rfl (Or.inl rfl) (pe_ifExp (pt_cmpR op_gt (pe_callB call_len_seq (by rfl) (T.fre "len" (by decide +kernel)) (by decide +kernel) (pa_cons (pv 4) pa_nil)) pe_int (nomark _)) (pe_callB (cr_minK rfl hu) (by rfl) (T.fre "min" (by decide +kernel)) (by decide +kernel) (pa_cons (pv 4) pa_nil)) pe_non))
  (C8.pss_cut (ps_set (i := 7) sc_marks_of.nd rfl (Or.inl rfl) (pe_ifExp (pt_cmpR op_gt (pe_callB call_len_seq (by rfl) (T.fre "len" (by decide +kernel)) (by decide +kernel) (pa_cons (pv 4) pa_nil)) pe_int (nomark _)) (pe_callB (cr_maxK rfl hu) (by rfl) (T.fre "max" (by decide +kernel)) (by decide +kernel) (pa_cons (pv 4) pa_nil)) pe_non))
  (pss_one (ps_expr (pe_bm PySem.F.plainAttrs_list PySem.F.slot_list_append PySem.F.type_list_append mt_append (pv 2) (pa_cons (pe_tup (pa_cons (pe_op op_sub (pe_callB call_len_dT (by rfl) (T.fre "len" (by decide +kernel)) (by decide +kernel) (pa_cons (pv 1) pa_nil)) (pe_callB call_len_seq (by rfl) (T.fre "len" (by decide +kernel)) (by decide +kernel) (pa_cons (pv 4) pa_nil))) (pa_cons (pv 6) (pa_cons (pv 7) pa_nil)))) pa_nil))))))))
  (pss_one (ps_ret (pe_tup (pa_cons (pe_callB call_len_dT (by rfl) (T.fre "len" (by decide +kernel)) (by decide +kernel) (pa_cons (pv 1) pa_nil)) (pa_cons (pe_callTy call_tuple_of (by rfl) (T.fre "tuple" (by decide +kernel)) (by decide +kernel) (pa_cons (pv 2) pa_nil)) pa_nil))))))), ?_⟩
  obtain ⟨dx, dd, da, ds, as, h1, h2, h3, h4, h5⟩ := S.ex
  have la : as.length = sh.attrs.length := Paired.len h5
  have l16 := S.len.2
  refine ⟨by decide, fun l hl => ?_⟩
  have s0 := Same.new (o := HO.lst []) hl
  refine ⟨_, rfl, _, _, _, _, _, rfl, s0 _ _ h1, T.shCls, T.shAttrs, fl_attrs dd da, _, _, rfl, .inr (.inl (.inl (s0 _ _ h3))), _, rfl, by omega, by omega, ?_⟩
  refine for_range (lo := 0) (n := ((as.length : Nat) : Int).toNat) (fun i σ H' => (∃ o1 o2 o3 o4 o5, σ = [some (.ref p), some (.ref D), some (.ref l), o1, o2, o3, o4, o5]) ∧ Same H H' ∧ ∃ us, H' l = some (.lst us) ∧ Paired (ColAt K H') us ((List.range i).map fun i => colS (colV cs i))) ?_ (fun i σ H1 hi hP => ?_) (fun σ H1 hP => ?_)
  · exact ⟨⟨_, _, _, _, _, rfl⟩, s0, [], upd_same, .nil⟩
  · obtain ⟨⟨o1, o2, o3, o4, o5, rfl⟩, g1, us, e1, p1⟩ := hP
    rw [Int.toNat_natCast, la] at hi
    obtain ⟨n, k, ea⟩ : ∃ n k, sh.attrs[i]? = some (n, k) := ⟨_, _, List.getElem?_eq_getElem hi⟩
    have hO := colV_o C ea
    have lkv : kvs.length = cs.length := Paired.len C.kv
    have lv : (colV cs i).length = cs.length := List.length_map _
    have l17 := C.len
    have lc : cs.length ≠ 0 := fun z => C.ne (List.eq_nil_of_length_eq_zero z)
    have luz : us.length = i := by rw [Paired.len p1, List.length_map, List.length_range]
    refine ⟨D, .dT kvs, g1 _ _ hD, trivial, fun od => ?_⟩
    refine ⟨_, rfl, D, od, kvs, rfl, upd_same, fun D1 hD1 => ?_⟩
    refine lc_it walk_valuesT (PvF (upd H1 D (.frz od (.dT kvs))) D1 notN (colV cs i)) (PvF.zero hD1) (fun j H' hj hP => hP.1 _ _ upd_same) (fun j x H2 H3 hj hP hY => ?_) (fun H2 hP => ?_)
    · obtain ⟨rfl, kk, ek⟩ := hY
      obtain ⟨c, ec, e0, a, e9, ha⟩ := paired_get C.kv ek
      have e8 : x = .ref a := e9
      subst e8
      have hc := List.mem_of_getElem? ec
      obtain ⟨f1, f2⟩ := cell_get (C.ok c hc) ea
      have ev : (colV cs i)[j]? = some (c.2.getD i .non) := by unfold colV; rw [List.getElem?_map, ec]; rfl
      have ha3 : SqT K H3 a c.2 := ((Same.gs g1).trans ((lock_gs (g1 _ _ hD)).trans (Same.gs hP.1))).tupl ha
      refine ⟨rfl, _, rfl, _, rfl, _, _, _, _, rfl, rfl, ha3, at_of (j := i) (by omega) f1, rfl, _, rfl, iteN (fun h => ?_) (fun h => ?_)⟩
      · exact ⟨_, rfl, _, rfl, _, _, _, _, rfl, rfl, ha3, at_of (j := i) (by omega) f1, PvF.yes hD1 hP ev (by unfold notN; rw [decide_eq_false h]; rfl) (by omega)⟩
      · exact PvF.no hP ev (by unfold notN; rw [decide_eq_true h]; rfl)
    · have eD : H2 D = some (.frz od (.dT kvs)) := hP.1 _ _ upd_same
      rw [lkv, ← lv] at hP
      have eK := hP.all
      have gU := relock (g1 _ _ hD) hP.1
      have nD : D1 ≠ D := fun z => by rw [z, upd_same] at hD1; cases hD1
      have eKU : upd H2 D (.dT kvs) D1 = some (.lst ((colV cs i).filter notN)) := by rw [upd_ne nD]; exact eK
      have eDU : upd H2 D (.dT kvs) D = some (.dT kvs) := upd_same
      refine ⟨eD, ?_⟩
      show C8.tCut _ _ _ _ (upd H2 D (.dT kvs))
      generalize upd H2 D (.dT kvs) = HU at gU eKU eDU ⊢
      have elU : HU l = some (.lst us) := gU _ _ e1
      have hv := notN_v hO
      have fin : ∀ (sn : Sn) (m : Int), sn.ms = decide (m > 0) → colS (colV cs i) = sn → ∀ z, HU z = none → ∃ l0 xs0 y0, V.ref l = V.ref l0 ∧ [V.ref z] = [y0] ∧ upd HU z (.tup [.int m, sn.lo, sn.hi]) l0 = some (.lst xs0) ∧ xs0.length < sizeLine ∧
          ((∃ o1 o2 o3 o4 o5, ([some (V.ref p), some (V.ref D), some (V.ref l), some (V.int (0 + (i : Int))), some (V.ref D1), none, some sn.lo, some sn.hi] : List (Option V)) = [some (V.ref p), some (V.ref D), some (V.ref l), o1, o2, o3, o4, o5]) ∧ Same H (upd (upd HU z (.tup [.int m, sn.lo, sn.hi])) l0 (.lst (xs0 ++ [y0]))) ∧
            ∃ us', upd (upd HU z (.tup [.int m, sn.lo, sn.hi])) l0 (.lst (xs0 ++ [y0])) l = some (.lst us') ∧ Paired (ColAt K (upd (upd HU z (.tup [.int m, sn.lo, sn.hi])) l0 (.lst (xs0 ++ [y0])))) us' ((List.range (i + 1)).map fun i => colS (colV cs i))) := fun sn m hm hs z hz => by
        have s3 := Same.new (o := HO.tup [.int m, sn.lo, sn.hi]) hz
        have e3 := s3 _ _ elU
        refine ⟨l, us, _, rfl, rfl, e3, small (by omega), ⟨_, _, _, _, _, rfl⟩, Same.put ((g1.trans gU).trans s3) hl, _, upd_same, ?_⟩
        rw [List.range_succ, List.map_append]
        refine Paired.snoc (Paired.mapG (fun _ _ y => (((Same.gs gU).trans (Same.gs s3)).trans (Gs.put e3 rfl)).col y) p1) ⟨z, m, rfl, (Gs.put e3 rfl).tupl (.inl (.inl ?_)), ?_⟩
        · show upd HU z _ z = some (.tup [.int m, (colS (colV cs i)).lo, (colS (colV cs i)).hi])
          rw [upd_same, hs]
        · show (colS (colV cs i)).ms = _
          rw [hs]; exact hm
      cases hk : (colV cs i).filter notN with
      | nil =>
        rw [hk] at eKU
        have es : colS (colV cs i) = nothing := by unfold colS; rw [hk]
        refine ⟨fun σ' H' => (∃ w5, σ' = [some (.ref p), some (.ref D), some (.ref l), some (.int (0 + (i : Int))), some (.ref D1), w5, some .non, o5]) ∧ H' = HU, ⟨_, rfl, _, _, rfl, .inl (.inl (.inl eKU)), _, _, rfl, rfl, _, rfl, iteD (fun h => absurd h (by show ¬ (0 : Int) < 0; decide)) (fun _ => ⟨⟨_, rfl⟩, rfl⟩)⟩, ?_⟩
        rintro σ3 H3 ⟨⟨w5, rfl⟩, rfl⟩
        refine ⟨fun σ' H' => (∃ w5, σ' = [some (.ref p), some (.ref D), some (.ref l), some (.int (0 + (i : Int))), some (.ref D1), w5, some .non, some .non]) ∧ H' = H3, ⟨_, rfl, _, _, rfl, .inl (.inl (.inl eKU)), _, _, rfl, rfl, _, rfl, iteD (fun h => absurd h (by show ¬ (0 : Int) < 0; decide)) (fun _ => ⟨⟨_, rfl⟩, rfl⟩)⟩, ?_⟩
        rintro σ4 H4 ⟨⟨w6, rfl⟩, rfl⟩
        refine ⟨_, rfl, .inl ⟨rfl, _, .inl (.inl elU)⟩, _, rfl, D, kvs, rfl, eDU, _, rfl, _, _, rfl, .inl (.inl (.inl eKU)), _, _, rfl, rfl, _, rfl, _, rfl, sz3, fun z hz => ?_⟩
        obtain ⟨l0, xs0, y0, q1, q2, q3, q4, ⟨_, q5⟩, q6⟩ := fin nothing _ (by show true = decide (((kvs.length : Nat) : Int) - (([] : List V).length : Int) > 0); rw [decide_eq_true (by rw [List.length_nil]; omega)]) es z hz
        exact ⟨l0, xs0, y0, q1, q2, q3, q4, ⟨_, _, _, _, _, rfl⟩, q6⟩
      | cons x r =>
        rw [hk] at eKU hv
        have ks := skAll_of hv
        have es : colS (colV cs i) = ⟨minV x r, maxV x r, decide ((((colV cs i).length : Nat) : Int) - (((x :: r).length : Nat) : Int) > 0)⟩ := by unfold colS; rw [hk]
        have gt : (0 : Int) < (((x :: r).length : Nat) : Int) := by rw [List.length_cons]; omega
        refine ⟨fun σ' H' => (∃ w5, σ' = [some (.ref p), some (.ref D), some (.ref l), some (.int (0 + (i : Int))), some (.ref D1), w5, some (minV x r), o5]) ∧ H' = HU, ⟨_, rfl, _, _, rfl, .inl (.inl (.inl eKU)), _, _, rfl, rfl, _, rfl, iteD (fun _ => ⟨_, rfl, D1, x, r, rfl, .inl (.inl eKU), ks, ⟨_, rfl⟩, rfl⟩) (fun h => absurd gt h)⟩, ?_⟩
        rintro σ3 H3 ⟨⟨w5, rfl⟩, rfl⟩
        refine ⟨fun σ' H' => (∃ w5, σ' = [some (.ref p), some (.ref D), some (.ref l), some (.int (0 + (i : Int))), some (.ref D1), w5, some (minV x r), some (maxV x r)]) ∧ H' = H3, ⟨_, rfl, _, _, rfl, .inl (.inl (.inl eKU)), _, _, rfl, rfl, _, rfl, iteD (fun _ => ⟨_, rfl, D1, x, r, rfl, .inl (.inl eKU), ks, ⟨_, rfl⟩, rfl⟩) (fun h => absurd gt h)⟩, ?_⟩
        rintro σ4 H4 ⟨⟨w6, rfl⟩, rfl⟩
        refine ⟨_, rfl, .inl ⟨rfl, _, .inl (.inl elU)⟩, _, rfl, D, kvs, rfl, eDU, _, rfl, _, _, rfl, .inl (.inl (.inl eKU)), _, _, rfl, rfl, _, rfl, _, rfl, sz3, fun z hz => ?_⟩
        obtain ⟨l0, xs0, y0, q1, q2, q3, q4, ⟨_, q5⟩, q6⟩ := fin _ (((kvs.length : Nat) : Int) - (((x :: r).length : Nat) : Int)) (by rw [lv, ← lkv]) es z hz
        exact ⟨l0, xs0, y0, q1, q2, q3, q4, ⟨_, _, _, _, _, rfl⟩, q6⟩
  · obtain ⟨⟨o1, o2, o3, o4, o5, rfl⟩, g1, us, e1, p1⟩ := hP
    rw [Int.toNat_natCast, la] at p1
    refine ⟨_, rfl, D, kvs, rfl, g1 _ _ hD, _, rfl, l, us, rfl, .inl ⟨.inl (.inl e1), fun u hu' => ⟨sz2, fun t ht => ?_⟩⟩⟩
    have s3 := Same.new (o := HO.tup us) hu'
    have s4 := Same.new (o := HO.tup [.int ((kvs.length : Nat) : Int), .ref u]) ht
    exact q t _ ((g1.trans s3).trans s4) ⟨t, _, u, us, rfl, .inl (.inl upd_same), .inl (.inl (s4 _ _ upd_same)), Paired.mapG (fun _ _ y => (Same.gs (s3.trans s4)).col y) p1⟩
end
end Ms
namespace Ms
open PySem PySem.Spec PyProof.Rows L2
section
variable {P : Program} {w : World} {K : PySem.W.Frag} {mg : Str → Option Value} {base : Heap}
/-! _law_draw -/
def spDraw : Sp := fun vs H Q _ => ∃ (c : Int) (m b : Nat), vs = [.int c, .int m, .int b] ∧ m ≤ 100 ∧ 0 < b ∧ b < 1073741824 ∧ ∀ l H' (ns : List Int), Same H H' → H' l = some (.lst (ns.map V.int)) → ns.length = m → Q (.ref l) H'
theorem sc_u_law_draw : FnScope ["_law_cell", "_law_many", "_law_bound", "_law_numbers", "_law_k", "_law_seed", "_law_mixed"] ["_law_cell", "_law_many", "_law_bound"] (defScope s_u_law_draw) := ⟨rfl, rfl, rfl, by decide +kernel, rfl, by decide +kernel, by decide +kernel⟩
theorem ok_u_law_draw (T : Cn w K mg base) : C8.Cal P w K mg base 1 "_law_draw" spDraw [] := by
  refine T.cal (i := 46) (d := d_u_law_draw) (k := 0) rfl rfl (by decide +kernel) rfl rfl sc_u_law_draw (fun _ _ _ _ _ _ us hl => match us, hl with | [_, _, _], _ => rfl) (fun vs H Q E h => ?_) (fun cdv A outer s H vs Q E hr hcd h => ?_)
  · obtain ⟨_, _, _, rfl, _⟩ := h
    rfl
  obtain ⟨c, m, b, rfl, hm, b1, b2, q⟩ := h
  refine ⟨_, (pss_cons (ps_set (i := 3) sc_u_law_draw.nd rfl (Or.inl rfl) (pe_lst pa_nil))
  (pss_cons (ps_if (pt_cmpR op_ge (pv 0) (pe_op op_pow pe_int pe_int) (nomark _))
  (pss_cons (ps_for PassesOwn.never rfl (pi_range1 (by rfl) (T.fre "range" (by decide +kernel)) (pa_cons (pv 1) pa_nil)) (pg_name (i := 4) sc_u_law_draw.nd rfl (Or.inl rfl))
  (pss_cons (ps_expr (pe_bm PySem.F.plainAttrs_list PySem.F.slot_list_append PySem.F.type_list_append mt_append (pv 3) (pa_cons (pe_op op_modN (pe_callTy call_int1 (by rfl) (T.fre "int" (by decide +kernel)) (by decide +kernel) (pa_cons (pv 0) pa_nil)) (pv 2)) pa_nil)))
  (pss_one (ps_set (i := 0) sc_u_law_draw.nd rfl (Or.inl rfl) (pe_op op_fdivN (pv 0) (pv 2))))))
  (pss_one (ps_ret (pv 3))))
  pss_nil)
  (pss_cons (ps_set (i := 5) sc_u_law_draw.nd rfl (Or.inl rfl) (pe_op op_modN (pe_callTy call_int1 (by rfl) (T.fre "int" (by decide +kernel)) (by decide +kernel) (pa_cons (pv 0) pa_nil)) pe_int))
  (pss_cons (ps_for PassesOwn.never rfl (pi_range1 (by rfl) (T.fre "range" (by decide +kernel)) (pa_cons (pv 1) pa_nil)) (pg_name (i := 4) sc_u_law_draw.nd rfl (Or.inl rfl))
  (pss_cons (ps_set (i := 5) sc_u_law_draw.nd rfl (Or.inl rfl) (pe_op op_modN (pe_callTy call_int1 (by rfl) (T.fre "int" (by decide +kernel)) (by decide +kernel) (pa_cons (pe_op op_add (pe_op op_add (pe_op op_mul (pv 5) pe_int) pe_int) (pv 4)) pa_nil)) pe_int))
  (pss_cons (ps_set (i := 6) sc_u_law_draw.nd rfl (Or.inl rfl) (pe_op op_modN (pe_callTy call_int1 (by rfl) (T.fre "int" (by decide +kernel)) (by decide +kernel) (pa_cons (pe_op op_add (pe_op op_mul (pv 5) pe_int) (pe_op op_mul pe_int (pv 4))) pa_nil)) pe_int))
  (pss_one (ps_expr (pe_bm PySem.F.plainAttrs_list PySem.F.slot_list_append PySem.F.type_list_append mt_append (pv 3) (pa_cons (pe_op op_modN (pe_callTy call_int1 (by rfl) (T.fre "int" (by decide +kernel)) (by decide +kernel) (pa_cons (pe_op op_fdivN (pv 6) pe_int) pa_nil)) (pv 2)) pa_nil)))))))
  (pss_one (ps_ret (pv 3))))))), ?_⟩
  have mul : ∀ (i j : Int), -(2 ^ 64) < j → j < 2 ^ 64 → CMul i j := fun i j h1 h2 => .inr ⟨h1, h2⟩
  have app : ∀ {H1 : Hp} {l : Addr} {ns : List Int} {i : Nat} (x : Int), H l = none → Same H H1 → H1 l = some (.lst (ns.map V.int)) → ns.length = i → i ≤ 100 → ∃ l0 xs0 y0, V.ref l = V.ref l0 ∧ [V.int x] = [y0] ∧ H1 l0 = some (.lst xs0) ∧ xs0.length < sizeLine ∧
      (Same H (upd H1 l0 (.lst (xs0 ++ [y0]))) ∧ ∃ ns' : List Int, upd H1 l0 (.lst (xs0 ++ [y0])) l = some (.lst (ns'.map V.int)) ∧ ns'.length = i + 1) := fun {H1 l ns i} x hl g e hn hi => by
    refine ⟨l, _, _, rfl, rfl, e, small (by rw [List.length_map]; omega), Same.put g hl, ns ++ [x], ?_, by rw [List.length_append, hn]; rfl⟩
    rw [upd_same, List.map_append]
    rfl
  refine ⟨by decide, fun l hl => ?_⟩
  refine ⟨_, rfl, _, _, rfl, rfl, ⟨by decide, by decide, by decide⟩, _, _, rfl, rfl, _, rfl, iteD (fun h => ?_) (fun h => ?_)⟩
  · refine ⟨_, rfl, _, rfl, by omega, by omega, ?_⟩
    refine for_range (lo := 0) (n := ((m : Nat) : Int).toNat) (fun i σ H' => (∃ (c' : Int) (o1 o2 o3 : Option V), σ = [some (.int c'), some (.int m), some (.int b), some (.ref l), o1, o2, o3]) ∧ Same H H' ∧ ∃ ns : List Int, H' l = some (.lst (ns.map V.int)) ∧ ns.length = i) ?_ (fun i σ H1 hi hP => ?_) (fun σ H1 hP => ?_)
    · exact ⟨⟨_, _, _, _, rfl⟩, Same.new hl, [], upd_same, rfl⟩
    · obtain ⟨⟨c', o1, o2, o3, rfl⟩, g, ns, e, hn⟩ := hP
      rw [Int.toNat_natCast] at hi
      refine ⟨_, rfl, .inl ⟨rfl, _, .inl (.inl e)⟩, _, rfl, .inl ⟨_, rfl, _, rfl, _, _, rfl, rfl, by omega, ?_⟩⟩
      obtain ⟨l0, xs0, y0, q1, q2, q3, q4, q5, q6⟩ := app (c'.fmod (b : Int)) hl g e hn (by omega)
      refine ⟨l0, xs0, y0, q1, q2, q3, q4, ?_⟩
      exact ⟨_, rfl, _, rfl, _, _, rfl, rfl, ⟨by omega, by omega⟩, ⟨_, _, _, _, rfl⟩, q5, q6⟩
    · obtain ⟨⟨c', o1, o2, o3, rfl⟩, g, ns, e, hn⟩ := hP
      exact ⟨_, rfl, q l H1 ns g e (by rw [hn, Int.toNat_natCast])⟩
  · refine ⟨_, rfl, .inl ⟨_, rfl, _, _, rfl, rfl, (show (2147483647 : Int) ≠ 0 by decide), ?_⟩⟩
    refine ⟨_, rfl, _, rfl, by omega, by omega, ?_⟩
    refine for_range (lo := 0) (n := ((m : Nat) : Int).toNat) (fun i σ H' => (∃ (c' : Int) (o1 : Int) (o2 o3 : Option V), σ = [some (.int c'), some (.int m), some (.int b), some (.ref l), o2, some (.int o1), o3]) ∧ Same H H' ∧ ∃ ns : List Int, H' l = some (.lst (ns.map V.int)) ∧ ns.length = i) ?_ (fun i σ H1 hi hP => ?_) (fun σ H1 hP => ?_)
    · exact ⟨⟨_, _, _, _, rfl⟩, Same.new hl, [], upd_same, rfl⟩
    · obtain ⟨⟨c', o1, o2, o3, rfl⟩, g, ns, e, hn⟩ := hP
      rw [Int.toNat_natCast] at hi
      have n1 : (2147483647 : Int) ≠ 0 := by decide
      have n2 : (2147483629 : Int) ≠ 0 := by decide
      refine ⟨_, rfl, _, _, rfl, rfl, mul _ _ (by decide) (by decide), _, _, rfl, rfl, _, rfl, _, _, rfl, rfl, .inl ⟨_, rfl, _, _, rfl, rfl, n1, ?_⟩⟩
      refine ⟨_, rfl, _, _, rfl, rfl, mul _ _ (by decide) (by decide), _, rfl, _, _, rfl, rfl, .inl ⟨by decide, by decide⟩, _, _, rfl, rfl, .inl ⟨_, rfl, _, _, rfl, rfl, n2, ?_⟩⟩
      refine ⟨_, rfl, .inl ⟨rfl, _, .inl (.inl e)⟩, _, rfl, _, _, rfl, rfl, ⟨by decide, by decide⟩, .inl ⟨_, rfl, _, rfl, _, _, rfl, rfl, (by omega : ((b : Nat) : Int) ≠ 0), ?_⟩⟩
      obtain ⟨l0, xs0, y0, q1, q2, q3, q4, q5, q6⟩ := app _ hl g e hn (by omega)
      exact ⟨l0, xs0, y0, q1, q2, q3, q4, ⟨_, _, _, _, rfl⟩, q5, q6⟩
    · obtain ⟨⟨c', o1, o2, o3, rfl⟩, g, ns, e, hn⟩ := hP
      exact ⟨_, rfl, q l H1 ns g e (by rw [hn, Int.toNat_natCast])⟩
/-! the state -/
def stD (nl : Addr) (at_ : Int) : List (Key × V) := [(.inr "numbers", .ref nl), (.inr "at", .int at_)]
theorem st_num (nl : Addr) (a : Int) : valV (stD nl a) (.inr "numbers") = some (.ref nl) := valV_pos rfl
theorem st_at (nl : Addr) (a : Int) : valV (stD nl a) (.inr "at") = some (.int a) := by
  unfold stD
  rw [valV_neg (show ¬ (Sum.inr ("numbers" : Str) : Key) = Sum.inr ("at" : Str) by decide +kernel)]
  exact valV_pos rfl
theorem st_put (nl : Addr) (a b : Int) : putK (stD nl a) (.inr "at") (.int b) = stD nl b := by
  have e1 : ¬ (Sum.inr ("numbers" : Str) : Key) = Sum.inr ("at" : Str) := by decide +kernel
  unfold putK stD
  simp [e1]
def StAt (H : Hp) (S nl : Addr) : Prop := ∃ (a : Int) (ns : List Int), H S = some (.dK (stD nl a)) ∧ H nl = some (.lst (ns.map V.int)) ∧ 0 < ns.length ∧ ns.length ≤ 1000
/-! _law_draws -/
def spDraws (K : PySem.W.Frag) : Sp := fun vs H Q _ => ∃ (a : Addr) (ns : List Int), vs = [.ref a] ∧ SqL K H a (ns.map V.int) ∧ 0 < ns.length ∧ ns.length ≤ 20 ∧ ∀ S nl H', Same H H' → StAt H' S nl → Q (.ref S) H'
theorem sc_u_law_draws : FnScope ["_law_cells_here", "_law_numbers", "_law_cell"] ["_law_cells_here"] (defScope s_u_law_draws) := ⟨rfl, rfl, rfl, by decide +kernel, rfl, by decide +kernel, by decide +kernel⟩
theorem ok_u_law_draws (T : Cn w K mg base) : C8.Cal P w K mg base 2 "_law_draws" (spDraws K) [] := by
  refine T.cal (i := 47) (d := d_u_law_draws) (k := 1) rfl rfl (by decide +kernel) rfl rfl sc_u_law_draws (fun _ _ _ _ _ _ us hl => match us, hl with | [_], _ => rfl) (fun vs H Q E h => ?_) (fun cdv A outer s H vs Q E hr hcd h => ?_)
  · obtain ⟨_, _, rfl, _⟩ := h
    rfl
  obtain ⟨a, ns, rfl, ha, n1, n2, q⟩ := h
  have c1 := ok_u_law_draw (P := P) T
  refine ⟨_, (pss_cons (ps_set (i := 1) sc_u_law_draws.nd rfl (Or.inl rfl) (pe_lst pa_nil))
  (pss_cons (ps_for PassesOwn.never rfl (pi_list (pv 0)) (pg_name (i := 2) sc_u_law_draws.nd rfl (Or.inl rfl))
  (pss_one (ps_set (i := 1) sc_u_law_draws.nd rfl (Or.inl rfl) (pe_op op_cat (pv 1) (C8.pe_c c1 hr (by omega) rfl (pa_cons (pv 2) (pa_cons pe_int (pa_cons (pe_op op_shl pe_int pe_int) pa_nil))))))))
  (pss_one (ps_ret (pe_disp (pps_cons pe_str (pv 1) (pps_cons pe_str pe_int pps_nil)) (by rfl) (by rfl) (fun z => by cases z) (by decide)))))), ?_⟩
  refine ⟨by decide, fun l hl => ?_⟩
  have s0 := Same.new (o := HO.lst []) hl
  have lm : (ns.map V.int).length = ns.length := List.length_map _
  refine ⟨_, rfl, a, rfl, ⟨_, (Same.gr s0).seq ha⟩, ?_⟩
  refine for_it (walk_list (K := K) (a := a) (xs := ns.map V.int)) (fun i σ H' => (∃ l' o, σ = [some (.ref a), some (.ref l'), o] ∧ ∃ ms : List Int, H' l' = some (.lst (ms.map V.int)) ∧ ms.length = i * 40) ∧ Same H H') ?_ (fun i σ H' hi hP => (Same.gr hP.2).seq ha) (fun i x σ H2 H3 hi hP hY => ?_) (fun σ H2 hP => ?_)
  · exact ⟨⟨_, _, rfl, [], upd_same, rfl⟩, s0⟩
  · obtain ⟨⟨l', o, rfl, ms, e, hm⟩, g⟩ := hP
    obtain ⟨rfl, hx⟩ := hY
    obtain ⟨c, hc, rfl⟩ := List.mem_map.mp (List.mem_of_getElem? hx)
    have hi2 : i < 20 := by omega
    refine ⟨_, rfl, _, rfl, _, _, rfl, rfl, ⟨by decide, by decide, by decide⟩, c, 40, 1048576, rfl, by decide, by decide, by decide, fun l2 H4 ks g4 e4 h4 => ?_⟩
    refine ⟨l', l2, _, _, rfl, rfl, g4 _ _ e, e4, ?_, fun p hp => ?_⟩
    · rw [List.length_map, List.length_map, h4, hm, sizeLine_eq]
      omega
    · refine ⟨⟨_, _, rfl, ms ++ ks, ?_, ?_⟩, (g.trans g4).trans (Same.new hp)⟩
      · rw [upd_same, List.map_append]
      · rw [List.length_append, hm, h4]
        omega
  · obtain ⟨⟨l', o, rfl, ms, e, hm⟩, g⟩ := hP
    rw [lm] at hm
    refine fun S hS => ⟨_, rfl, upd_same, stD l' 0, rfl, (show 2 ≤ 15 by decide), ?_⟩
    have e5 : mergeK [] (stD l' 0) = stD l' 0 := by
      have e1 : ¬ (Sum.inr ("numbers" : Str) : Key) = Sum.inr ("at" : Str) := by decide +kernel
      simp [mergeK, putK, stD, e1]
    rw [e5, upd_upd]
    have g5 := Same.new (o := HO.dK (stD l' 0)) hS
    exact q S l' _ (g.trans g5) ⟨0, ms, upd_same, g5 _ _ e, by omega, by omega⟩
/-- the state stands, so do the tables -/
structure Lw (K : PySem.W.Frag) (S nl : Addr) (H : Hp) : Prop where
  st : StAt H S nl
  tb : Tabs K H
theorem Lw.same {S nl : Addr} {H H' : Hp} (l : Lw K S nl H) (g : Same H H') : Lw K S nl H' := by
  obtain ⟨a, ns, e1, e2, e3⟩ := l.st
  exact ⟨⟨a, ns, g _ _ e1, g _ _ e2, e3⟩, l.tb.same g⟩
theorem Lw.gr {S nl : Addr} {H H' : Hp} (l : Lw K S nl H) (g : Gx S H H') : Gr H H' := fun b o e z => by
  obtain ⟨a, ns, e1, e2, e3⟩ := l.st
  exact g b o (fun y => by rw [y, e1] at e; cases e; cases z) e (by cases o <;> first | rfl | cases z)
/-! _law_next -/
def spNext (K : PySem.W.Frag) : Sp := fun vs H Q _ => ∃ (S nl : Addr) (b : Int), vs = [.ref S, .int b] ∧ 0 < b ∧ Lw K S nl H ∧ ∀ r H', 0 ≤ r → r < b → Gx S H H' → Lw K S nl H' → Q (.int r) H'
theorem sc_u_law_next : FnScope ["_law_state", "_law_bound", "_law_number_here"] ["_law_state", "_law_bound"] (defScope s_u_law_next) := ⟨rfl, rfl, rfl, by decide +kernel, rfl, by decide +kernel, by decide +kernel⟩
theorem ok_u_law_next (T : Cn w K mg base) : C8.Cal P w K mg base 1 "_law_next" (spNext K) [] := by
  refine T.cal (i := 48) (d := d_u_law_next) (k := 0) rfl rfl (by decide +kernel) rfl rfl sc_u_law_next (fun _ _ _ _ _ _ us hl => match us, hl with | [_, _], _ => rfl) (fun vs H Q E h => ?_) (fun cdv A outer s H vs Q E hr hcd h => ?_)
  · obtain ⟨_, _, _, rfl, _⟩ := h
    rfl
  obtain ⟨S, nl, b, rfl, hb, L, q⟩ := h
  have hu : _ + 1 < cLine := hu_of hr
  refine ⟨_, (pss_cons (ps_set (i := 2) sc_u_law_next.nd rfl (Or.inl rfl) (pe_op op_add (pe_ix ix_list (pe_dget hu (pv 0) pe_str (fun _ _ => rfl)) (pe_op op_modN (pe_callTy call_int1 (by rfl) (T.fre "int" (by decide +kernel)) (by decide +kernel) (pa_cons (pe_dget hu (pv 0) pe_str (fun _ _ => rfl)) pa_nil)) (pe_callB call_len_seq (by rfl) (T.fre "len" (by decide +kernel)) (by decide +kernel) (pa_cons (pe_dget hu (pv 0) pe_str (fun _ _ => rfl)) pa_nil))) (fun _ _ => rfl)) (pe_op op_fdivN (pe_callTy call_int1 (by rfl) (T.fre "int" (by decide +kernel)) (by decide +kernel) (pa_cons (pe_dget hu (pv 0) pe_str (fun _ _ => rfl)) pa_nil)) (pe_callB call_len_seq (by rfl) (T.fre "len" (by decide +kernel)) (by decide +kernel) (pa_cons (pe_dget hu (pv 0) pe_str (fun _ _ => rfl)) pa_nil)))))
  (pss_cons (ps_dput hu (pv 0) pe_str (pe_op op_add (pe_dget hu (pv 0) pe_str (fun _ _ => rfl)) pe_int) rfl)
  (pss_one (ps_ret (pe_op op_modN (pe_callTy call_int1 (by rfl) (T.fre "int" (by decide +kernel)) (by decide +kernel) (pa_cons (pv 2) pa_nil)) (pv 1)))))), ?_⟩
  obtain ⟨a, ns, e1, e2, e3, e4⟩ := L.st
  have dn : DGet H S (.str "numbers") (some (.ref nl)) := by
    have z := DGet.k (H := H) (a := S) (k := .inr ("numbers" : Str)) e1
    rw [st_num] at z
    exact z
  have da : DGet H S (.str "at") (some (.int a)) := by
    have z := DGet.k (H := H) (a := S) (k := .inr ("at" : Str)) e1
    rw [st_at] at z
    exact z
  have ll : (ns.map V.int).length = ns.length := List.length_map _
  have lp : (0 : Int) < ((ns.length : Nat) : Int) := by omega
  have lz : (((ns.map V.int).length : Nat) : Int) ≠ 0 := by rw [ll]; omega
  have ld : CDivN a (((ns.map V.int).length : Nat) : Int) := ⟨lz, by rw [ll]; omega⟩
  have f1 := Int.fmod_nonneg_of_pos a lp
  have f2 := Int.fmod_lt_of_pos a lp
  have lt : (a.fmod ((ns.length : Nat) : Int)).toNat < ns.length := by omega
  have ei : atI (ns.map V.int) (a.fmod (((ns.map V.int).length : Nat) : Int)) = some (.int ns[(a.fmod ((ns.length : Nat) : Int)).toNat]) :=
    at_of (j := (a.fmod ((ns.length : Nat) : Int)).toNat) (by rw [ll]; omega) (by rw [List.getElem?_map, List.getElem?_eq_getElem lt]; rfl)
  have hS : SqL K H nl (ns.map V.int) := .inl (.inl e2)
  refine ⟨_, rfl, S, _, rfl, dn, _, rfl, S, _, rfl, da, .inl ⟨_, rfl, _, rfl, S, _, rfl, dn, _, _, rfl, .inl hS, _, _, rfl, rfl, lz, _, _, _, _, rfl, rfl, hS, ei, ?_⟩⟩
  refine ⟨_, rfl, S, _, rfl, da, .inl ⟨_, rfl, _, rfl, S, _, rfl, dn, _, _, rfl, .inl hS, _, _, rfl, rfl, ld, _, _, rfl, rfl, ?_⟩⟩
  have dp := DPut.k (H := H) (a := S) (k := .inr ("at" : Str)) (v := .int (a + 1)) e1 (small (show 2 ≤ 1000 by decide))
  rw [st_put] at dp
  refine ⟨_, rfl, S, _, rfl, da, _, _, rfl, rfl, _, rfl, S, _, rfl, dp, ?_⟩
  have nz : nl ≠ S := fun z => by rw [z, e1] at e2; cases e2
  refine ⟨_, rfl, .inl ⟨_, rfl, _, rfl, _, _, rfl, rfl, (by omega : b ≠ 0), ?_⟩⟩
  refine q _ _ (Int.fmod_nonneg_of_pos _ hb) (Int.fmod_lt_of_pos _ hb) Gx.put ⟨⟨a + 1, ns, upd_same, ?_, e3, e4⟩, L.tb.put e1 rfl⟩
  rw [upd_ne nz]
  exact e2
end
end Ms
namespace Ms
open PySem PySem.Spec PyProof.Rows L2
def oneC (c : Nat) : Str := ⟨#[c]⟩
theorem join_one : ∀ cs : List Nat, (Str.join "" (cs.map oneC)).cps.toList = cs
  | [] => rfl
  | [_] => rfl
  | a :: b :: r => by
    show (oneC a ++ "" ++ Str.join "" ((b :: r).map oneC)).cps.toList = _
    rw [str_app_list, str_app_list, join_one (b :: r)]
    rfl
theorem word_cps (cs : List Nat) : (Txt.join "" (cs.map oneC)).cps.toList = cs := by
  have e : Txt.join "" (cs.map oneC) = Str.join "" (cs.map oneC) := StrLaws.glued_eq_join _ _
  rw [e]
  exact join_one cs
def alph : Str := "abXY z09{~.\n"
def okCB (c : Nat) : Bool := txBefore.cps.toList.contains c || (txBehind.cps.toList.contains c || decide (c = 10))
theorem okCB_ok {c : Nat} (h : okCB c = true) : OkC c := by
  unfold okCB at h
  rcases Bool.or_eq_true_iff.mp h with h | h
  · exact .inl (List.contains_iff_mem.mp h)
  · rcases Bool.or_eq_true_iff.mp h with h | h
    · exact .inr (.inl (List.contains_iff_mem.mp h))
    · exact .inr (.inr (of_decide_eq_true h))
theorem alph_ok {c : Nat} (h : c ∈ alph.cps.toList) : OkC c := by
  have e : (alph.cps.toList.all okCB) = true := by decide +kernel
  exact okCB_ok (List.all_eq_true.mp e _ h)
theorem alph_len : alph.cps.toList.length = 12 := by decide +kernel
def repB (z : Str) (n : Int) : Bool := decide ((Txt.mul z n).length ≤ 200) && (Txt.mul z n).cps.toList.all okCB
theorem repB_ok {z : Str} {n : Int} (h : repB z n = true) : IsV .text (.str (Txt.mul z n)) := by
  obtain ⟨a, b⟩ := Bool.and_eq_true_iff.mp h
  exact ⟨of_decide_eq_true a, fun c hc => okCB_ok (List.all_eq_true.mp b c hc)⟩
section
variable {P : Program} {w : World} {K : PySem.W.Frag} {mg : Str → Option Value} {base : Heap}
/-! _law_word -/
def OutV (K : PySem.W.Frag) (S nl : Addr) (H : Hp) (Q : VK) (k : Kd) : Prop := ∀ v H', IsV k v → Gx S H H' → Lw K S nl H' → Q v H'
def spWord (K : PySem.W.Frag) : Sp := fun vs H Q _ => ∃ (S nl : Addr), vs = [.ref S] ∧ Lw K S nl H ∧ OutV K S nl H Q .text
theorem Lw.ne {S nl D : Addr} {H : Hp} (L : Lw K S nl H) (h : H D = none) : D ≠ S ∧ nl ≠ D := by
  obtain ⟨a, ns, e1, e2, _⟩ := L.st
  exact ⟨(fun z => by rw [z, e1] at h; cases h), (fun z => by rw [z, h] at e2; cases e2)⟩
theorem Lw.putl {S nl D : Addr} {H : Hp} {xs ys : List V} (L : Lw K S nl H) (h : H D = some (.lst xs)) (hn : nl ≠ D) : Lw K S nl (upd H D (.lst ys)) := by
  obtain ⟨a, ns, e1, e2, e3⟩ := L.st
  refine ⟨⟨a, ns, ?_, ?_, e3⟩, L.tb.put h rfl⟩
  · rw [upd_ne (fun z => by rw [z, h] at e1; cases e1)]; exact e1
  · rw [upd_ne hn]; exact e2
theorem Gx.putn {S D : Addr} {H H1 : Hp} {o : HO} (g : Gx S H H1) (h : H D = none) : Gx S H (upd H1 D o) := fun b u n e z => by
  rw [upd_ne (ne_of_none e h)]
  exact g b u n e z
theorem sc_u_law_word : FnScope ["_law_state", "_law_k"] ["_law_state"] (defScope s_u_law_word) := ⟨rfl, rfl, rfl, by decide +kernel, rfl, by decide +kernel, by decide +kernel⟩
theorem ok_u_law_word (T : Cn w K mg base) : C8.Cal P w K mg base 2 "_law_word" (spWord K) [] := by
  refine T.cal (i := 49) (d := d_u_law_word) (k := 1) rfl rfl (by decide +kernel) rfl rfl sc_u_law_word (fun _ _ _ _ _ _ us hl => match us, hl with | [_], _ => rfl) (fun vs H Q E h => ?_) (fun cdv A outer s H vs Q E hr hcd h => ?_)
  · obtain ⟨_, _, rfl, _⟩ := h
    rfl
  obtain ⟨S, nl, rfl, L, q⟩ := h
  have c1 := ok_u_law_next (P := P) T
  refine ⟨_, (pss_one (ps_ret (pe_join pe_str (pe_lc (own := [("_law_k", 1)])  (by rfl) sc_u_law_word.nd (pi_range1 (by rfl) (T.fre "range" (by decide +kernel)) (pa_cons (C8.pe_c c1 hr (by omega) rfl (pa_cons (pv 0) (pa_cons pe_int pa_nil))) pa_nil)) (blkOk_by (own := [("_law_k", 1)]) (N := ["_law_state", "_law_k"]) (sc := defScope s_u_law_word) (by decide +kernel)) (fun _ _ _ _ _ => (pg_name (i := 1) sc_u_law_word.nd rfl (Or.inl rfl))) (fun _ _ _ _ _ => pts_nil) (fun _ _ _ _ _ => (pe_ix ix_str pe_str (C8.pe_c c1 hr (by omega) rfl (pa_cons (pv 0) (pa_cons pe_int pa_nil))) (fun _ _ => rfl))))))), ?_⟩
  have ha : alph = "abXY z09{~.\n" := rfl
  refine ⟨⟨_, rfl⟩, _, rfl, S, nl, 4, rfl, by decide, L, fun r H1 r0 r1 g1 L1 => ⟨r, rfl, by omega, by omega, fun D hD => ?_⟩⟩
  obtain ⟨dS, dn⟩ := L1.ne hD
  have s0 := Same.new (o := HO.lst []) hD
  refine lc_range (lo := 0) (n := r.toNat) (fun i H' => Gx S H1 H' ∧ Lw K S nl H' ∧ ∃ cs : List Nat, H' D = some (.lst ((cs.map oneC).map V.str)) ∧ cs.length = i ∧ ∀ c ∈ cs, OkC c) ⟨Same.gx s0, L1.same s0, [], upd_same, rfl, fun c hc => by cases hc⟩ (fun i H2 hi hP => ?_) (fun H2 hP => ?_)
  · obtain ⟨g2, L2, cs, e2, hl, ok⟩ := hP
    refine ⟨rfl, _, rfl, S, nl, 12, rfl, by decide, L2, fun x H3 x0 x1 g3 L3 => ?_⟩
    obtain ⟨jx, rfl⟩ : ∃ j : Nat, x = (j : Int) := ⟨x.toNat, by omega⟩
    have lx : jx < alph.cps.toList.length := by rw [alph_len]; omega
    have e3 := g3 _ _ dS e2 rfl
    refine ⟨alph, ((jx : Nat) : Int), alph.cps.toList[jx], rfl, rfl, by rw [sizeLine_eq]; decide +kernel, atI_nat (List.getElem?_eq_getElem lx), ?_⟩
    refine ⟨_, e3, small (by rw [List.length_map, List.length_map]; omega), Gx.putn (g2.trans g3) hD, L3.putl e3 dn, cs ++ [alph.cps.toList[jx]], ?_, by rw [List.length_append, hl]; rfl, fun c hc => ?_⟩
    · rw [upd_same, List.map_append, List.map_append]
      rfl
    · rcases List.mem_append.mp hc with z | z
      · exact ok c z
      · rw [List.mem_singleton.mp z]
        exact alph_ok (List.getElem_mem lx)
  · obtain ⟨g2, L2, cs, e2, hl, ok⟩ := hP
    have l4 : cs.length ≤ 3 := by omega
    have e0 : (cs.map oneC).map (fun x => x.length) = cs.map fun _ => 1 := by rw [List.map_map]; rfl
    have sum : ∀ l : List Nat, (l.map fun _ => 1).sum = l.length := fun l => by
      induction l with
      | nil => rfl
      | cons a r ih => rw [List.map_cons, List.sum_cons, ih, List.length_cons]; omega
    refine ⟨_, D, cs.map oneC, rfl, rfl, .inl (.inl (.inl e2)), ?_, ?_⟩
    · rw [e0, sum, List.length_map]
      show cs.length + cs.length * 0 ≤ _
      omega
    · refine q _ H2 ⟨?_, fun c hc => ?_⟩ (g1.trans g2) L2
      · have z := congrArg List.length (word_cps cs)
        rw [Array.length_toList] at z
        show (Txt.join "" (cs.map oneC)).cps.size ≤ 200
        omega
      · have hc2 : c ∈ (Txt.join "" (cs.map oneC)).cps.toList := hc
        rw [word_cps] at hc2
        exact ok c hc2
/-! _law_number -/
def spNumber (K : PySem.W.Frag) : Sp := fun vs H Q _ => ∃ (S nl : Addr), vs = [.ref S] ∧ Lw K S nl H ∧ OutV K S nl H Q .int
theorem sc_u_law_number : FnScope ["_law_state", "_law_choice"] ["_law_state"] (defScope s_u_law_number) := ⟨rfl, rfl, rfl, by decide +kernel, rfl, by decide +kernel, by decide +kernel⟩
theorem ok_u_law_number (T : Cn w K mg base) : C8.Cal P w K mg base 2 "_law_number" (spNumber K) [] := by
  refine T.cal (i := 50) (d := d_u_law_number) (k := 1) rfl rfl (by decide +kernel) rfl rfl sc_u_law_number (fun _ _ _ _ _ _ us hl => match us, hl with | [_], _ => rfl) (fun vs H Q E h => ?_) (fun cdv A outer s H vs Q E hr hcd h => ?_)
  · obtain ⟨_, _, rfl, _⟩ := h
    rfl
  obtain ⟨S, nl, rfl, L, q⟩ := h
  have c1 := ok_u_law_next (P := P) T
  refine ⟨_, (pss_cons (ps_set (i := 1) sc_u_law_number.nd rfl (Or.inl rfl) (C8.pe_c c1 hr (by omega) rfl (pa_cons (pv 0) (pa_cons pe_int pa_nil))))
  (pss_cons (ps_if (pt_cmpR op_eq (pv 1) pe_int (nomark _))
  (pss_one (ps_ret (pe_ix ix_list (pe_lst (pa_cons (pe_op op_sub (pe_op op_pow pe_int pe_int) pe_int) (pa_cons (pe_op op_sub pe_int (pe_op op_pow pe_int pe_int)) (pa_cons (pe_op op_pow pe_int pe_int) (pa_cons (pe_op op_sub pe_int (pe_op op_pow pe_int pe_int)) (pa_cons (pe_op op_pow pe_int pe_int) pa_nil)))))) (C8.pe_c c1 hr (by omega) rfl (pa_cons (pv 0) (pa_cons pe_int pa_nil))) (fun _ _ => rfl))))
  pss_nil)
  (pss_cons (ps_if (pt_cmpR op_eq (pv 1) pe_int (nomark _))
  (pss_one (ps_ret (pe_op op_sub (pe_op op_mul (C8.pe_c c1 hr (by omega) rfl (pa_cons (pv 0) (pa_cons (pe_op op_shl pe_int pe_int) pa_nil))) (C8.pe_c c1 hr (by omega) rfl (pa_cons (pv 0) (pa_cons (pe_op op_shl pe_int pe_int) pa_nil)))) (pe_op op_shl pe_int pe_int))))
  pss_nil)
  (pss_one (ps_ret (pe_op op_sub (C8.pe_c c1 hr (by omega) rfl (pa_cons (pv 0) (pa_cons pe_int pa_nil))) pe_int)))))), ?_⟩
  refine ⟨_, rfl, S, nl, 9, rfl, by decide, L, fun r H1 r0 r1 g1 L1 => ?_⟩
  have c30 : CPow 10 30 := ⟨by decide, by decide, by decide⟩
  have c15 : CPow 10 15 := ⟨by decide, by decide, by decide⟩
  have c29 : CPow 10 29 := ⟨by decide, by decide, by decide⟩
  refine ⟨_, rfl, rfl, _, rfl, iteD (fun _ => ?_) (fun _ => ?_)⟩
  · refine ⟨_, _, rfl, rfl, c30, _, _, rfl, rfl, _, _, rfl, rfl, c30, _, _, rfl, rfl, _, _, rfl, rfl, c15, _, _, rfl, rfl, c15, _, _, rfl, rfl, _, _, rfl, rfl, c29, Nat.le_of_lt (small (show 5 ≤ 1000 by decide)), fun l hl => ?_⟩
    have s2 := Same.new (o := HO.lst [.int (10 ^ Int.toNat 30 - 1), .int (1 - 10 ^ Int.toNat 30), .int (10 ^ Int.toNat 15), .int (0 - 10 ^ Int.toNat 15), .int (10 ^ Int.toNat 29)]) hl
    refine ⟨_, rfl, S, nl, 5, rfl, by decide, L1.same s2, fun x H2 x0 x1 g2 L2 => ?_⟩
    have e2 := g2 _ _ (L1.ne hl).1 upd_same rfl
    have gg := g1.trans ((Same.gx s2).trans g2)
    have hx : x = 0 ∨ x = 1 ∨ x = 2 ∨ x = 3 ∨ x = 4 := by omega
    rcases hx with rfl | rfl | rfl | rfl | rfl
    · exact ⟨l, _, _, _, rfl, rfl, .inl (.inl e2), at_of (j := 0) rfl rfl, q _ H2 (show _ ∧ _ by decide) gg L2⟩
    · exact ⟨l, _, _, _, rfl, rfl, .inl (.inl e2), at_of (j := 1) rfl rfl, q _ H2 (show _ ∧ _ by decide) gg L2⟩
    · exact ⟨l, _, _, _, rfl, rfl, .inl (.inl e2), at_of (j := 2) rfl rfl, q _ H2 (show _ ∧ _ by decide) gg L2⟩
    · exact ⟨l, _, _, _, rfl, rfl, .inl (.inl e2), at_of (j := 3) rfl rfl, q _ H2 (show _ ∧ _ by decide) gg L2⟩
    · exact ⟨l, _, _, _, rfl, rfl, .inl (.inl e2), at_of (j := 4) rfl rfl, q _ H2 (show _ ∧ _ by decide) gg L2⟩
  have c20 : CPow 1 20 := ⟨by decide, by decide, by decide⟩
  have c39 : CPow 1 39 := ⟨by decide, by decide, by decide⟩
  have e20 : (1 : Int) * 2 ^ Int.toNat 20 = 1048576 := by decide
  have e39 : (1 : Int) * 2 ^ Int.toNat 39 = 549755813888 := by decide
  refine ⟨_, rfl, rfl, _, rfl, iteD (fun _ => ?_) (fun _ => ?_)⟩
  · refine ⟨_, rfl, _, _, rfl, rfl, c20, S, nl, 1 * 2 ^ Int.toNat 20, rfl, by decide, L1, fun x H2 x0 x1 g2 L2 => ?_⟩
    refine ⟨_, rfl, _, _, rfl, rfl, c20, S, nl, 1 * 2 ^ Int.toNat 20, rfl, by decide, L2, fun y H3 y0 y1 g3 L3 => ?_⟩
    rw [e20] at x1 y1
    have m0 : 0 ≤ x * y := Int.mul_nonneg x0 y0
    have m1 : x * y ≤ 1048576 * 1048576 := Int.mul_le_mul (by omega) (by omega) y0 (by decide)
    refine ⟨_, _, rfl, rfl, .inl ⟨by omega, by omega⟩, _, _, rfl, rfl, c39, _, _, rfl, rfl, q _ H3 ?_ (g1.trans (g2.trans g3)) L3⟩
    rw [e39]
    show -(10 ^ 30) < x * y - 549755813888 ∧ x * y - 549755813888 < 10 ^ 30
    omega
  · refine ⟨_, rfl, S, nl, 13, rfl, by decide, L1, fun x H2 x0 x1 g2 L2 => ⟨_, _, rfl, rfl, q _ H2 ?_ (g1.trans g2) L2⟩⟩
    show -(10 ^ 30) < x - 6 ∧ x - 6 < 10 ^ 30
    omega
/-! _law_thing -/
def spThing (K : PySem.W.Frag) : Sp := fun vs H Q _ => ∃ (S nl : Addr) (k : Kd), vs = [.ref S, .str k.s] ∧ Lw K S nl H ∧ OutV K S nl H Q k
theorem sc_u_law_thing : FnScope ["_law_state", "_law_kind"] ["_law_state", "_law_kind"] (defScope s_u_law_thing) := ⟨rfl, rfl, rfl, by decide +kernel, rfl, by decide +kernel, by decide +kernel⟩
theorem ok_u_law_thing (T : Cn w K mg base) : C8.Cal P w K mg base 3 "_law_thing" (spThing K) [] := by
  refine T.cal (i := 51) (d := d_u_law_thing) (k := 2) rfl rfl (by decide +kernel) rfl rfl sc_u_law_thing (fun _ _ _ _ _ _ us hl => match us, hl with | [_, _], _ => rfl) (fun vs H Q E h => ?_) (fun cdv A outer s H vs Q E hr hcd h => ?_)
  · obtain ⟨_, _, _, rfl, _⟩ := h
    rfl
  obtain ⟨S, nl, k, rfl, L, q⟩ := h
  have c1 := ok_u_law_next (P := P) T
  have c2 := ok_u_law_number (P := P) T
  have c3 := ok_u_law_word (P := P) T
  refine ⟨_, (pss_cons (ps_if (pt_cmpR op_eq (pv 1) pe_str (nomark _))
  (pss_one (ps_ret (C8.pe_c c2 hr (by omega) rfl (pa_cons (pv 0) pa_nil))))
  pss_nil)
  (pss_cons (ps_if (pt_cmpR op_eq (pv 1) pe_str (nomark _))
  (pss_one (ps_ret (pe_cmpR op_eq (C8.pe_c c1 hr (by omega) rfl (pa_cons (pv 0) (pa_cons pe_int pa_nil))) pe_int (nomark _))))
  pss_nil)
  (pss_cons (ps_if (pt_cmpR op_eq (C8.pe_c c1 hr (by omega) rfl (pa_cons (pv 0) (pa_cons pe_int pa_nil))) pe_int (nomark _))
  (pss_one (ps_ret (pe_op op_repS (pe_ix ix_list (pe_lst (pa_cons pe_str (pa_cons pe_str (pa_cons pe_str pa_nil)))) (C8.pe_c c1 hr (by omega) rfl (pa_cons (pv 0) (pa_cons pe_int pa_nil))) (fun _ _ => rfl)) (pe_ix ix_list (pe_lst (pa_cons pe_int (pa_cons pe_int (pa_cons pe_int pa_nil)))) (C8.pe_c c1 hr (by omega) rfl (pa_cons (pv 0) (pa_cons pe_int pa_nil))) (fun _ _ => rfl)))))
  pss_nil)
  (pss_one (ps_ret (C8.pe_c c3 hr (by omega) rfl (pa_cons (pv 0) pa_nil))))))), ?_⟩
  cases k with
  | int =>
    refine ⟨_, rfl, rfl, _, rfl, iteD (fun _ => ?_) (fun h => absurd rfl h)⟩
    exact ⟨_, rfl, S, nl, rfl, L, q⟩
  | flag =>
    refine ⟨_, rfl, rfl, _, rfl, iteD (fun h => absurd h (by decide +kernel)) (fun _ => ?_)⟩
    refine ⟨_, rfl, rfl, _, rfl, iteD (fun _ => ?_) (fun h => absurd rfl h)⟩
    exact ⟨_, rfl, S, nl, 2, rfl, by decide, L, fun x H2 x0 x1 g2 L2 => ⟨rfl, q _ H2 trivial g2 L2⟩⟩
  | text =>
    refine ⟨_, rfl, rfl, _, rfl, iteD (fun h => absurd h (by decide +kernel)) (fun _ => ?_)⟩
    refine ⟨_, rfl, rfl, _, rfl, iteD (fun h => absurd h (by decide +kernel)) (fun _ => ?_)⟩
    refine ⟨_, rfl, S, nl, 12, rfl, by decide, L, fun r H1 r0 r1 g1 L1 => ⟨rfl, _, rfl, iteD (fun _ => ?_) (fun _ => ?_)⟩⟩
    · refine ⟨sz3, fun l hl => ?_⟩
      have s2 := Same.new (o := HO.lst [.str "~", .str "ab", .str " "]) hl
      refine ⟨_, rfl, S, nl, 3, rfl, by decide, L1.same s2, fun x H2 x0 x1 g2 L2 => ?_⟩
      have e2 := g2 _ _ (L1.ne hl).1 upd_same rfl
      have gg := g1.trans ((Same.gx s2).trans g2)
      have tail : ∀ z : Str, z.length ≤ 1000 → repB z 100 = true → repB z 99 = true → repB z 60 = true → (tOp (rIxL K) (tLst (tCons (tC (.int 100)) (tCons (tC (.int 99)) (tCons (tC (.int 60)) tNil)))) (tCall (spNext K) [] C8.E0 (tCons (tVar 0) (tCons (tC (V.int 3)) tNil)))) ([some (V.ref S), some (.str Kd.text.s)] : List (Option V)) H2 (fun y H3 => rRepS (.str z) y H3 Q) := fun z hz h1 h2 h3 => by
        refine ⟨sz3, fun l3 hl3 => ?_⟩
        have s3 := Same.new (o := HO.lst [.int 100, .int 99, .int 60]) hl3
        refine ⟨_, rfl, S, nl, 3, rfl, by decide, L2.same s3, fun y H4 y0 y1 g4 L4 => ?_⟩
        have e4 := g4 _ _ (L2.ne hl3).1 upd_same rfl
        have g5 := gg.trans ((Same.gx s3).trans g4)
        have hy : y = 0 ∨ y = 1 ∨ y = 2 := by omega
        rcases hy with rfl | rfl | rfl
        · exact ⟨l3, _, _, _, rfl, rfl, .inl (.inl e4), at_of (j := 0) rfl rfl, z, 100, rfl, rfl, hz, by decide, by decide, q _ H4 (repB_ok h1) g5 L4⟩
        · exact ⟨l3, _, _, _, rfl, rfl, .inl (.inl e4), at_of (j := 1) rfl rfl, z, 99, rfl, rfl, hz, by decide, by decide, q _ H4 (repB_ok h2) g5 L4⟩
        · exact ⟨l3, _, _, _, rfl, rfl, .inl (.inl e4), at_of (j := 2) rfl rfl, z, 60, rfl, rfl, hz, by decide, by decide, q _ H4 (repB_ok h3) g5 L4⟩
      have hx : x = 0 ∨ x = 1 ∨ x = 2 := by omega
      rcases hx with rfl | rfl | rfl
      · exact ⟨l, _, _, _, rfl, rfl, .inl (.inl e2), at_of (j := 0) rfl rfl, tail "~" (by decide +kernel) (by decide +kernel) (by decide +kernel) (by decide +kernel)⟩
      · exact ⟨l, _, _, _, rfl, rfl, .inl (.inl e2), at_of (j := 1) rfl rfl, tail "ab" (by decide +kernel) (by decide +kernel) (by decide +kernel) (by decide +kernel)⟩
      · exact ⟨l, _, _, _, rfl, rfl, .inl (.inl e2), at_of (j := 2) rfl rfl, tail " " (by decide +kernel) (by decide +kernel) (by decide +kernel) (by decide +kernel)⟩
    · exact ⟨_, rfl, S, nl, rfl, L1, fun v H' hv g L' => q v H' hv (g1.trans g) L'⟩
end
end Ms
namespace Ms
open PySem PySem.Spec PyProof.Rows L2
theorem Gs.dim {H H' : Hp} {v : V} {d : Str × Int × Int × Int} (g : Gs H H') (h : DimAt H v d) : DimAt H' v d := by
  obtain ⟨t, e, z⟩ := h
  exact ⟨t, e, g _ _ z rfl⟩
theorem Gs.att {H H' : Hp} {v : V} {d : Str × Kd} (g : Gs H H') (h : AttrAt H v d) : AttrAt H' v d := by
  obtain ⟨t, e, z⟩ := h
  exact ⟨t, e, g _ _ z rfl⟩
structure GoodSh (sh : Shp) : Prop where
  dl : 0 < sh.dims.length ∧ sh.dims.length ≤ 3
  al : 0 < sh.attrs.length ∧ sh.attrs.length ≤ 4
  db : ∀ d ∈ sh.dims, -100 ≤ d.2.1 ∧ d.2.1 ≤ d.2.2.1 ∧ d.2.2.1 ≤ 100
  dn : ∀ (i : Nat) (d : Str × Int × Int × Int), sh.dims[i]? = some d → sh.dix d.1 = some i
  an : ∀ (i : Nat) (a : Str × Kd), sh.attrs[i]? = some a → sh.aix a.1 = some i
section
variable {P : Program} {w : World} {K : PySem.W.Frag} {mg : Str → Option Value} {base : Heap}
theorem Lw.gs {S nl : Addr} {H H' : Hp} (l : Lw K S nl H) (g : Gx S H H') : Gs H H' := (l.gr g).gs
/-! _law_place -/
def spPlace (K : PySem.W.Frag) : Sp := fun vs H Q _ => ∃ (S nl d : Addr) (ds : List V) (dims : List (Str × Int × Int × Int)), vs = [.ref S, .ref d] ∧ Lw K S nl H ∧ SqT K H d ds ∧ Paired (DimAt H) ds dims ∧ dims.length ≤ 3 ∧ (∀ d ∈ dims, -100 ≤ d.2.1 ∧ d.2.1 ≤ d.2.2.1 ∧ d.2.2.1 ≤ 100) ∧
  ∀ t H' (ps : List Int), Gx S H H' → Lw K S nl H' → H' t = some (.tup (ps.map V.int)) → ps.length = dims.length → (∀ i ∈ ps, Bd i) → Q (.ref t) H'
theorem sc_u_law_place : FnScope ["_law_state", "_law_dims", "_law_name", "_law_low", "_law_high", "_law_step"] ["_law_state", "_law_dims"] (defScope s_u_law_place) := ⟨rfl, rfl, rfl, by decide +kernel, rfl, by decide +kernel, by decide +kernel⟩
theorem ok_u_law_place (T : Cn w K mg base) : C8.Cal P w K mg base 2 "_law_place" (spPlace K) [] := by
  refine T.cal (i := 53) (d := d_u_law_place) (k := 1) rfl rfl (by decide +kernel) rfl rfl sc_u_law_place (fun _ _ _ _ _ _ us hl => match us, hl with | [_, _], _ => rfl) (fun vs H Q E h => ?_) (fun cdv A outer s H vs Q E hr hcd h => ?_)
  · obtain ⟨_, _, _, _, _, rfl, _⟩ := h
    rfl
  obtain ⟨S, nl, d, ds, dims, rfl, L, hd, hp, h3, hb, q⟩ := h
  have c1 := ok_u_law_next (P := P) T
  refine ⟨_, (pss_one (ps_ret (pe_callTy call_tuple_of (by rfl) (T.fre "tuple" (by decide +kernel)) (by decide +kernel) (pa_cons (pe_lc (own := [("_law_name", 2), ("_law_low", 3), ("_law_high", 4), ("_law_step", 5)]) (g := gTup K 4 (gCons (gName 2) (gCons (gName 3) (gCons (gName 4) (gCons (gName 5) gNil))))) (by rfl) sc_u_law_place.nd (pi_tup (pv 1)) (blkOk_by (own := [("_law_name", 2), ("_law_low", 3), ("_law_high", 4), ("_law_step", 5)]) (N := ["_law_state", "_law_dims", "_law_name", "_law_low", "_law_high", "_law_step"]) (sc := defScope s_u_law_place) (by decide +kernel)) (fun _ _ _ _ _ => (pg_tup (by rfl) (pgs_cons (pg_name (i := 2) sc_u_law_place.nd rfl (Or.inl rfl)) (pgs_cons (pg_name (i := 3) sc_u_law_place.nd rfl (Or.inl rfl)) (pgs_cons (pg_name (i := 4) sc_u_law_place.nd rfl (Or.inl rfl)) (pgs_cons (pg_name (i := 5) sc_u_law_place.nd rfl (Or.inl rfl)) pgs_nil)))))) (fun _ _ _ _ _ => pts_nil) (fun _ _ _ _ _ => (pe_op op_add (pv 3) (C8.pe_c c1 hr (by omega) rfl (pa_cons (pv 0) (pa_cons (pe_op op_add (pe_op op_sub (pv 4) (pv 3)) pe_int) pa_nil)))))) pa_nil)))), ?_⟩
  have ld : ds.length = dims.length := Paired.len hp
  refine ⟨_, rfl, d, rfl, ⟨_, hd⟩, fun D hD => ?_⟩
  obtain ⟨dS, dn⟩ := L.ne hD
  have s0 := Same.new (o := HO.lst []) hD
  refine lc_tup (K := K) (a := d) (xs := ds) (fun i H' => Gx S H H' ∧ Lw K S nl H' ∧ ∃ ps : List Int, H' D = some (.lst (ps.map V.int)) ∧ ps.length = i ∧ ∀ z ∈ ps, Bd z) ⟨Same.gx s0, L.same s0, [], upd_same, rfl, fun c hc => by cases hc⟩ (fun i H2 hi hP => (L.gs hP.1).tupl hd) (fun i x H2 hi hP => ?_) (fun H2 hP => ?_)
  · obtain ⟨g2, L2, ps, e2, hl, ok⟩ := hP
    obtain ⟨dm, em, t, rfl, ht⟩ := paired_get hp hi
    obtain ⟨b1, b2, b3⟩ := hb dm (List.mem_of_getElem? em)
    have ht2 := (L.gs g2) _ _ ht rfl
    have lt : i < dims.length := (List.getElem?_eq_some_iff.mp em).1
    refine ⟨_, _, rfl, .inl (.inl ht2), rfl, _, _, rfl, _, _, rfl, _, _, rfl, _, _, rfl, rfl, rfl, _, rfl, _, rfl, _, rfl, _, rfl, _, _, rfl, rfl, _, _, rfl, rfl, S, nl, _, rfl, by omega, L2, fun r H3 r0 r1 g3 L3 => ?_⟩
    have e3 := g3 _ _ dS e2 rfl
    refine ⟨_, _, rfl, rfl, _, e3, small (by rw [List.length_map]; omega), Gx.putn (g2.trans g3) hD, L3.putl e3 dn, ps ++ [dm.2.1 + r], ?_, by rw [List.length_append, hl]; rfl, fun z hz => ?_⟩
    · rw [upd_same, List.map_append]
      rfl
    · rcases List.mem_append.mp hz with z1 | z1
      · exact ok z z1
      · rw [List.mem_singleton.mp z1]
        exact ⟨by omega, by omega⟩
  · obtain ⟨g2, L2, ps, e2, hl, ok⟩ := hP
    refine ⟨D, _, rfl, .inl ⟨.inl (.inl e2), fun t ht => ?_⟩⟩
    have s3 := Same.new (o := HO.tup (ps.map V.int)) ht
    exact q t _ ps (g2.trans (Same.gx s3)) (L2.same s3) upd_same (by rw [hl, ld]) ok
/-! _law_values -/
def spValues (K : PySem.W.Frag) : Sp := fun vs H Q _ => ∃ (S nl a : Addr) (as : List V) (attrs : List (Str × Kd)) (f : Int), vs = [.ref S, .ref a, .int f] ∧ Lw K S nl H ∧ SqT K H a as ∧ Paired (AttrAt H) as attrs ∧ attrs.length ≤ 4 ∧ 0 < f ∧
  ∀ t H' (us : List V), Gx S H H' → Lw K S nl H' → H' t = some (.tup us) → us.length = attrs.length → (∀ (i : Nat) (n : Str) (k : Kd), attrs[i]? = some (n, k) → ∃ v, us[i]? = some v ∧ IsO k v) → Q (.ref t) H'
theorem sc_u_law_values : FnScope ["_law_state", "_law_attrs", "_law_few", "_law_values_here", "_law_name", "_law_kind", "_law_value"] ["_law_state", "_law_attrs", "_law_few"] (defScope s_u_law_values) := ⟨rfl, rfl, rfl, by decide +kernel, rfl, by decide +kernel, by decide +kernel⟩
theorem ok_u_law_values (T : Cn w K mg base) : C8.Cal P w K mg base 4 "_law_values" (spValues K) [] := by
  refine T.cal (i := 54) (d := d_u_law_values) (k := 3) rfl rfl (by decide +kernel) rfl rfl sc_u_law_values (fun _ _ _ _ _ _ us hl => match us, hl with | [_, _, _], _ => rfl) (fun vs H Q E h => ?_) (fun cdv A outer s H vs Q E hr hcd h => ?_)
  · obtain ⟨_, _, _, _, _, _, rfl, _⟩ := h
    rfl
  obtain ⟨S, nl, a, as, attrs, f, rfl, L, ha, hp, h4, hf, q⟩ := h
  have c1 := ok_u_law_next (P := P) T
  have c2 := ok_u_law_thing (P := P) T
  refine ⟨_, (pss_cons (ps_set (i := 3) sc_u_law_values.nd rfl (Or.inl rfl) (pe_lst pa_nil))
  (pss_cons (ps_for PassesOwn.never rfl (pi_tup (pv 1)) (pg_tup (by rfl) (pgs_cons (pg_name (i := 4) sc_u_law_values.nd rfl (Or.inl rfl)) (pgs_cons (pg_name (i := 5) sc_u_law_values.nd rfl (Or.inl rfl)) pgs_nil)))
  (pss_cons (ps_set (i := 6) sc_u_law_values.nd rfl (Or.inl rfl) pe_non)
  (C8.pss_cut (ps_if (pt_cmpR op_gt (C8.pe_c c1 hr (by omega) rfl (pa_cons (pv 0) (pa_cons (pv 2) pa_nil))) pe_int (nomark _))
  (pss_one (ps_set (i := 6) sc_u_law_values.nd rfl (Or.inl rfl) (C8.pe_c c2 hr (by omega) rfl (pa_cons (pv 0) (pa_cons (pv 5) pa_nil)))))
  pss_nil)
  (pss_one (ps_expr (pe_bm PySem.F.plainAttrs_list PySem.F.slot_list_append PySem.F.type_list_append mt_append (pv 3) (pa_cons (pv 6) pa_nil)))))))
  (pss_one (ps_ret (pe_callTy call_tuple_of (by rfl) (T.fre "tuple" (by decide +kernel)) (by decide +kernel) (pa_cons (pv 3) pa_nil)))))), ?_⟩
  have la : as.length = attrs.length := Paired.len hp
  refine ⟨by decide, fun l hl => ?_⟩
  obtain ⟨dS, dn⟩ := L.ne hl
  have s0 := Same.new (o := HO.lst []) hl
  refine ⟨_, rfl, a, rfl, ⟨_, (Same.gr s0).tupl ha⟩, ?_⟩
  refine for_it (walk_tup (K := K) (a := a) (xs := as)) (fun i σ H' => (∃ o1 o2 o3, σ = [some (.ref S), some (.ref a), some (.int f), some (.ref l), o1, o2, o3]) ∧ Gx S H H' ∧ Lw K S nl H' ∧ ∃ us : List V, H' l = some (.lst us) ∧ us.length = i ∧ ∀ (j : Nat) (n : Str) (k : Kd), j < i → attrs[j]? = some (n, k) → ∃ v, us[j]? = some v ∧ IsO k v) ?_ (fun i σ H2 hi hP => (L.gs hP.2.1).tupl ha) (fun i x σ H2 H3 hi hP hY => ?_) (fun σ H2 hP => ?_)
  · exact ⟨⟨_, _, _, rfl⟩, Same.gx s0, L.same s0, [], upd_same, rfl, fun j n k hj => absurd hj (Nat.not_lt_zero j)⟩
  · obtain ⟨⟨o1, o2, o3, rfl⟩, g2, L2, us, e2, hu, ok⟩ := hP
    obtain ⟨rfl, hx⟩ := hY
    obtain ⟨⟨n, k⟩, em, t, rfl, ht⟩ := paired_get hp hx
    have ht2 := (L.gs g2) _ _ ht rfl
    have lt : i < attrs.length := (List.getElem?_eq_some_iff.mp em).1
    refine ⟨_, _, rfl, .inl (.inl ht2), rfl, _, _, rfl, _, _, rfl, rfl, ?_⟩
    refine ⟨fun σ' H' => ∃ v, IsO k v ∧ σ' = [some (.ref S), some (.ref a), some (.int f), some (.ref l), some (.str n), some (.str k.s), some v] ∧ Gx S H3 H' ∧ Lw K S nl H', ?_, ?_⟩
    · refine ⟨_, rfl, _, rfl, S, nl, f, rfl, hf, L2, fun r H4 r0 r1 g4 L4 => ⟨_, _, rfl, rfl, _, rfl, iteD (fun _ => ?_) (fun _ => ?_)⟩⟩
      · exact ⟨_, rfl, _, rfl, S, nl, k, rfl, L4, fun v H5 hv g5 L5 => ⟨v, .inr hv, rfl, g4.trans g5, L5⟩⟩
      · exact ⟨_, .inl rfl, rfl, g4, L4⟩
    rintro σ4 H4 ⟨v, hv, rfl, g4, L4⟩
    have e4 := g4 _ _ dS e2 rfl
    refine ⟨_, rfl, .inl ⟨rfl, _, .inl (.inl e4)⟩, _, rfl, l, us, v, rfl, rfl, e4, small (by omega), ⟨_, _, _, rfl⟩, Gx.putn (g2.trans g4) hl, L4.putl e4 dn, us ++ [v], upd_same, by rw [List.length_append, hu]; rfl, fun j n' k' hj h => ?_⟩
    by_cases ej : j < i
    · obtain ⟨v', f1, f2⟩ := ok j n' k' ej h
      exact ⟨v', by rw [List.getElem?_append_left (by omega)]; exact f1, f2⟩
    · have ej2 : j = i := by omega
      subst ej2
      rw [em] at h
      cases h
      exact ⟨v, by rw [List.getElem?_append_right (by omega), hu, Nat.sub_self]; rfl, hv⟩
  · obtain ⟨⟨o1, o2, o3, rfl⟩, g2, L2, us, e2, hu, ok⟩ := hP
    refine ⟨_, rfl, l, us, rfl, .inl ⟨.inl (.inl e2), fun t ht => ?_⟩⟩
    have s3 := Same.new (o := HO.tup us) ht
    refine q t _ us (g2.trans (Same.gx s3)) (L2.same s3) upd_same (by rw [hu, la]) fun i n k h => ok i n k ?_ h
    rw [la]
    exact (List.getElem?_eq_some_iff.mp h).1
end
end Ms
namespace Ms
open PySem PySem.Spec PyProof.Rows L2
theorem Gx.putm {S D : Addr} {H H3 H5 : Hp} {o : HO} (g0 : Gx S H H3) (h : H3 D = none) (g : Gx S H H5) : Gx S H (upd H5 D o) := fun b u n e z => by
  have hb : b ≠ D := fun q => by
    have y := g0 b u n e z
    rw [q, h] at y
    cases y
  rw [upd_ne hb]
  exact g b u n e z
def xyz : List Str := ["x", "y", "z"]
def abcd : List Str := ["a", "b", "c", "d"]
def k4 : List Kd := [.int, .flag, .text, .int]
theorem ix_take {ns : List Str} {n : Nat} (h : (List.range (ns.length + 1)).all (fun n => (List.range n).all fun i => decide (ixOf (ns.take n) ((ns.take n).getD i "") = some i)) = true) (hn : n ≤ ns.length) {i : Nat} {m : Str} (e : (ns.take n)[i]? = some m) : ixOf (ns.take n) m = some i := by
  have h1 := List.all_eq_true.mp h n (List.mem_range.mpr (by omega))
  have lt : i < n := by
    have z := (List.getElem?_eq_some_iff.mp e).1
    rw [List.length_take] at z
    omega
  have h2 := of_decide_eq_true (List.all_eq_true.mp h1 i (List.mem_range.mpr lt))
  rw [List.getD_eq_getElem?_getD, e] at h2
  exact h2
section
variable {P : Program} {w : World} {K : PySem.W.Frag} {mg : Str → Option Value} {base : Heap}
/-! _law_shape -/
def spShp (K : PySem.W.Frag) : Sp := fun vs H Q _ => ∃ (S nl : Addr), vs = [.ref S] ∧ Lw K S nl H ∧ ∀ p sh H', Gx S H H' → Lw K S nl H' → ShAt (shC K) H' p sh → GoodSh sh → Q (.ref p) H'
theorem sc_u_law_shape : FnScope ["_law_state", "_law_dims", "_law_name", "_law_low", "_law_attrs", "_law_k"] ["_law_state"] (defScope s_u_law_shape) := ⟨rfl, rfl, rfl, by decide +kernel, rfl, by decide +kernel, by decide +kernel⟩
theorem ok_u_law_shape (T : Cn w K mg base) : C8.Cal P w K mg base 3 "_law_shape" (spShp K) [] := by
  refine T.cal (i := 52) (d := d_u_law_shape) (k := 2) rfl rfl (by decide +kernel) rfl rfl sc_u_law_shape (fun _ _ _ _ _ _ us hl => match us, hl with | [_], _ => rfl) (fun vs H Q E h => ?_) (fun cdv A outer s H vs Q E hr hcd h => ?_)
  · obtain ⟨_, _, rfl, _⟩ := h
    rfl
  obtain ⟨S, nl, rfl, L, q⟩ := h
  have c1 := ok_u_law_next (P := P) T
  have c2 := mk_Shape (P := P) T
  refine ⟨_, (pss_cons (ps_set (i := 1) sc_u_law_shape.nd rfl (Or.inl rfl) (pe_lst pa_nil))
  (pss_cons (ps_for PassesOwn.never rfl (pi_list (pe_slice sl_list (pe_lst (pa_cons pe_str (pa_cons pe_str (pa_cons pe_str pa_nil)))) po_none (po_some (pe_op op_add pe_int (C8.pe_c c1 hr (by omega) rfl (pa_cons (pv 0) (pa_cons pe_int pa_nil))))))) (pg_name (i := 2) sc_u_law_shape.nd rfl (Or.inl rfl))
  (pss_cons (ps_set (i := 3) sc_u_law_shape.nd rfl (Or.inl rfl) (pe_op op_sub (C8.pe_c c1 hr (by omega) rfl (pa_cons (pv 0) (pa_cons pe_int pa_nil))) pe_int))
  (pss_one (ps_expr (pe_bm PySem.F.plainAttrs_list PySem.F.slot_list_append PySem.F.type_list_append mt_append (pv 1) (pa_cons (pe_tup (pa_cons (pv 2) (pa_cons (pv 3) (pa_cons (pe_op op_add (pv 3) (C8.pe_c c1 hr (by omega) rfl (pa_cons (pv 0) (pa_cons pe_int pa_nil)))) (pa_cons (pe_op op_add pe_int (C8.pe_c c1 hr (by omega) rfl (pa_cons (pv 0) (pa_cons pe_int pa_nil)))) pa_nil))))) pa_nil))))))
  (pss_cons (ps_set (i := 4) sc_u_law_shape.nd rfl (Or.inl rfl) (pe_lst pa_nil))
  (pss_cons (ps_for PassesOwn.never rfl (pi_range1 (by rfl) (T.fre "range" (by decide +kernel)) (pa_cons (pe_op op_add pe_int (C8.pe_c c1 hr (by omega) rfl (pa_cons (pv 0) (pa_cons pe_int pa_nil)))) pa_nil)) (pg_name (i := 5) sc_u_law_shape.nd rfl (Or.inl rfl))
  (pss_one (ps_expr (pe_bm PySem.F.plainAttrs_list PySem.F.slot_list_append PySem.F.type_list_append mt_append (pv 4) (pa_cons (pe_tup (pa_cons (pe_ix ix_list (pe_lst (pa_cons pe_str (pa_cons pe_str (pa_cons pe_str (pa_cons pe_str pa_nil))))) (pv 5) (fun _ _ => rfl)) (pa_cons (pe_ix ix_list (pe_lst (pa_cons pe_str (pa_cons pe_str (pa_cons pe_str (pa_cons pe_str pa_nil))))) (pe_op op_modN (pe_callTy call_int1 (by rfl) (T.fre "int" (by decide +kernel)) (by decide +kernel) (pa_cons (pe_op op_add (pv 5) (C8.pe_c c1 hr (by omega) rfl (pa_cons (pv 0) (pa_cons pe_int pa_nil)))) pa_nil)) pe_int) (fun _ _ => rfl)) pa_nil))) pa_nil)))))
  (pss_one (ps_ret (C8.pe_mk c2 hr (by omega) rfl (pa_cons (pe_callTy call_tuple_of (by rfl) (T.fre "tuple" (by decide +kernel)) (by decide +kernel) (pa_cons (pv 1) pa_nil)) (pa_cons (pe_callTy call_tuple_of (by rfl) (T.fre "tuple" (by decide +kernel)) (by decide +kernel) (pa_cons (pv 4) pa_nil)) pa_nil))))))))), ?_⟩
  refine ⟨by decide, fun l hl => ?_⟩
  obtain ⟨lS, ln⟩ := L.ne hl
  have s0 := Same.new (o := HO.lst []) hl
  have L0 := L.same s0
  refine ⟨sz3, fun b hb => ?_⟩
  have s1 := Same.new (o := HO.lst [.str "x", .str "y", .str "z"]) hb
  refine ⟨_, rfl, S, nl, 3, rfl, by decide, L0.same s1, fun r H1 r0 r1 g1 L1 => ?_⟩
  have eb := g1 _ _ (L0.ne hb).1 upd_same rfl
  have el := g1 _ _ lS (s1 _ _ upd_same) rfl
  have gg1 : Gx S H H1 := (Same.gx (s0.trans s1)).trans g1
  refine ⟨_, _, rfl, rfl, _, rfl, b, _, rfl, .inl (.inl eb), fun c hc => ?_⟩
  obtain ⟨n, en⟩ : ∃ n : Nat, r = (n : Int) ∧ n < 3 := ⟨r.toNat, by omega, by omega⟩
  obtain ⟨rfl, hn⟩ := en
  have ec : cutV [V.str "x", .str "y", .str "z"] none (some (1 + (n : Int))) = ((xyz.take (n + 1)).map V.str) := by
    have hz : n = 0 ∨ n = 1 ∨ n = 2 := by omega
    rcases hz with rfl | rfl | rfl <;> rfl
  rw [ec]
  have s2 := Same.new (o := HO.lst ((xyz.take (n + 1)).map V.str)) hc
  have lx : ((xyz.take (n + 1)).map V.str).length = n + 1 := by
    rw [List.length_map, List.length_take]
    show min (n + 1) 3 = n + 1
    omega
  refine ⟨c, rfl, ⟨_, .inl (.inl upd_same)⟩, ?_⟩
  have L2' := L1.same s2
  have elc := s2 _ _ el
  have ecc : upd H1 c (.lst ((xyz.take (n + 1)).map V.str)) c = some (.lst ((xyz.take (n + 1)).map V.str)) := upd_same
  have gg2 := gg1.trans (Same.gx s2)
  have cS := (L1.ne hc).1
  have cl : c ≠ l := fun z => by rw [z, el] at hc; cases hc
  generalize upd H1 c (.lst ((xyz.take (n + 1)).map V.str)) = H2 at L2' elc ecc gg2 ⊢
  refine for_it (walk_list (K := K) (a := c) (xs := (xyz.take (n + 1)).map V.str)) (fun i σ H' => (∃ o1 o2 o3 o4, σ = [some (.ref S), some (.ref l), o1, o2, o3, o4]) ∧ Gx S H H' ∧ Lw K S nl H' ∧ H' c = some (.lst ((xyz.take (n + 1)).map V.str)) ∧ ∃ us dims, H' l = some (.lst us) ∧ Paired (DimAt H') us dims ∧ dims.map (fun d => d.1) = xyz.take i ∧ dims.length = i ∧ ∀ d ∈ dims, -100 ≤ d.2.1 ∧ d.2.1 ≤ d.2.2.1 ∧ d.2.2.1 ≤ 100) ?_ (fun i σ H' hi hP => .inl (.inl hP.2.2.2.1)) (fun i x σ H3 H4 hi hP hY => ?_) (fun σ H3 hP => ?_)
  · exact ⟨⟨_, _, _, _, rfl⟩, gg2, L2', ecc, [], [], elc, .nil, rfl, rfl, fun d hd => by cases hd⟩
  · obtain ⟨⟨o1, o2, o3, o4, rfl⟩, g3, L3, e3c, us, dims, e3, p3, nm, dl, db⟩ := hP
    obtain ⟨rfl, hx⟩ := hY
    rw [List.getElem?_map] at hx
    have hi2 : i < n + 1 := by omega
    obtain ⟨nmx, enm, rfl⟩ : ∃ m, (xyz.take (n + 1))[i]? = some m ∧ x = V.str m := by
      cases e : (xyz.take (n + 1))[i]? with
      | none => rw [e] at hx; cases hx
      | some m => rw [e] at hx; exact ⟨m, rfl, (Option.some.inj hx).symm⟩
    have enx : xyz[i]? = some nmx := by
      rw [List.getElem?_take_of_lt hi2] at enm
      exact enm
    refine ⟨_, rfl, S, nl, 9, rfl, by decide, L3, fun lo H5 lo0 lo1 g5 L5 => ⟨_, _, rfl, rfl, ?_⟩⟩
    have e5 := g5 _ _ lS e3 rfl
    have e5c := g5 _ _ cS e3c rfl
    refine ⟨_, rfl, .inl ⟨rfl, _, .inl (.inl e5)⟩, _, rfl, _, rfl, _, rfl, _, rfl, S, nl, 6, rfl, by decide, L5, fun hi6 H6 h0 h1 g6 L6 => ⟨_, _, rfl, rfl, _, rfl, S, nl, 4, rfl, by decide, L6, fun st H7 t0 t1 g7 L7 => ⟨_, _, rfl, rfl, small (show 4 ≤ 1000 by decide) |> Nat.le_of_lt, fun z hz => ?_⟩⟩⟩
    have e7 := g7 _ _ lS (g6 _ _ lS e5 rfl) rfl
    have e7c := g7 _ _ cS (g6 _ _ cS e5c rfl) rfl
    have s8 := Same.new (o := HO.tup [.str nmx, .int (lo - 5), .int (lo - 5 + hi6), .int (1 + st)]) hz
    have e8 := s8 _ _ e7
    have l4 : us.length = i := by rw [Paired.len p3, dl]
    have gs7 : Gs H4 H7 := (L3.gs g5).trans ((L5.gs g6).trans (L6.gs g7))
    refine ⟨l, us, _, rfl, rfl, e8, small (by omega), ⟨_, _, _, _, rfl⟩, Gx.putn ((g3.trans (g5.trans (g6.trans g7))).trans (Same.gx s8)) hl, (L7.same s8).putl e8 ln, by rw [upd_ne cl]; exact s8 _ _ e7c, us ++ [.ref z], dims ++ [(nmx, lo - 5, lo - 5 + hi6, 1 + st)], upd_same, ?_, ?_, by rw [List.length_append, dl]; rfl, fun d hd => ?_⟩
    · exact Paired.mapG (fun _ _ y => (Gs.put e8 rfl).dim y) (Paired.snoc (Paired.mapG (fun _ _ y => (gs7.trans (Same.gs s8)).dim y) p3) ⟨z, rfl, upd_same⟩)
    · rw [List.map_append, nm, List.take_add_one, enx]
      rfl
    · rcases List.mem_append.mp hd with y | y
      · exact db d y
      · rw [List.mem_singleton.mp y]
        show -100 ≤ lo - 5 ∧ lo - 5 ≤ lo - 5 + hi6 ∧ lo - 5 + hi6 ≤ 100
        omega
  · obtain ⟨⟨o1, o2, o3, o4, rfl⟩, g3, L3, e3c, us, dims, e3, p3, nm, dl, db⟩ := hP
    rw [lx] at nm dl
    refine ⟨by decide, fun l2 hl2 => ?_⟩
    obtain ⟨l2S, l2n⟩ := L3.ne hl2
    have s4 := Same.new (o := HO.lst []) hl2
    have l2l : l2 ≠ l := fun z => by rw [z, e3] at hl2; cases hl2
    refine ⟨_, rfl, S, nl, 4, rfl, by decide, L3.same s4, fun r H4 r0 r1 g4 L4 => ⟨_, _, rfl, rfl, _, rfl, by omega, by omega, ?_⟩⟩
    have e4l := g4 _ _ lS (s4 _ _ e3) rfl
    have e4l2 := g4 _ _ l2S upd_same rfl
    have gs4 : Gs H3 H4 := (Same.gs s4).trans ((L3.same s4).gs g4)
    refine for_range (lo := 0) (n := (1 + r).toNat) (fun i σ H' => (∃ o1 o2 o3, σ = [some (.ref S), some (.ref l), o1, o2, some (.ref l2), o3]) ∧ Gx S H H' ∧ Lw K S nl H' ∧ H' l = some (.lst us) ∧ Paired (DimAt H') us dims ∧ ∃ vs attrs, H' l2 = some (.lst vs) ∧ Paired (AttrAt H') vs attrs ∧ attrs.map (fun d => d.1) = abcd.take i ∧ attrs.length = i) ?_ (fun i σ H5 hi hP => ?_) (fun σ H5 hP => ?_)
    · exact ⟨⟨_, _, _, rfl⟩, g3.trans ((Same.gx s4).trans g4), L4, e4l, Paired.mapG (fun _ _ y => gs4.dim y) p3, [], [], e4l2, .nil, rfl, rfl⟩
    · obtain ⟨⟨q1, q2, q3, rfl⟩, g5, L5, e5, p5, vs, attrs, e5v, p5v, an, al⟩ := hP
      have hi4 : i < 4 := by omega
      obtain ⟨nmx, enx⟩ : ∃ m, abcd[i]? = some m := ⟨abcd[i]'(by show i < 4; omega), List.getElem?_eq_getElem _⟩
      have l4 : vs.length = i := by rw [Paired.len p5v, al]
      have sz4 : 4 ≤ sizeLine := Nat.le_of_lt (small (show 4 ≤ 1000 by decide))
      refine ⟨_, rfl, .inl ⟨rfl, _, .inl (.inl e5v)⟩, sz4, fun b1 hb1 => ?_⟩
      have t1 := Same.new (o := HO.lst (abcd.map V.str)) hb1
      refine ⟨_, rfl, b1, abcd.map V.str, _, .str nmx, rfl, rfl, .inl (.inl upd_same), at_of (j := i) (by omega) (by rw [List.getElem?_map, enx]; rfl), sz4, fun b2 hb2 => ?_⟩
      have t2 := Same.new (o := HO.lst (k4.map fun k => V.str k.s)) hb2
      have L6 := (L5.same t1).same t2
      refine ⟨_, rfl, _, rfl, S, nl, 3, rfl, by decide, L6, fun x H6 x0 x1 g6 L7 => ⟨_, _, rfl, rfl, .inl ⟨_, rfl, _, _, rfl, rfl, (show (4 : Int) ≠ 0 by decide), ?_⟩⟩⟩
      have e6 := g6 _ _ ((L5.same t1).ne hb2).1 upd_same rfl
      have f1 := Int.fmod_nonneg_of_pos (0 + (i : Int) + x) (show (0 : Int) < 4 by decide)
      have f2 := Int.fmod_lt_of_pos (0 + (i : Int) + x) (show (0 : Int) < 4 by decide)
      obtain ⟨j, hj⟩ : ∃ j : Nat, (0 + (i : Int) + x).fmod 4 = (j : Int) := ⟨((0 + (i : Int) + x).fmod 4).toNat, by omega⟩
      have hj4 : j < 4 := by omega
      obtain ⟨kx, ekx⟩ : ∃ m, k4[j]? = some m := ⟨k4[j]'(by show j < 4; omega), List.getElem?_eq_getElem _⟩
      show rIxL K (.ref b2) (.int ((0 + (i : Int) + x).fmod 4)) H6 _
      rw [hj]
      refine ⟨b2, (k4.map fun k : Kd => V.str k.s), _, .str kx.s, rfl, rfl, .inl (.inl e6), at_of (j := j) rfl (by rw [List.getElem?_map, ekx]; rfl), sz2, fun z hz => ?_⟩
      have t3 := Same.new (o := HO.tup [.str nmx, .str kx.s]) hz
      have e6l := t3 _ _ (g6 _ _ lS (t2 _ _ (t1 _ _ e5)) rfl)
      have e6v := t3 _ _ (g6 _ _ l2S (t2 _ _ (t1 _ _ e5v)) rfl)
      have gs6 : Gs H5 _ := (Same.gs (t1.trans t2)).trans ((L6.gs g6).trans (Same.gs t3))
      refine ⟨l2, vs, _, rfl, rfl, e6v, small (by omega), ⟨_, _, _, rfl⟩, Gx.putm g3 hl2 ((g5.trans ((Same.gx (t1.trans t2)).trans g6)).trans (Same.gx t3)), (L7.same t3).putl e6v l2n, by rw [upd_ne (Ne.symm l2l)]; exact e6l, ?_, vs ++ [.ref z], attrs ++ [(nmx, kx)], upd_same, ?_, ?_, by rw [List.length_append, al]; rfl⟩
      · exact Paired.mapG (fun _ _ y => (gs6.trans (Gs.put e6v rfl)).dim y) p5
      · exact Paired.mapG (fun _ _ y => (Gs.put e6v rfl).att y) (Paired.snoc (Paired.mapG (fun _ _ y => gs6.att y) p5v) ⟨z, rfl, upd_same⟩)
      · rw [List.map_append, an, List.take_add_one, enx]
        rfl
    · obtain ⟨⟨q1, q2, q3, rfl⟩, g5, L5, e5, p5, vs, attrs, e5v, p5v, an, al⟩ := hP
      refine ⟨_, rfl, l, us, rfl, .inl ⟨.inl (.inl e5), fun td htd => ?_⟩⟩
      have t1 := Same.new (o := HO.tup us) htd
      refine ⟨_, rfl, l2, vs, rfl, .inl ⟨.inl (.inl (t1 _ _ e5v)), fun ta hta => ?_⟩⟩
      have t2 := Same.new (o := HO.tup vs) hta
      refine fun x dx hx hdx ne => ⟨x, dx, td, ta, rfl, upd_same, rfl, ?_⟩
      rw [upd_upd]
      have t3 : Same (upd (upd H5 td (.tup us)) ta (.tup vs)) (upd (upd (upd (upd H5 td (.tup us)) ta (.tup vs)) dx (.own x)) x (.ins (shC K) dx (shFlds td ta))) := fun b' o' e' => by
        rw [upd_ne (ne_of_none e' hx), upd_ne (ne_of_none e' hdx)]
        exact e'
      have t4 := (t1.trans t2).trans t3
      have dl2 : dims.length = n + 1 := dl
      refine q x ⟨dims, attrs⟩ _ (g5.trans (Same.gx t4)) (L5.same t4) ⟨⟨by show dims.length ≤ 16; omega, by show attrs.length ≤ 16; omega⟩, dx, td, ta, us, vs, upd_same, t3 _ _ (t2 _ _ upd_same), t3 _ _ upd_same, Paired.mapG (fun _ _ y => (Same.gs t4).dim y) p5, Paired.mapG (fun _ _ y => (Same.gs t4).att y) p5v⟩ ⟨⟨by show 0 < dims.length; omega, by show dims.length ≤ 3; omega⟩, ⟨by show 0 < attrs.length; omega, by show attrs.length ≤ 4; omega⟩, db, fun i d h => ?_, fun i a h => ?_⟩
      · show ixOf (dims.map fun d => d.1) d.1 = some i
        rw [nm]
        refine ix_take (by decide +kernel) (show n + 1 ≤ 3 by omega) ?_
        rw [← nm, List.getElem?_map, h]
        rfl
      · show ixOf (attrs.map fun d => d.1) a.1 = some i
        rw [an]
        refine ix_take (by decide +kernel) (show (1 + r).toNat ≤ 4 by omega) ?_
        rw [← an, List.getElem?_map, h]
        rfl
end
end Ms
namespace Ms
open PySem PySem.Spec PyProof.Rows L2
structure CellsW (K : PySem.W.Frag) (H : Hp) (kvs : List (List Key × V)) (sh : Shp) (cs : List (List Int × List V)) : Prop where
  kv : Paired (KvAt K H) kvs cs
  ok : ∀ c ∈ cs, CellOk sh c.1 c.2
theorem CellsW.gs {K : PySem.W.Frag} {H H' : Hp} {kvs : List (List Key × V)} {sh : Shp} {cs : List (List Int × List V)} (g : Gs H H') (h : CellsW K H kvs sh cs) : CellsW K H' kvs sh cs :=
  ⟨Paired.mapG (fun _ _ q => g.kv q) h.kv, h.ok⟩
theorem put_map {K : PySem.W.Frag} {H : Hp} {k : List Key} {v : V} {c : List Int × List V} (hc : KvAt K H (k, v) c) : ∀ {kvs : List (List Key × V)} {cs : List (List Int × List V)}, Paired (KvAt K H) kvs cs →
    ∃ cs', Paired (KvAt K H) (kvs.map fun kv => if kv.1 = k then (kv.1, v) else kv) cs' ∧ (∀ x ∈ cs', x ∈ cs ∨ x = c) ∧ cs'.length = cs.length
  | _, _, .nil => ⟨[], .nil, (fun x hx => by cases hx), rfl⟩
  | kv :: kvs, d :: cs, .cons h t => by
    obtain ⟨cs', p, m, l⟩ := put_map hc t
    by_cases e : kv.1 = k
    · refine ⟨c :: cs', ?_, fun x hx => ?_, by rw [List.length_cons, List.length_cons, l]⟩
      · rw [List.map_cons, if_pos e]
        refine .cons ?_ p
        rw [e]
        exact hc
      · rcases List.mem_cons.mp hx with z | z
        · exact .inr z
        · rcases m x z with y | y
          · exact .inl (List.mem_cons_of_mem _ y)
          · exact .inr y
    · refine ⟨d :: cs', ?_, fun x hx => ?_, by rw [List.length_cons, List.length_cons, l]⟩
      · rw [List.map_cons, if_neg e]
        exact .cons h p
      · rcases List.mem_cons.mp hx with z | z
        · exact .inl (by rw [z]; exact List.mem_cons_self)
        · rcases m x z with y | y
          · exact .inl (List.mem_cons_of_mem _ y)
          · exact .inr y
theorem put_cells {K : PySem.W.Frag} {H : Hp} {k : List Key} {v : V} {c : List Int × List V} {kvs : List (List Key × V)} {sh : Shp} {cs : List (List Int × List V)} (C : CellsW K H kvs sh cs) (hc : KvAt K H (k, v) c) (ok : CellOk sh c.1 c.2) :
    ∃ cs', CellsW K H (putK kvs k v) sh cs' ∧ cs'.length ≤ cs.length + 1 ∧ cs' ≠ [] := by
  unfold putK
  by_cases e : (kvs.any fun kv => decide (kv.1 = k)) = true
  · rw [if_pos e]
    obtain ⟨cs', p, m, l⟩ := put_map hc C.kv
    refine ⟨cs', ⟨p, fun x hx => ?_⟩, by omega, fun z => ?_⟩
    · rcases m x hx with y | y
      · exact C.ok x y
      · rw [y]; exact ok
    · obtain ⟨kv, h1, _⟩ := List.any_eq_true.mp e
      have z2 := Paired.len C.kv
      rw [z] at l
      have z3 : kvs.length = 0 := by rw [z2, ← l]; rfl
      rw [List.eq_nil_of_length_eq_zero z3] at h1
      cases h1
  · rw [if_neg e]
    refine ⟨cs ++ [c], ⟨Paired.snoc C.kv hc, fun x hx => ?_⟩, by rw [List.length_append]; exact Nat.le_refl _, by simp⟩
    rcases List.mem_append.mp hx with y | y
    · exact C.ok x y
    · rw [List.mem_singleton.mp y]; exact ok
section
variable {P : Program} {w : World} {K : PySem.W.Frag} {mg : Str → Option Value} {base : Heap}
theorem map_kV (ps : List Int) : (ps.map (Sum.inl : Int → Key)).map kV = ps.map V.int := by
  rw [List.map_map]
  rfl
theorem Lw.putd {S nl D : Addr} {H : Hp} {kvs : List (List Key × V)} {o : HO} (L : Lw K S nl H) (h : H D = some (.dT kvs)) : Lw K S nl (upd H D o) := by
  obtain ⟨a, ns, e1, e2, e3⟩ := L.st
  refine ⟨⟨a, ns, ?_, ?_, e3⟩, L.tb.put h rfl⟩
  · rw [upd_ne (fun z => by rw [z, h] at e1; cases e1)]; exact e1
  · rw [upd_ne (fun z => by rw [z, h] at e2; cases e2)]; exact e2
/-! _law_cells -/
def spCells (K : PySem.W.Frag) : Sp := fun vs H Q _ => ∃ (S nl p : Addr) (sh : Shp) (m : Int), vs = [.ref S, .ref p, .int m] ∧ Lw K S nl H ∧ ShAt (shC K) H p sh ∧ GoodSh sh ∧ 0 ≤ m ∧ m ≤ 10 ∧
  ∀ D H' kvs cs, Gx S H H' → Lw K S nl H' → H' D = some (.dT kvs) → CellsW K H' kvs sh cs → cs.length ≤ 10 → Q (.ref D) H'
theorem sc_u_law_cells : FnScope ["_law_state", "_law_shape_here", "_law_most", "_law_cells_here", "_law_few", "_law_k"] ["_law_state", "_law_shape_here", "_law_most"] (defScope s_u_law_cells) := ⟨rfl, rfl, rfl, by decide +kernel, rfl, by decide +kernel, by decide +kernel⟩
theorem ok_u_law_cells (T : Cn w K mg base) : C8.Cal P w K mg base 5 "_law_cells" (spCells K) [] := by
  refine T.cal (i := 55) (d := d_u_law_cells) (k := 4) rfl rfl (by decide +kernel) rfl rfl sc_u_law_cells (fun _ _ _ _ _ _ us hl => match us, hl with | [_, _, _], _ => rfl) (fun vs H Q E h => ?_) (fun cdv A outer s H vs Q E hr hcd h => ?_)
  · obtain ⟨_, _, _, _, _, rfl, _⟩ := h
    rfl
  obtain ⟨S, nl, p, sh, m, rfl, L, Sh, Gd, m0, m1, q⟩ := h
  have c1 := ok_u_law_next (P := P) T
  have c2 := ok_u_law_place (P := P) T
  have c3 := ok_u_law_values (P := P) T
  have hu : _ + 1 < cLine := hu_of hr
  refine ⟨_, (pss_cons (ps_set (i := 3) sc_u_law_cells.nd rfl (Or.inl rfl) pe_dnewT)
  (pss_cons (ps_set (i := 4) sc_u_law_cells.nd rfl (Or.inl rfl) (pe_ix ix_list (pe_lst (pa_cons pe_int (pa_cons pe_int (pa_cons pe_int (pa_cons pe_int pa_nil))))) (C8.pe_c c1 hr (by omega) rfl (pa_cons (pv 0) (pa_cons pe_int pa_nil))) (fun _ _ => rfl)))
  (pss_cons (ps_for PassesOwn.never rfl (pi_range1 (by rfl) (T.fre "range" (by decide +kernel)) (pa_cons (C8.pe_c c1 hr (by omega) rfl (pa_cons (pv 0) (pa_cons (pe_op op_add (pv 2) pe_int) pa_nil))) pa_nil)) (pg_name (i := 5) sc_u_law_cells.nd rfl (Or.inl rfl))
  (pss_one (ps_dput hu (pv 3) (C8.pe_c c2 hr (by omega) rfl (pa_cons (pv 0) (pa_cons (pe_fld (pv 1) rfl) pa_nil))) (C8.pe_c c3 hr (by omega) rfl (pa_cons (pv 0) (pa_cons (pe_fld (pv 1) rfl) (pa_cons (pv 4) pa_nil)))) rfl)))
  (pss_one (ps_ret (pv 3)))))), ?_⟩
  refine fun D hD => ?_
  obtain ⟨DS, Dn⟩ := L.ne hD
  have s0 := Same.new (o := HO.dT []) hD
  refine ⟨Nat.le_of_lt (small (show 4 ≤ 1000 by decide)), fun b hb => ?_⟩
  have s1 := Same.new (o := HO.lst [.int 1, .int 2, .int 6, .int 6]) hb
  have L1 := (L.same s0).same s1
  refine ⟨_, rfl, S, nl, 4, rfl, by decide, L1, fun r H1 r0 r1 g1 L2 => ?_⟩
  have eb := g1 _ _ ((L.same s0).ne hb).1 upd_same rfl
  have eD := g1 _ _ DS (s1 _ _ upd_same) rfl
  have gg : Gx S H H1 := (Same.gx (s0.trans s1)).trans g1
  have few : ∃ f : Int, 0 < f ∧ ∃ j : Nat, r = (j : Int) ∧ ([.int 1, .int 2, .int 6, .int 6] : List V)[j]? = some (.int f) := by
    have hz : r = 0 ∨ r = 1 ∨ r = 2 ∨ r = 3 := by omega
    rcases hz with rfl | rfl | rfl | rfl
    · exact ⟨1, by decide, 0, rfl, rfl⟩
    · exact ⟨2, by decide, 1, rfl, rfl⟩
    · exact ⟨6, by decide, 2, rfl, rfl⟩
    · exact ⟨6, by decide, 3, rfl, rfl⟩
  obtain ⟨f, hf, j, rfl, ej⟩ := few
  refine ⟨b, _, _, _, rfl, rfl, .inl (.inl eb), at_of (j := j) rfl ej, ?_⟩
  refine ⟨_, rfl, _, rfl, _, _, rfl, rfl, S, nl, m + 1, rfl, by omega, L2, fun x H2 x0 x1 g2 L3 => ⟨x, rfl, by omega, by omega, ?_⟩⟩
  have eD2 := g2 _ _ DS eD rfl
  refine for_range (lo := 0) (n := x.toNat) (fun i σ H' => (∃ o, σ = [some (.ref S), some (.ref p), some (.int m), some (.ref D), some (.int f), o]) ∧ Gx S H H' ∧ Lw K S nl H' ∧ ∃ kvs cs, H' D = some (.dT kvs) ∧ CellsW K H' kvs sh cs ∧ cs.length ≤ i) ?_ (fun i σ H3 hi hP => ?_) (fun σ H3 hP => ?_)
  · exact ⟨⟨_, rfl⟩, gg.trans g2, L3, [], [], eD2, ⟨.nil, fun c hc => by cases hc⟩, Nat.le_refl _⟩
  · obtain ⟨⟨o, rfl⟩, g3, L4, kvs, cs, e3, C, lc⟩ := hP
    have Sh3 := (L.gs g3).sh Sh
    obtain ⟨dx, d, a, ds, as, h1, h2, h3, h4, h5⟩ := Sh3.ex
    refine ⟨_, rfl, _, rfl, _, _, _, _, _, rfl, h1, T.shCls, T.shAttrs, fl_attrs d a, _, rfl, S, nl, a, as, sh.attrs, f, rfl, L4, .inl (.inl h3), h5, Gd.al.2, hf, fun t H4 us g4 L5 et lu uok => ?_⟩
    have gs4 := L4.gs g4
    refine ⟨_, rfl, _, rfl, _, rfl, _, _, _, _, _, rfl, gs4 _ _ h1 rfl, T.shCls, T.shDims, fl_dims d a, S, nl, d, ds, sh.dims, rfl, L5, .inl (.inl (gs4 _ _ h2 rfl)), Paired.mapG (fun _ _ y => gs4.dim y) h4, Gd.dl.2, Gd.db, fun t2 H5 ps g5 L6 et2 lp pok => ?_⟩
    have gs5 := L5.gs g5
    have e5 : H5 D = some (.dT kvs) := g5 _ _ DS (g4 _ _ DS e3 rfl) rfl
    have lk : kvs.length = cs.length := Paired.len C.kv
    refine ⟨D, _, rfl, DPut.t (k := ps.map Sum.inl) e5 (by rw [map_kV]; exact et2) (small (by omega)), ?_⟩
    have C5 := (C.gs (gs4.trans gs5)).gs (Gs.put (o := HO.dT (putK kvs (ps.map Sum.inl) (.ref t))) e5 rfl)
    have kc : KvAt K (upd H5 D (.dT (putK kvs (ps.map Sum.inl) (.ref t)))) (ps.map Sum.inl, .ref t) (ps, us) := ⟨rfl, t, rfl, (Gs.put e5 rfl).tupl (.inl (.inl (gs5 _ _ et rfl)))⟩
    obtain ⟨cs', C6, l6, _⟩ := put_cells C5 kc ⟨lp, pok, lu, uok⟩
    exact ⟨⟨_, rfl⟩, Gx.putn (g3.trans (g4.trans g5)) hD, L6.putd e5, _, cs', upd_same, C6, by omega⟩
  · obtain ⟨⟨o, rfl⟩, g3, L4, kvs, cs, e3, C, lc⟩ := hP
    exact ⟨_, rfl, q D H3 kvs cs g3 L4 e3 C (by omega)⟩
/-! _law_box -/
def spBox (K : PySem.W.Frag) : Sp := fun vs H Q _ => ∃ (p D : Addr) (sh : Shp) (kvs : List (List Key × V)) (cs : List (List Int × List V)), vs = [.ref p, .ref D] ∧ ShAt (shC K) H p sh ∧ H D = some (.dT kvs) ∧ CellsAt K H kvs sh cs ∧ ∀ t H', Same H H' → BoxAt K H' (.ref t) (boxL sh cs) → Q (.ref t) H'
theorem sc_u_law_box : FnScope ["_law_shape_here", "_law_cells_here", "_law_box_here", "_law_k", "_law_found", "_law_place_here"] ["_law_shape_here", "_law_cells_here"] (defScope s_u_law_box) := ⟨rfl, rfl, rfl, by decide +kernel, rfl, by decide +kernel, by decide +kernel⟩
theorem ok_u_law_box (T : Cn w K mg base) : C8.Cal P w K mg base 1 "_law_box" (spBox K) [] := by
  refine T.cal (i := 59) (d := d_u_law_box) (k := 0) rfl rfl (by decide +kernel) rfl rfl sc_u_law_box (fun _ _ _ _ _ _ us hl => match us, hl with | [_, _], _ => rfl) (fun vs H Q E h => ?_) (fun cdv A outer s H vs Q E hr hcd h => ?_)
  · obtain ⟨_, _, _, _, _, rfl, _⟩ := h
    rfl
  obtain ⟨p, D, sh, kvs, cs, rfl, S, hD, C, q⟩ := h
  have hu : _ + 1 < cLine := hu_of hr
  refine ⟨_, (pss_cons (ps_set (i := 2) sc_u_law_box.nd rfl (Or.inl rfl) (pe_lst pa_nil))
  (pss_cons (ps_for PassesOwn.never rfl (pi_range1 (by rfl) (T.fre "range" (by decide +kernel)) (pa_cons (pe_callB call_len_seq (by rfl) (T.fre "len" (by decide +kernel)) (by decide +kernel) (pa_cons (pe_fld (pv 0) rfl) pa_nil)) pa_nil)) (pg_name (i := 3) sc_u_law_box.nd rfl (Or.inr rfl))
  (pss_cons (ps_lock (ps_setLc (i := 4) (own := [("_law_place_here", 5)]) (te := tOp (rIxT K) (tVar 5) (tVar 3)) (by rfl) sc_u_law_box.nd rfl rfl (sw_true rfl rfl rfl (by decide +kernel)) (pi_keys (pv 1)) (blkOk_by (own := [("_law_place_here", 5)]) (N := ["_law_shape_here", "_law_cells_here", "_law_box_here", "_law_k", "_law_found", "_law_place_here"]) (sc := defScope s_u_law_box) (by decide +kernel)) (fun _ _ _ _ _ => (pg_name (i := 5) sc_u_law_box.nd rfl (Or.inl rfl))) (fun _ _ _ _ _ => pts_nil) (fun _ _ _ _ _ => (pe_ix ix_tup (pv 5) (pv 3) (fun _ _ => rfl)))))
  (pss_one (ps_expr (pe_bm PySem.F.plainAttrs_list PySem.F.slot_list_append PySem.F.type_list_append mt_append (pv 2) (pa_cons (pe_tup (pa_cons (pe_callB (cr_minK rfl hu) (by rfl) (T.fre "min" (by decide +kernel)) (by decide +kernel) (pa_cons (pv 4) pa_nil)) (pa_cons (pe_callB (cr_maxK rfl hu) (by rfl) (T.fre "max" (by decide +kernel)) (by decide +kernel) (pa_cons (pv 4) pa_nil)) pa_nil))) pa_nil))))))
  (pss_one (ps_ret (pe_callTy call_tuple_of (by rfl) (T.fre "tuple" (by decide +kernel)) (by decide +kernel) (pa_cons (pv 2) pa_nil)))))), ?_⟩
  obtain ⟨dx, dd, da, ds, as, h1, h2, h3, h4, h5⟩ := S.ex
  have la : ds.length = sh.dims.length := Paired.len h4
  have l16 := S.len.1
  refine ⟨by decide, fun l hl => ?_⟩
  have s0 := Same.new (o := HO.lst []) hl
  refine ⟨_, rfl, _, _, _, _, _, rfl, s0 _ _ h1, T.shCls, T.shDims, fl_dims dd da, _, _, rfl, .inr (.inl (.inl (s0 _ _ h2))), _, rfl, by omega, by omega, ?_⟩
  refine for_range (lo := 0) (n := ((ds.length : Nat) : Int).toNat) (fun i σ H' => (∃ o1 o2 o3, σ = [some (.ref p), some (.ref D), some (.ref l), o1, o2, o3]) ∧ Same H H' ∧ ∃ us, H' l = some (.lst us) ∧ Paired (PairAt K H') us ((List.range i).map fun i => boxP (boxV cs i))) ?_ (fun i σ H1 hi hP => ?_) (fun σ H1 hP => ?_)
  · exact ⟨⟨_, _, _, rfl⟩, s0, [], upd_same, .nil⟩
  · obtain ⟨⟨o1, o2, o3, rfl⟩, g1, us, e1, p1⟩ := hP
    rw [Int.toNat_natCast, la] at hi
    have hB := boxV_bd C hi
    have hne := boxV_ne C i
    have lkv : kvs.length = cs.length := Paired.len C.kv
    have lv : (boxV cs i).length = cs.length := List.length_map _
    have l17 := C.len
    have luz : us.length = i := by rw [Paired.len p1, List.length_map, List.length_range]
    refine ⟨D, .dT kvs, g1 _ _ hD, trivial, fun od => ?_⟩
    refine ⟨_, rfl, D, od, rfl, .inr ⟨kvs, upd_same, fun D1 hD1 => ?_⟩⟩
    refine lc_it walk_keysT (fun j H' => Same (upd H1 D (.frz od (.dT kvs))) H' ∧ H' D1 = some (.lst ((boxV cs i).take j))) ⟨Same.new hD1, upd_same⟩ (fun j H' hj hP => hP.1 _ _ upd_same) (fun j x H2 H3 hj hP hY => ?_) (fun H2 hP => ?_)
    · obtain ⟨rfl, kk, vv, qq, ek, rfl, eq⟩ := hY
      obtain ⟨c, ec, e0, a, e9, ha⟩ := paired_get C.kv ek
      have hc := List.mem_of_getElem? ec
      have ekk : kk = c.1.map Sum.inl := e0
      rw [ekk, map_kV] at eq
      have lt : i < c.1.length := by rw [(C.ok c hc).lp]; exact hi
      have ev : (boxV cs i)[j]? = some (.int (c.1.getD i 0)) := by unfold boxV; rw [List.getElem?_map, ec]; rfl
      have ei : (c.1.map V.int)[i]? = some (.int (c.1.getD i 0)) := by
        rw [List.getElem?_map, List.getD_eq_getElem?_getD, List.getElem?_eq_getElem lt]
        rfl
      refine ⟨rfl, _, rfl, _, rfl, _, _, _, _, rfl, rfl, .inl (.inl eq), at_of (j := i) (by omega) ei, _, hP.2, small (by rw [List.length_take]; omega), Same.put hP.1 hD1, ?_⟩
      rw [upd_same, List.take_add_one, ev]
      rfl
    · have eD : H2 D = some (.frz od (.dT kvs)) := hP.1 _ _ upd_same
      obtain ⟨hP1, eK⟩ := hP
      rw [lkv, ← lv, List.take_length] at eK
      have gU := relock (g1 _ _ hD) hP1
      have nD : D1 ≠ D := fun z => by rw [z, upd_same] at hD1; cases hD1
      have eKU : upd H2 D (.dT kvs) D1 = some (.lst (boxV cs i)) := by rw [upd_ne nD]; exact eK
      refine ⟨eD, ?_⟩
      have elU : upd H2 D (.dT kvs) l = some (.lst us) := gU _ _ e1
      generalize upd H2 D (.dT kvs) = HU at gU eKU elU ⊢
      have hsk : SkAll (boxV cs i) := fun a ha b hb => by
        obtain ⟨i1, rfl, _⟩ := hB a ha
        obtain ⟨j1, rfl, _⟩ := hB b hb
        rfl
      cases hbv : boxV cs i with
      | nil => exact absurd hbv hne
      | cons x r =>
        rw [hbv] at eKU hsk hB
        obtain ⟨mi, emi, _⟩ := hB _ (minV_mem x r)
        obtain ⟨ma, ema, _⟩ := hB _ (maxV_mem x r)
        refine ⟨_, rfl, .inl ⟨rfl, _, .inl (.inl elU)⟩, _, rfl, D1, x, r, rfl, .inl (.inl eKU), hsk, _, rfl, D1, x, r, rfl, .inl (.inl eKU), hsk, sz2, fun z hz => ?_⟩
        have s3 := Same.new (o := HO.tup [minV x r, maxV x r]) hz
        have e3 := s3 _ _ elU
        refine ⟨l, us, _, rfl, rfl, e3, small (by omega), ⟨_, _, _, rfl⟩, Same.put ((g1.trans gU).trans s3) hl, _, upd_same, ?_⟩
        rw [List.range_succ, List.map_append]
        refine Paired.snoc (Paired.mapG (fun _ _ y => (((Same.gs gU).trans (Same.gs s3)).trans (Gs.put e3 rfl)).pair y) p1) ⟨z, rfl, (Gs.put e3 rfl).tupl (.inl (.inl ?_))⟩
        show upd HU z _ z = some (.tup [.int (boxP (boxV cs i)).1, .int (boxP (boxV cs i)).2])
        rw [upd_same, hbv]
        show _ = some (HO.tup [.int (iv (minV x r)), .int (iv (maxV x r))])
        rw [emi, ema]
        rfl
  · obtain ⟨⟨o1, o2, o3, rfl⟩, g1, us, e1, p1⟩ := hP
    rw [Int.toNat_natCast, la] at p1
    refine ⟨_, rfl, l, us, rfl, .inl ⟨.inl (.inl e1), fun u hu' => ?_⟩⟩
    have s3 := Same.new (o := HO.tup us) hu'
    exact q u _ (g1.trans s3) ⟨u, us, rfl, .inl (.inl upd_same), Paired.mapG (fun _ _ y => (Same.gs s3).pair y) p1⟩
end
end Ms
namespace Ms
open PySem PySem.Spec PyProof.Rows L2
section
variable {P : Program} {w : World} {K : PySem.W.Frag} {mg : Str → Option Value} {base : Heap}
def OutE (K : PySem.W.Frag) (S nl : Addr) (H : Hp) (Q : VK) (sh : Shp) (k : Kd) (n : Nat) : Prop := ∀ t e H', Gx S H H' → Lw K S nl H' → ExAt H' (.ref t) e → HasK sh e k → e.ht ≤ n → Q (.ref t) H'
theorem OutE.g {S nl : Addr} {H H1 : Hp} {Q : VK} {sh : Shp} {k : Kd} {n : Nat} (q : OutE K S nl H Q sh k n) (g : Gx S H H1) : OutE K S nl H1 Q sh k n := fun t e H' g' => q t e H' (g.trans g')
theorem mk1 {S nl : Addr} {H : Hp} {Q : VK} {sh : Shp} {k ka : Kd} {n : Nat} {wd : Wd} {u : V} {a : Ex} (q : OutE K S nl H Q sh k (n + 1)) (L : Lw K S nl H) (xa : ExAt H u a) (ha : HasK sh a ka) (hs : sig wd [ka] = some k) (na : a.ht ≤ n) :
    2 ≤ sizeLine ∧ ∀ p, H p = none → Q (.ref p) (upd H p (.tup [.str wd.s, u])) :=
  ⟨sz2, fun p hp => q p (.n1 wd a) _ (Same.gx (Same.new hp)) (L.same (Same.new hp)) (.n1 upd_same ((Same.gs (Same.new hp)).ex xa)) (.n1 ha hs) (by show a.ht + 1 ≤ n + 1; omega)⟩
theorem mk2 {S nl : Addr} {H : Hp} {Q : VK} {sh : Shp} {k ka kb : Kd} {n : Nat} {wd : Wd} {u v : V} {a b : Ex} (q : OutE K S nl H Q sh k (n + 1)) (L : Lw K S nl H) (xa : ExAt H u a) (xb : ExAt H v b) (ha : HasK sh a ka) (hb : HasK sh b kb) (hs : sig wd [ka, kb] = some k) (na : a.ht ≤ n) (nb : b.ht ≤ n) :
    3 ≤ sizeLine ∧ ∀ p, H p = none → Q (.ref p) (upd H p (.tup [.str wd.s, u, v])) :=
  ⟨sz3, fun p hp => q p (.n2 wd a b) _ (Same.gx (Same.new hp)) (L.same (Same.new hp)) (.n2 upd_same ((Same.gs (Same.new hp)).ex xa) ((Same.gs (Same.new hp)).ex xb)) (.n2 ha hb hs) (by show max a.ht b.ht + 1 ≤ n + 1; omega)⟩
/-! _law_leaf -/
def spLLeaf (K : PySem.W.Frag) : Sp := fun vs H Q _ => ∃ (S nl p : Addr) (sh : Shp) (k : Kd), vs = [.ref S, .ref p, .str k.s] ∧ Lw K S nl H ∧ ShAt (shC K) H p sh ∧ GoodSh sh ∧ OutE K S nl H Q sh k 0
theorem sc_u_law_leaf : FnScope ["_law_state", "_law_shape_here", "_law_kind", "_law_names", "_law_name", "_law_word_here", "_law_choice"] ["_law_state", "_law_shape_here", "_law_kind"] (defScope s_u_law_leaf) := ⟨rfl, rfl, rfl, by decide +kernel, rfl, by decide +kernel, by decide +kernel⟩
theorem ok_u_law_leaf (T : Cn w K mg base) : C8.Cal P w K mg base 4 "_law_leaf" (spLLeaf K) [] := by
  refine T.cal (i := 56) (d := d_u_law_leaf) (k := 3) rfl rfl (by decide +kernel) rfl rfl sc_u_law_leaf (fun _ _ _ _ _ _ us hl => match us, hl with | [_, _, _], _ => rfl) (fun vs H Q E h => ?_) (fun cdv A outer s H vs Q E hr hcd h => ?_)
  · obtain ⟨_, _, _, _, _, rfl, _⟩ := h
    rfl
  obtain ⟨S, nl, p, sh, k, rfl, L, Sh, Gd, q⟩ := h
  have c1 := ok_u_law_next (P := P) T
  have c2 := ok_u_law_thing (P := P) T
  refine ⟨_, (pss_cons (ps_setLc (i := 3) (own := [("_law_name", 4), ("_law_word_here", 5)]) (g := gTup K 2 (gCons (gName 4) (gCons (gName 5) gNil))) (by rfl) sc_u_law_leaf.nd rfl rfl (sw_true rfl rfl rfl (by decide +kernel)) (pi_tup (pe_fld (pv 1) rfl)) (blkOk_by (own := [("_law_name", 4), ("_law_word_here", 5)]) (N := ["_law_state", "_law_shape_here", "_law_kind", "_law_names", "_law_name", "_law_word_here", "_law_choice"]) (sc := defScope s_u_law_leaf) (by decide +kernel)) (fun _ _ _ _ _ => (pg_tup (by rfl) (pgs_cons (pg_name (i := 4) sc_u_law_leaf.nd rfl (Or.inl rfl)) (pgs_cons (pg_name (i := 5) sc_u_law_leaf.nd rfl (Or.inl rfl)) pgs_nil)))) (fun _ _ _ _ _ => (pts_one (pt_cmpR op_eq (pv 5) (pv 2) (nomark _)))) (fun _ _ _ _ _ => (pv 4)))
  (pss_cons (ps_set (i := 6) sc_u_law_leaf.nd rfl (Or.inl rfl) (C8.pe_c c1 hr (by omega) rfl (pa_cons (pv 0) (pa_cons pe_int pa_nil))))
  (pss_cons (ps_if (PW.pt (pw_and (pt_cmpR op_lt (pv 6) pe_int (nomark _)) (pw_and1 (pt_cmpR op_gt (pe_callB call_len_seq (by rfl) (T.fre "len" (by decide +kernel)) (by decide +kernel) (pa_cons (pv 3) pa_nil)) pe_int (nomark _)))))
  (pss_one (ps_ret (pe_tup (pa_cons pe_str (pa_cons (pe_ix ix_list (pv 3) (C8.pe_c c1 hr (by omega) rfl (pa_cons (pv 0) (pa_cons (pe_callB call_len_seq (by rfl) (T.fre "len" (by decide +kernel)) (by decide +kernel) (pa_cons (pv 3) pa_nil)) pa_nil))) (fun _ _ => rfl)) pa_nil)))))
  pss_nil)
  (pss_cons (ps_if (PW.pt (pw_and (pt_cmpR op_lt (pv 6) pe_int (nomark _)) (pw_and1 (pt_cmpR op_eq (pv 2) pe_str (nomark _)))))
  (pss_one (ps_ret (pe_tup (pa_cons pe_str (pa_cons (pe_ix ix_tup (pe_ix ix_tup (pe_fld (pv 1) rfl) (C8.pe_c c1 hr (by omega) rfl (pa_cons (pv 0) (pa_cons (pe_callB call_len_seq (by rfl) (T.fre "len" (by decide +kernel)) (by decide +kernel) (pa_cons (pe_fld (pv 1) rfl) pa_nil)) pa_nil))) (fun _ _ => rfl)) pe_int (fun _ _ => rfl)) pa_nil)))))
  pss_nil)
  (pss_cons (ps_if (PW.pt (pw_and (pt_cmpR op_eq (pv 6) pe_int (nomark _)) (pw_and1 (pt_cmpR op_eq (C8.pe_c c1 hr (by omega) rfl (pa_cons (pv 0) (pa_cons pe_int pa_nil))) pe_int (nomark _)))))
  (pss_one (ps_ret (pe_tup (pa_cons pe_str (pa_cons (pv 2) (pa_cons pe_non pa_nil))))))
  pss_nil)
  (pss_one (ps_ret (pe_tup (pa_cons pe_str (pa_cons (pv 2) (pa_cons (C8.pe_c c2 hr (by omega) rfl (pa_cons (pv 0) (pa_cons (pv 2) pa_nil))) pa_nil))))))))))), ?_⟩
  obtain ⟨dx, d, a, ds, as, h1, h2, h3, h4, h5⟩ := Sh.ex
  have la : as.length = sh.attrs.length := Paired.len h5
  have l4 := Gd.al.2
  refine ⟨_, rfl, _, _, _, _, _, rfl, h1, T.shCls, T.shAttrs, fl_attrs d a, a, rfl, ⟨_, .inl (.inl h3)⟩, fun D hD => ?_⟩
  refine lc_tup (K := K) (a := a) (xs := as) (fun i H' => Same H H' ∧ ∃ nms : List Str, H' D = some (.lst (nms.map V.str)) ∧ nms.length ≤ i ∧ ∀ n ∈ nms, ∃ j : Nat, sh.attrs[j]? = some (n, k)) ⟨Same.new hD, [], upd_same, Nat.le_refl _, fun n hn => by cases hn⟩ (fun i H' hi hP => .inl (.inl (hP.1 _ _ h3))) (fun i x H' hi hP => ?_) (fun H1 hP => ?_)
  · obtain ⟨g, nms, e, hl, hn⟩ := hP
    obtain ⟨⟨n, k'⟩, em, t, rfl, ht⟩ := paired_get h5 hi
    have lt : i < sh.attrs.length := (List.getElem?_eq_some_iff.mp em).1
    refine ⟨_, _, rfl, .inl (.inl (g _ _ ht)), rfl, _, _, rfl, _, _, rfl, rfl, rfl, _, rfl, _, rfl, rfl, _, rfl, iteD (fun h => ?_) (fun h => ?_)⟩
    · have ek : k' = k := kd_eq h
      subst ek
      refine ⟨_, rfl, _, e, small (by rw [List.length_map]; omega), Same.put g hD, nms ++ [n], ?_, by rw [List.length_append]; exact Nat.succ_le_succ hl, fun m hm => ?_⟩
      · rw [upd_same, List.map_append]
        rfl
      · rcases List.mem_append.mp hm with y | y
        · exact hn m y
        · rw [List.mem_singleton.mp y]; exact ⟨i, em⟩
    · exact ⟨g, nms, e, by omega, hn⟩
  obtain ⟨g1, nms, e1, hl, hn⟩ := hP
  have q1 := q.g (Same.gx g1 (x := S))
  have L1 := L.same g1
  obtain ⟨DS, _⟩ := L.ne hD
  refine ⟨_, rfl, S, nl, 6, rfl, by decide, L1, fun r H2 r0 r1 g2 L2 => ?_⟩
  have e2 := g2 _ _ DS e1 rfl
  have q2 := q1.g g2
  have gs2 : Gs H H2 := (Same.gs g1).trans (L1.gs g2)
  have val : ∀ {H3 : Hp} {v : V}, Gx S H2 H3 → Lw K S nl H3 → IsO k v → 3 ≤ sizeLine ∧ ∀ t, H3 t = none → Q (.ref t) (upd H3 t (.tup [.str "value", .str k.s, v])) := fun {H3 v} g L ho =>
    ⟨sz3, fun t ht => q2 t (.val k v) _ (g.trans (Same.gx (Same.new ht))) (L.same (Same.new ht)) (.val upd_same) (.val ho) (Nat.le_refl 0)⟩
  have last : (tSeq (tIfS (tAnd (tTest (tOp rEq (tVar 6) (tC (.int 5)))) (tTest (tOp rEq (tCall (spNext K) [] C8.E0 (tCons (tVar 0) (tCons (tC (.int 3)) tNil))) (tC (.int 0))))) (tRet (tTup (tCons (tC (.str "value")) (tCons (tVar 2) (tCons (tC .non) tNil))))) tNext) (tRet (tTup (tCons (tC (.str "value")) (tCons (tVar 2) (tCons (tCall (spThing K) [] C8.E0 (tCons (tVar 0) (tCons (tVar 2) tNil))) tNil))))))
      { nx := fun x H' => Q V.non H', rt := Q } [some (.ref S), some (.ref p), some (.str k.s), some (.ref D), none, none, some (.int r)] H2 := by
    have thing : ∀ {H3 : Hp}, Gx S H2 H3 → Lw K S nl H3 → tRet (tTup (tCons (tC (.str "value")) (tCons (tVar 2) (tCons (tCall (spThing K) [] C8.E0 (tCons (tVar 0) (tCons (tVar 2) tNil))) tNil))))
        { nx := fun x H' => Q V.non H', rt := Q } [some (.ref S), some (.ref p), some (.str k.s), some (.ref D), none, none, some (.int r)] H3 := fun {H3} g3 L3 =>
      ⟨_, rfl, _, rfl, _, rfl, S, nl, k, rfl, L3, fun v H4 hv g4 L4 => val (g3.trans g4) L4 (.inr hv)⟩
    refine ⟨_, rfl, rfl, _, rfl, iteD (fun _ => ?_) (fun _ => ?_)⟩
    · refine ⟨_, rfl, S, nl, 3, rfl, by decide, L2, fun y H3 y0 y1 g3 L3 => ⟨rfl, _, rfl, iteD (fun _ => ?_) (fun _ => ?_)⟩⟩
      · exact ⟨_, rfl, val g3 L3 (.inl rfl)⟩
      · exact thing g3 L3
    · exact iteF (thing (Gx.refl _ _) L2)
  have dim : (tSeq (tIfS (tAnd (tTest (tOp (rI0 fun i j => V.bl (decide (i < j))) (tVar 6) (tC (.int 4)))) (tTest (tOp rEq (tVar 2) (tC (.str "int"))))) (tRet (tTup (tCons (tC (.str "dim")) (tCons (tOp (rIxT K) (tOp (rIxT K) (tFld K (tVar 1) "dims") (tCall (spNext K) [] C8.E0 (tCons (tVar 0) (tCons (tCB (fun xs H_1 Q => ∃ p ys, xs = [V.ref p] ∧ (SqL K H_1 p ys ∨ SqT K H_1 p ys) ∧ Q (V.int ↑ys.length) H_1) (tCons (tFld K (tVar 1) "dims") tNil)) tNil)))) (tC (.int 0))) tNil)))) tNext)
      (tSeq (tIfS (tAnd (tTest (tOp rEq (tVar 6) (tC (.int 5)))) (tTest (tOp rEq (tCall (spNext K) [] C8.E0 (tCons (tVar 0) (tCons (tC (.int 3)) tNil))) (tC (.int 0))))) (tRet (tTup (tCons (tC (.str "value")) (tCons (tVar 2) (tCons (tC .non) tNil))))) tNext) (tRet (tTup (tCons (tC (.str "value")) (tCons (tVar 2) (tCons (tCall (spThing K) [] C8.E0 (tCons (tVar 0) (tCons (tVar 2) tNil))) tNil)))))))
      { nx := fun x H' => Q V.non H', rt := Q } [some (.ref S), some (.ref p), some (.str k.s), some (.ref D), none, none, some (.int r)] H2 := by
    have h12 := gs2 _ _ h1 rfl
    have h22 := gs2 _ _ h2 rfl
    have ld : ds.length = sh.dims.length := Paired.len h4
    refine ⟨_, rfl, _, _, rfl, rfl, _, rfl, iteD (fun _ => ?_) (fun _ => iteF last)⟩
    refine ⟨_, rfl, rfl, _, rfl, iteD (fun h => ?_) (fun _ => last)⟩
    have ek : k = .int := kd_eq (l := .int) h
    subst ek
    have ldp := Gd.dl.1
    refine ⟨_, rfl, _, _, _, _, _, rfl, h12, T.shCls, T.shDims, fl_dims d a, _, rfl, _, rfl, _, _, _, _, _, rfl, h12, T.shCls, T.shDims, fl_dims d a, _, _, rfl, .inr (.inl (.inl h22)), S, nl, _, rfl, by omega, L2, fun y H3 y0 y1 g3 L3 => ?_⟩
    have gs3 := L2.gs g3
    obtain ⟨j, rfl⟩ : ∃ j : Nat, y = (j : Int) := ⟨y.toNat, by omega⟩
    have lt : j < sh.dims.length := by omega
    obtain ⟨x, ex, t, rfl, ht⟩ := paired_getR h4 (List.getElem?_eq_getElem lt)
    refine ⟨d, ds, _, _, rfl, rfl, .inl (.inl (gs3 _ _ h22 rfl)), at_of (j := j) rfl ex, _, _, _, _, rfl, rfl, .inl (.inl (gs3 _ _ (gs2 _ _ ht rfl) rfl)), at_of (j := 0) rfl rfl, sz2, fun z hz => ?_⟩
    exact q2 z (.dim (sh.dims[j]).1) _ (g3.trans (Same.gx (Same.new hz))) (L3.same (Same.new hz)) (.dim upd_same) (.dim (Gd.dn j _ (List.getElem?_eq_getElem lt)) lt) (Nat.le_refl 0)
  refine ⟨_, rfl, _, _, rfl, rfl, _, rfl, iteD (fun _ => ?_) (fun _ => iteF dim)⟩
  refine ⟨_, rfl, _, _, rfl, .inl (.inl (.inl e2)), _, _, rfl, rfl, _, rfl, iteD (fun h => ?_) (fun _ => dim)⟩
  have lm : (nms.map V.str).length = nms.length := List.length_map _
  refine ⟨_, rfl, _, rfl, _, rfl, _, _, rfl, .inl (.inl (.inl e2)), S, nl, _, rfl, h, L2, fun y H3 y0 y1 g3 L3 => ?_⟩
  have e3 := g3 _ _ DS e2 rfl
  obtain ⟨j, rfl⟩ : ∃ j : Nat, y = (j : Int) := ⟨y.toNat, by omega⟩
  have lt : j < nms.length := by omega
  obtain ⟨i, ei⟩ := hn _ (List.getElem_mem lt)
  refine ⟨D, nms.map V.str, _, .str nms[j], rfl, rfl, .inl (.inl e3), at_of (j := j) rfl (by rw [List.getElem?_map, List.getElem?_eq_getElem lt]; rfl), sz2, fun z hz => ?_⟩
  exact q2 z (.attr nms[j]) _ (g3.trans (Same.gx (Same.new hz))) (L3.same (Same.new hz)) (.attr upd_same) (.attr (Gd.an i _ ei) ei) (Nat.le_refl 0)
end
end Ms
namespace Ms
open PySem PySem.Spec PyProof.Rows L2
theorem sig_cmp {w : Wd} (h : w.isCmp = true) (k : Kd) : sig w [k, k] = some .flag := by
  cases w <;> first
    | (cases h; done)
    | (cases k <;> rfl)
theorem sig_ar {w : Wd} (h : w.isAri = true) : sig w [.int, .int] = some .int := by
  cases w <;> first
    | (cases h; done)
    | rfl
theorem sig_oe (k : Kd) : sig .orelse [k, k] = some k := by cases k <;> rfl
theorem sig_if (k : Kd) : sig .ite [.flag, k, k] = some k := by cases k <;> rfl
def wCmp : List Wd := [.eq, .ne, .lt, .le, .gt, .ge]
def wAri : List Wd := [.add, .sub, .mul, .div, .mod]
section
variable {P : Program} {w : World} {K : PySem.W.Frag} {mg : Str → Option Value} {base : Heap}
def spExpr (K : PySem.W.Frag) (m : Nat) : Sp := fun vs H Q _ => ∃ (S nl p : Addr) (sh : Shp) (k : Kd) (d : Int), vs = [.ref S, .ref p, .str k.s, .int d] ∧ Lw K S nl H ∧ ShAt (shC K) H p sh ∧ GoodSh sh ∧ 0 < m ∧ d < m ∧ OutE K S nl H Q sh k (m - 1)
def spFlag (K : PySem.W.Frag) (m : Nat) : Sp := fun vs H Q _ => ∃ (S nl p : Addr) (sh : Shp) (d : Int), vs = [.ref S, .ref p, .int d] ∧ Lw K S nl H ∧ ShAt (shC K) H p sh ∧ GoodSh sh ∧ 0 < m ∧ d ≤ m ∧ OutE K S nl H Q sh .flag m
/-- one more expression -/
theorem more {S nl p : Addr} {sh : Shp} {H H1 : Hp} (g : Gs H H1) (Sh : ShAt (shC K) H p sh) : ShAt (shC K) H1 p sh := g.sh Sh
theorem sc_u_law_flag : FnScope ["_law_state", "_law_shape_here", "_law_depth", "_law_choice", "_law_word_here", "_law_kind"] ["_law_state", "_law_shape_here", "_law_depth"] (defScope s_u_law_flag) := ⟨rfl, rfl, rfl, by decide +kernel, rfl, by decide +kernel, by decide +kernel⟩
theorem ok_flag_of (T : Cn w K mg base) (m : Nat) (c0 : C8.Cal P w K mg base (2 * m + 5) "_law_expression" (spExpr K m) []) : C8.Cal P w K mg base (2 * m + 6) "_law_flag" (spFlag K m) [] := by
  refine T.cal (i := 57) (d := d_u_law_flag) (k := (2*m+5)) rfl rfl (by decide +kernel) rfl rfl sc_u_law_flag (fun _ _ _ _ _ _ us hl => match us, hl with | [_, _, _], _ => rfl) (fun vs H Q E h => ?_) (fun cdv A outer s H vs Q E hr hcd h => ?_)
  · obtain ⟨_, _, _, _, _, rfl, _⟩ := h
    rfl
  obtain ⟨S, nl, p, sh, d, rfl, L, Sh, Gd, m0, hd, q⟩ := h
  obtain ⟨m', rfl⟩ : ∃ m', m = m' + 1 := ⟨m - 1, by omega⟩
  have c1 := ok_u_law_next (P := P) T
  refine ⟨_, (pss_cons (ps_set (i := 3) sc_u_law_flag.nd rfl (Or.inl rfl) (C8.pe_c c1 hr (by omega) rfl (pa_cons (pv 0) (pa_cons pe_int pa_nil))))
  (pss_cons (ps_if (pt_cmpR op_eq (pv 3) pe_int (nomark _))
  (pss_one (ps_ret (pe_tup (pa_cons pe_str (pa_cons (C8.pe_c c0 hr (by omega) rfl (pa_cons (pv 0) (pa_cons (pv 1) (pa_cons pe_str (pa_cons (pe_op op_sub (pv 2) pe_int) pa_nil))))) pa_nil)))))
  pss_nil)
  (pss_cons (ps_if (pt_cmpR op_eq (pv 3) pe_int (nomark _))
  (pss_one (ps_ret (pe_tup (pa_cons pe_str (pa_cons (C8.pe_c c0 hr (by omega) rfl (pa_cons (pv 0) (pa_cons (pv 1) (pa_cons (pe_ix ix_list (pe_lst (pa_cons pe_str (pa_cons pe_str (pa_cons pe_str pa_nil)))) (C8.pe_c c1 hr (by omega) rfl (pa_cons (pv 0) (pa_cons pe_int pa_nil))) (fun _ _ => rfl)) (pa_cons (pe_op op_sub (pv 2) pe_int) pa_nil))))) pa_nil)))))
  pss_nil)
  (pss_cons (ps_if (pt_cmpR op_lt (pv 3) pe_int (nomark _))
  (pss_cons (ps_set (i := 4) sc_u_law_flag.nd rfl (Or.inl rfl) (pe_ix ix_list (pe_lst (pa_cons pe_str (pa_cons pe_str pa_nil))) (pe_op op_sub (pv 3) pe_int) (fun _ _ => rfl)))
  (pss_one (ps_ret (pe_tup (pa_cons (pv 4) (pa_cons (C8.pe_c c0 hr (by omega) rfl (pa_cons (pv 0) (pa_cons (pv 1) (pa_cons pe_str (pa_cons (pe_op op_sub (pv 2) pe_int) pa_nil))))) (pa_cons (C8.pe_c c0 hr (by omega) rfl (pa_cons (pv 0) (pa_cons (pv 1) (pa_cons pe_str (pa_cons (pe_op op_sub (pv 2) pe_int) pa_nil))))) pa_nil)))))))
  pss_nil)
  (pss_cons (ps_set (i := 5) sc_u_law_flag.nd rfl (Or.inl rfl) (pe_ix ix_list (pe_lst (pa_cons pe_str (pa_cons pe_str (pa_cons pe_str (pa_cons pe_str (pa_cons pe_str pa_nil)))))) (C8.pe_c c1 hr (by omega) rfl (pa_cons (pv 0) (pa_cons pe_int pa_nil))) (fun _ _ => rfl)))
  (pss_cons (ps_set (i := 4) sc_u_law_flag.nd rfl (Or.inl rfl) (pe_ix ix_list (pe_lst (pa_cons pe_str (pa_cons pe_str (pa_cons pe_str (pa_cons pe_str (pa_cons pe_str (pa_cons pe_str pa_nil))))))) (C8.pe_c c1 hr (by omega) rfl (pa_cons (pv 0) (pa_cons pe_int pa_nil))) (fun _ _ => rfl)))
  (pss_one (ps_ret (pe_tup (pa_cons (pv 4) (pa_cons (C8.pe_c c0 hr (by omega) rfl (pa_cons (pv 0) (pa_cons (pv 1) (pa_cons (pv 5) (pa_cons (pe_op op_sub (pv 2) pe_int) pa_nil))))) (pa_cons (C8.pe_c c0 hr (by omega) rfl (pa_cons (pv 0) (pa_cons (pv 1) (pa_cons (pv 5) (pa_cons (pe_op op_sub (pv 2) pe_int) pa_nil))))) pa_nil)))))))))))), ?_⟩
  have hlt : d - 1 < ((m' + 1 : Nat) : Int) := by omega
  have nrm : ∀ {n : Nat}, n ≤ m' + 1 - 1 → n ≤ m' := fun h => h
  refine ⟨_, rfl, S, nl, 9, rfl, by decide, L, fun r H1 r0 r1 g1 L1 => ?_⟩
  have Sh1 := (L.gs g1).sh Sh
  have q1 := q.g g1
  refine ⟨_, rfl, rfl, _, rfl, iteD (fun _ => ?_) (fun n1 => ?_)⟩
  · exact ⟨_, rfl, _, rfl, _, rfl, _, _, rfl, rfl, S, nl, p, sh, .flag, d - 1, rfl, L1, Sh1, Gd, Nat.succ_pos _, hlt, fun t e H2 g2 L2 xe ke he => mk1 (wd := .not) (q1.g g2) L2 xe ke rfl (nrm he)⟩
  refine ⟨_, rfl, rfl, _, rfl, iteD (fun _ => ?_) (fun n2 => ?_)⟩
  · refine ⟨_, rfl, _, rfl, sz3, fun b hb => ?_⟩
    have s2 := Same.new (o := HO.lst [.str "int", .str "flag", .str "text"]) hb
    refine ⟨_, rfl, S, nl, 3, rfl, by decide, L1.same s2, fun x H2 x0 x1 g2 L2 => ?_⟩
    have e2 := g2 _ _ (L1.ne hb).1 upd_same rfl
    have gx : Gx S H1 H2 := (Same.gx s2).trans g2
    have Sh2 := (L1.gs gx).sh Sh1
    obtain ⟨k, j, rfl, hj⟩ : ∃ (k : Kd) (j : Nat), x = (j : Int) ∧ ([.str "int", .str "flag", .str "text"] : List V)[j]? = some (.str k.s) := by
      have hz : x = 0 ∨ x = 1 ∨ x = 2 := by omega
      rcases hz with rfl | rfl | rfl
      · exact ⟨.int, 0, rfl, rfl⟩
      · exact ⟨.flag, 1, rfl, rfl⟩
      · exact ⟨.text, 2, rfl, rfl⟩
    exact ⟨b, _, _, _, rfl, rfl, .inl (.inl e2), at_of (j := j) rfl hj, _, rfl, _, _, rfl, rfl, S, nl, p, sh, k, d - 1, rfl, L2, Sh2, Gd, Nat.succ_pos _, hlt, fun t e H3 g3 L3 xe ke he => mk1 (wd := .miss) (q1.g (gx.trans g3)) L3 xe ke rfl (nrm he)⟩
  refine ⟨_, rfl, _, _, rfl, rfl, _, rfl, iteD (fun n3 => ?_) (fun n3 => ?_)⟩
  · refine ⟨sz2, fun b hb => ?_⟩
    have s2 := Same.new (o := HO.lst [.str "and", .str "or"]) hb
    have L2 := L1.same s2
    have Sh2 := (Same.gs s2).sh Sh1
    have m1 : r ≠ 0 := fun z => n1 (by rw [z])
    have m2 : r ≠ 1 := fun z => n2 (by rw [z])
    obtain ⟨wd, j, ej, hj, hw⟩ : ∃ (wd : Wd) (j : Nat), r - 2 = (j : Int) ∧ ([.str "and", .str "or"] : List V)[j]? = some (.str wd.s) ∧ sig wd [.flag, .flag] = some .flag := by
      have hz : r = 2 ∨ r = 3 := by omega
      rcases hz with rfl | rfl
      · exact ⟨.and, 0, rfl, rfl, rfl⟩
      · exact ⟨.or, 1, rfl, rfl, rfl⟩
    refine ⟨_, rfl, _, _, rfl, rfl, b, _, _, _, rfl, rfl, .inl (.inl upd_same), at_of (j := j) ej hj, ?_⟩
    refine ⟨_, rfl, _, rfl, _, rfl, _, rfl, _, _, rfl, rfl, S, nl, p, sh, .flag, d - 1, rfl, L2, Sh2, Gd, Nat.succ_pos _, hlt, fun t e H3 g3 L3 xe ke he => ?_⟩
    have Sh3 := (L2.gs g3).sh Sh2
    exact ⟨_, rfl, _, rfl, _, rfl, _, _, rfl, rfl, S, nl, p, sh, .flag, d - 1, rfl, L3, Sh3, Gd, Nat.succ_pos _, hlt, fun t' e' H4 g4 L4 xe' ke' he' => mk2 (wd := wd) (q1.g ((Same.gx s2).trans (g3.trans g4))) L4 ((L3.gs g4).ex xe) xe' ke ke' hw (nrm he) (nrm he')⟩
  refine ⟨Nat.le_of_lt (small (show 5 ≤ 1000 by decide)), fun b hb => ?_⟩
  have s2 := Same.new (o := HO.lst [.str "int", .str "int", .str "int", .str "text", .str "flag"]) hb
  refine ⟨_, rfl, S, nl, 5, rfl, by decide, L1.same s2, fun x H2 x0 x1 g2 L2 => ?_⟩
  have e2 := g2 _ _ (L1.ne hb).1 upd_same rfl
  have gx : Gx S H1 H2 := (Same.gx s2).trans g2
  have Sh2 := (L1.gs gx).sh Sh1
  obtain ⟨k, j, rfl, hj⟩ : ∃ (k : Kd) (j : Nat), x = (j : Int) ∧ ([.str "int", .str "int", .str "int", .str "text", .str "flag"] : List V)[j]? = some (.str k.s) := by
    have hz : x = 0 ∨ x = 1 ∨ x = 2 ∨ x = 3 ∨ x = 4 := by omega
    rcases hz with rfl | rfl | rfl | rfl | rfl
    · exact ⟨.int, 0, rfl, rfl⟩
    · exact ⟨.int, 1, rfl, rfl⟩
    · exact ⟨.int, 2, rfl, rfl⟩
    · exact ⟨.text, 3, rfl, rfl⟩
    · exact ⟨.flag, 4, rfl, rfl⟩
  refine ⟨b, _, _, _, rfl, rfl, .inl (.inl e2), at_of (j := j) rfl hj, ?_⟩
  refine ⟨Nat.le_of_lt (small (show 6 ≤ 1000 by decide)), fun b2 hb2 => ?_⟩
  have s3 := Same.new (o := HO.lst [.str "eq", .str "ne", .str "lt", .str "le", .str "gt", .str "ge"]) hb2
  refine ⟨_, rfl, S, nl, 6, rfl, by decide, L2.same s3, fun y H3 y0 y1 g3 L3 => ?_⟩
  have e3 := g3 _ _ (L2.ne hb2).1 upd_same rfl
  have gx3 : Gx S H1 H3 := gx.trans ((Same.gx s3).trans g3)
  have Sh3 := (L1.gs gx3).sh Sh1
  obtain ⟨wd, j2, rfl, hj2, hw⟩ : ∃ (wd : Wd) (j : Nat), y = (j : Int) ∧ ([.str "eq", .str "ne", .str "lt", .str "le", .str "gt", .str "ge"] : List V)[j]? = some (.str wd.s) ∧ wd.isCmp = true := by
    have hz : y = 0 ∨ y = 1 ∨ y = 2 ∨ y = 3 ∨ y = 4 ∨ y = 5 := by omega
    rcases hz with rfl | rfl | rfl | rfl | rfl | rfl
    · exact ⟨.eq, 0, rfl, rfl, rfl⟩
    · exact ⟨.ne, 1, rfl, rfl, rfl⟩
    · exact ⟨.lt, 2, rfl, rfl, rfl⟩
    · exact ⟨.le, 3, rfl, rfl, rfl⟩
    · exact ⟨.gt, 4, rfl, rfl, rfl⟩
    · exact ⟨.ge, 5, rfl, rfl, rfl⟩
  refine ⟨b2, _, _, _, rfl, rfl, .inl (.inl e3), at_of (j := j2) rfl hj2, ?_⟩
  refine ⟨_, rfl, _, rfl, _, rfl, _, rfl, _, rfl, _, _, rfl, rfl, S, nl, p, sh, k, d - 1, rfl, L3, Sh3, Gd, Nat.succ_pos _, hlt, fun t e H4 g4 L4 xe ke he => ?_⟩
  have Sh4 := (L3.gs g4).sh Sh3
  exact ⟨_, rfl, _, rfl, _, rfl, _, rfl, _, _, rfl, rfl, S, nl, p, sh, k, d - 1, rfl, L4, Sh4, Gd, Nat.succ_pos _, hlt, fun t' e' H5 g5 L5 xe' ke' he' => mk2 (wd := wd) (q1.g (gx3.trans (g4.trans g5))) L5 ((L4.gs g5).ex xe) xe' ke ke' (sig_cmp hw k) (nrm he) (nrm he')⟩
theorem sc_u_law_expression : FnScope ["_law_state", "_law_shape_here", "_law_kind", "_law_depth", "_law_choice", "_law_parts", "_law_word_here"] ["_law_state", "_law_shape_here", "_law_kind", "_law_depth"] (defScope s_u_law_expression) := ⟨rfl, rfl, rfl, by decide +kernel, rfl, by decide +kernel, by decide +kernel⟩
theorem ok_u_law_expression (T : Cn w K mg base) : ∀ m, C8.Cal P w K mg base (2 * m + 5) "_law_expression" (spExpr K m) []
  | 0 => by
    have no : ∀ vs H Q E, ¬ spExpr K 0 vs H Q E := fun vs H Q E h => by
      obtain ⟨_, _, _, _, _, _, _, _, _, _, h, _⟩ := h
      exact absurd h (Nat.not_lt_zero _)
    exact T.cal (i := 58) (d := d_u_law_expression) (k := 4) rfl rfl (by decide +kernel) rfl rfl sc_u_law_expression (fun _ _ _ _ _ _ us hl => match us, hl with | [_, _, _, _], _ => rfl) (fun vs H Q E h => (no _ _ _ _ h).elim) (fun cdv A outer s H vs Q E hr hcd h => (no _ _ _ _ h).elim)
  | m + 1 => by
    have c0 := ok_u_law_expression T m
    have c3 := ok_flag_of T m c0
    refine T.cal (i := 58) (d := d_u_law_expression) (k := (2*m+6)) rfl rfl (by decide +kernel) rfl rfl sc_u_law_expression (fun _ _ _ _ _ _ us hl => match us, hl with | [_, _, _, _], _ => rfl) (fun vs H Q E h => ?_) (fun cdv A outer s H vs Q E hr hcd h => ?_)
    · obtain ⟨_, _, _, _, _, _, rfl, _⟩ := h
      rfl
    obtain ⟨S, nl, p, sh, k, d, rfl, L, Sh, Gd, m0, hd, q⟩ := h
    have c1 := ok_u_law_next (P := P) T
    have c2 := ok_u_law_leaf (P := P) T
    refine ⟨_, (pss_cons (ps_set (i := 4) sc_u_law_expression.nd rfl (Or.inl rfl) (C8.pe_c c1 hr (by omega) rfl (pa_cons (pv 0) (pa_cons pe_int pa_nil))))
  (pss_cons (ps_if (PW.pt (pw_or (pt_cmpR op_le (pv 3) pe_int (nomark _)) (pw_or1 (pt_cmpR op_eq (pv 4) pe_int (nomark _)))))
  (pss_one (ps_ret (C8.pe_c c2 hr (by omega) rfl (pa_cons (pv 0) (pa_cons (pv 1) (pa_cons (pv 2) pa_nil))))))
  pss_nil)
  (pss_cons (ps_if (pt_cmpR op_eq (pv 4) pe_int (nomark _))
  (pss_cons (ps_set (i := 5) sc_u_law_expression.nd rfl (Or.inl rfl) (pe_tup (pa_cons (C8.pe_c c0 hr (by omega) rfl (pa_cons (pv 0) (pa_cons (pv 1) (pa_cons (pv 2) (pa_cons (pe_op op_sub (pv 3) pe_int) pa_nil))))) (pa_cons (C8.pe_c c0 hr (by omega) rfl (pa_cons (pv 0) (pa_cons (pv 1) (pa_cons (pv 2) (pa_cons (pe_op op_sub (pv 3) pe_int) pa_nil))))) pa_nil))))
  (pss_one (ps_ret (pe_op op_catT (pe_tup (pa_cons pe_str (pa_cons (C8.pe_c c0 hr (by omega) rfl (pa_cons (pv 0) (pa_cons (pv 1) (pa_cons pe_str (pa_cons (pe_op op_sub (pv 3) pe_int) pa_nil))))) pa_nil))) (pv 5)))))
  pss_nil)
  (pss_cons (ps_if (pt_cmpR op_eq (pv 4) pe_int (nomark _))
  (pss_one (ps_ret (pe_tup (pa_cons pe_str (pa_cons (C8.pe_c c0 hr (by omega) rfl (pa_cons (pv 0) (pa_cons (pv 1) (pa_cons (pv 2) (pa_cons (pe_op op_sub (pv 3) pe_int) pa_nil))))) (pa_cons (C8.pe_c c0 hr (by omega) rfl (pa_cons (pv 0) (pa_cons (pv 1) (pa_cons (pv 2) (pa_cons (pe_op op_sub (pv 3) pe_int) pa_nil))))) pa_nil))))))
  pss_nil)
  (pss_cons (ps_if (pt_cmpR op_eq (pv 2) pe_str (nomark _))
  (pss_one (ps_ret (C8.pe_c c3 hr (by omega) rfl (pa_cons (pv 0) (pa_cons (pv 1) (pa_cons (pv 3) pa_nil))))))
  pss_nil)
  (pss_cons (ps_if (pt_cmpR op_eq (pv 2) pe_str (nomark _))
  (pss_one (ps_ret (pe_tup (pa_cons pe_str (pa_cons (C8.pe_c c0 hr (by omega) rfl (pa_cons (pv 0) (pa_cons (pv 1) (pa_cons (pv 2) (pa_cons (pe_op op_sub (pv 3) pe_int) pa_nil))))) (pa_cons (C8.pe_c c0 hr (by omega) rfl (pa_cons (pv 0) (pa_cons (pv 1) (pa_cons (pv 2) (pa_cons (pe_op op_sub (pv 3) pe_int) pa_nil))))) pa_nil))))))
  pss_nil)
  (pss_cons (ps_if (pt_cmpR op_eq (pv 4) pe_int (nomark _))
  (pss_one (ps_ret (pe_tup (pa_cons pe_str (pa_cons (C8.pe_c c0 hr (by omega) rfl (pa_cons (pv 0) (pa_cons (pv 1) (pa_cons pe_str (pa_cons (pe_op op_sub (pv 3) pe_int) pa_nil))))) pa_nil)))))
  pss_nil)
  (pss_cons (ps_if (pt_cmpR op_eq (pv 4) pe_int (nomark _))
  (pss_one (ps_ret (pe_tup (pa_cons (pe_ix ix_list (pe_lst (pa_cons pe_str (pa_cons pe_str pa_nil))) (C8.pe_c c1 hr (by omega) rfl (pa_cons (pv 0) (pa_cons pe_int pa_nil))) (fun _ _ => rfl)) (pa_cons (C8.pe_c c0 hr (by omega) rfl (pa_cons (pv 0) (pa_cons (pv 1) (pa_cons (pv 2) (pa_cons (pe_op op_sub (pv 3) pe_int) pa_nil))))) pa_nil)))))
  pss_nil)
  (pss_cons (ps_set (i := 6) sc_u_law_expression.nd rfl (Or.inl rfl) (pe_ix ix_list (pe_lst (pa_cons pe_str (pa_cons pe_str (pa_cons pe_str (pa_cons pe_str (pa_cons pe_str pa_nil)))))) (C8.pe_c c1 hr (by omega) rfl (pa_cons (pv 0) (pa_cons pe_int pa_nil))) (fun _ _ => rfl)))
  (pss_one (ps_ret (pe_tup (pa_cons (pv 6) (pa_cons (C8.pe_c c0 hr (by omega) rfl (pa_cons (pv 0) (pa_cons (pv 1) (pa_cons (pv 2) (pa_cons (pe_op op_sub (pv 3) pe_int) pa_nil))))) (pa_cons (C8.pe_c c0 hr (by omega) rfl (pa_cons (pv 0) (pa_cons (pv 1) (pa_cons (pv 2) (pa_cons (pe_op op_sub (pv 3) pe_int) pa_nil))))) pa_nil))))))))))))))), ?_⟩
    refine ⟨_, rfl, S, nl, 10, rfl, by decide, L, fun r H1 r0 r1 g1 L1 => ?_⟩
    have Sh1 := (L.gs g1).sh Sh
    have q1 := q.g g1
    have leaf : tRet (tCall (spLLeaf K) [] C8.E0 (tCons (tVar 0) (tCons (tVar 1) (tCons (tVar 2) tNil)))) { nx := fun x H' => Q V.non H', rt := Q } [some (.ref S), some (.ref p), some (.str k.s), some (.int d), some (.int r), none, none] H1 :=
      ⟨_, rfl, _, rfl, _, rfl, S, nl, p, sh, k, rfl, L1, Sh1, Gd, fun t e H' g L' xe ke he => q1 t e H' g L' xe ke (by omega)⟩
    refine ⟨_, rfl, _, _, rfl, rfl, _, rfl, iteD (fun _ => leaf) (fun hd0 => ?_)⟩
    refine ⟨_, rfl, rfl, _, rfl, iteD (fun _ => leaf) (fun n0 => ?_)⟩
    obtain ⟨m', rfl⟩ : ∃ m', m = m' + 1 := ⟨m - 1, by omega⟩
    have hlt : d - 1 < ((m' + 1 : Nat) : Int) := by omega
    have nrm : ∀ {n : Nat}, n ≤ m' + 1 - 1 → n ≤ m' := fun h => h
    have q1' : OutE K S nl H1 Q sh k (m' + 1) := q1
    refine ⟨_, rfl, rfl, _, rfl, iteD (fun _ => ?_) (fun n1 => ?_)⟩
    · refine ⟨_, rfl, _, rfl, _, rfl, _, rfl, _, _, rfl, rfl, S, nl, p, sh, k, d - 1, rfl, L1, Sh1, Gd, Nat.succ_pos _, hlt, fun t1 x1 H2 g2 L2 xe1 ke1 he1 => ?_⟩
      have Sh2 := (L1.gs g2).sh Sh1
      refine ⟨_, rfl, _, rfl, _, rfl, _, rfl, _, _, rfl, rfl, S, nl, p, sh, k, d - 1, rfl, L2, Sh2, Gd, Nat.succ_pos _, hlt, fun t2 x2 H3 g3 L3 xe2 ke2 he2 => ⟨sz2, fun b hb => ?_⟩⟩
      have s4 := Same.new (o := HO.tup [.ref t1, .ref t2]) hb
      have L4 := L3.same s4
      have Sh4 := (Same.gs s4).sh ((L2.gs g3).sh Sh2)
      refine ⟨_, rfl, _, rfl, _, rfl, _, _, rfl, rfl, S, nl, p, sh, .flag, d - 1, rfl, L4, Sh4, Gd, Nat.succ_pos _, hlt, fun t3 x3 H5 g5 L5 xe3 ke3 he3 => ⟨sz2, fun c hc => ?_⟩⟩
      have s6 := Same.new (o := HO.tup [.str "if", .ref t3]) hc
      have eb := s6 _ _ (g5 _ _ (L3.ne hb).1 upd_same rfl)
      refine ⟨_, rfl, c, b, _, _, rfl, rfl, .inl (.inl upd_same), .inl (.inl eb), (fun h => by cases h), Nat.le_of_lt (small (show 4 ≤ 1000 by decide)), (fun h => by cases h), fun _ z hz => ?_⟩
      have s7 := Same.new (o := HO.tup [.str Wd.ite.s, .ref t3, .ref t1, .ref t2]) hz
      have gs5 : Gs H3 (upd (upd H5 c (.tup [.str "if", .ref t3])) z (.tup [.str Wd.ite.s, .ref t3, .ref t1, .ref t2])) := (Same.gs s4).trans ((L4.gs g5).trans ((Same.gs s6).trans (Same.gs s7)))
      refine q1' z (.n3 .ite x3 x1 x2) _ ((g2.trans (g3.trans ((Same.gx s4).trans (g5.trans (Same.gx s6))))).trans (Same.gx s7)) ((L5.same s6).same s7) (.n3 upd_same (((Same.gs s6).trans (Same.gs s7)).ex xe3) (((L2.gs g3).trans gs5).ex xe1) (gs5.ex xe2)) (.n3 ke3 ke1 ke2 (sig_if k)) ?_
      show max x3.ht (max x1.ht x2.ht) + 1 ≤ m' + 1
      have := nrm he1
      have := nrm he2
      have := nrm he3
      omega
    refine ⟨_, rfl, rfl, _, rfl, iteD (fun _ => ?_) (fun n2 => ?_)⟩
    · refine ⟨_, rfl, _, rfl, _, rfl, _, rfl, _, _, rfl, rfl, S, nl, p, sh, k, d - 1, rfl, L1, Sh1, Gd, Nat.succ_pos _, hlt, fun t1 x1 H2 g2 L2 xe1 ke1 he1 => ?_⟩
      have Sh2 := (L1.gs g2).sh Sh1
      exact ⟨_, rfl, _, rfl, _, rfl, _, rfl, _, _, rfl, rfl, S, nl, p, sh, k, d - 1, rfl, L2, Sh2, Gd, Nat.succ_pos _, hlt, fun t2 x2 H3 g3 L3 xe2 ke2 he2 => mk2 (wd := .orelse) (q1'.g (g2.trans g3)) L3 ((L2.gs g3).ex xe1) xe2 ke1 ke2 (sig_oe k) (nrm he1) (nrm he2)⟩
    refine ⟨_, rfl, rfl, _, rfl, iteD (fun h => ?_) (fun nf => ?_)⟩
    · obtain rfl : k = .flag := kd_eq (l := .flag) h
      exact ⟨_, rfl, _, rfl, _, rfl, S, nl, p, sh, d, rfl, L1, Sh1, Gd, Nat.succ_pos _, by omega, q1'⟩
    refine ⟨_, rfl, rfl, _, rfl, iteD (fun h => ?_) (fun nt => ?_)⟩
    · obtain rfl : k = .text := kd_eq (l := .text) h
      refine ⟨_, rfl, _, rfl, _, rfl, _, rfl, _, _, rfl, rfl, S, nl, p, sh, .text, d - 1, rfl, L1, Sh1, Gd, Nat.succ_pos _, hlt, fun t1 x1 H2 g2 L2 xe1 ke1 he1 => ?_⟩
      have Sh2 := (L1.gs g2).sh Sh1
      exact ⟨_, rfl, _, rfl, _, rfl, _, rfl, _, _, rfl, rfl, S, nl, p, sh, .text, d - 1, rfl, L2, Sh2, Gd, Nat.succ_pos _, hlt, fun t2 x2 H3 g3 L3 xe2 ke2 he2 => mk2 (wd := .joined) (q1'.g (g2.trans g3)) L3 ((L2.gs g3).ex xe1) xe2 ke1 ke2 rfl (nrm he1) (nrm he2)⟩
    have ek : k = .int := by
      cases k with
      | int => rfl
      | flag => exact absurd rfl nf
      | text => exact absurd rfl nt
    subst ek
    refine ⟨_, rfl, rfl, _, rfl, iteD (fun _ => ?_) (fun n3 => ?_)⟩
    · exact ⟨_, rfl, _, rfl, _, rfl, _, _, rfl, rfl, S, nl, p, sh, .text, d - 1, rfl, L1, Sh1, Gd, Nat.succ_pos _, hlt, fun t1 x1 H2 g2 L2 xe1 ke1 he1 => mk1 (wd := .len) (q1'.g g2) L2 xe1 ke1 rfl (nrm he1)⟩
    refine ⟨_, rfl, rfl, _, rfl, iteD (fun _ => ?_) (fun n4 => ?_)⟩
    · refine ⟨sz2, fun b hb => ?_⟩
      have s2 := Same.new (o := HO.lst [.str "neg", .str "abs"]) hb
      refine ⟨_, rfl, S, nl, 2, rfl, by decide, L1.same s2, fun x H2 x0 x1 g2 L2 => ?_⟩
      have e2 := g2 _ _ (L1.ne hb).1 upd_same rfl
      have gx : Gx S H1 H2 := (Same.gx s2).trans g2
      have Sh2 := (L1.gs gx).sh Sh1
      obtain ⟨wd, j, rfl, hj, hw⟩ : ∃ (wd : Wd) (j : Nat), x = (j : Int) ∧ ([.str "neg", .str "abs"] : List V)[j]? = some (.str wd.s) ∧ sig wd [.int] = some .int := by
        have hz : x = 0 ∨ x = 1 := by omega
        rcases hz with rfl | rfl
        · exact ⟨.neg, 0, rfl, rfl, rfl⟩
        · exact ⟨.abs, 1, rfl, rfl, rfl⟩
      exact ⟨b, _, _, _, rfl, rfl, .inl (.inl e2), at_of (j := j) rfl hj, _, rfl, _, rfl, _, rfl, _, rfl, _, _, rfl, rfl, S, nl, p, sh, .int, d - 1, rfl, L2, Sh2, Gd, Nat.succ_pos _, hlt, fun t1 x1 H3 g3 L3 xe1 ke1 he1 => mk1 (wd := wd) (q1'.g (gx.trans g3)) L3 xe1 ke1 hw (nrm he1)⟩
    refine ⟨Nat.le_of_lt (small (show 5 ≤ 1000 by decide)), fun b hb => ?_⟩
    have s2 := Same.new (o := HO.lst [.str "add", .str "sub", .str "mul", .str "div", .str "mod"]) hb
    refine ⟨_, rfl, S, nl, 5, rfl, by decide, L1.same s2, fun x H2 x0 x1 g2 L2 => ?_⟩
    have e2 := g2 _ _ (L1.ne hb).1 upd_same rfl
    have gx : Gx S H1 H2 := (Same.gx s2).trans g2
    have Sh2 := (L1.gs gx).sh Sh1
    obtain ⟨wd, j, rfl, hj, hw⟩ : ∃ (wd : Wd) (j : Nat), x = (j : Int) ∧ ([.str "add", .str "sub", .str "mul", .str "div", .str "mod"] : List V)[j]? = some (.str wd.s) ∧ wd.isAri = true := by
      have hz : x = 0 ∨ x = 1 ∨ x = 2 ∨ x = 3 ∨ x = 4 := by omega
      rcases hz with rfl | rfl | rfl | rfl | rfl
      · exact ⟨.add, 0, rfl, rfl, rfl⟩
      · exact ⟨.sub, 1, rfl, rfl, rfl⟩
      · exact ⟨.mul, 2, rfl, rfl, rfl⟩
      · exact ⟨.div, 3, rfl, rfl, rfl⟩
      · exact ⟨.mod, 4, rfl, rfl, rfl⟩
    refine ⟨b, _, _, _, rfl, rfl, .inl (.inl e2), at_of (j := j) rfl hj, ?_⟩
    refine ⟨_, rfl, _, rfl, _, rfl, _, rfl, _, rfl, _, _, rfl, rfl, S, nl, p, sh, .int, d - 1, rfl, L2, Sh2, Gd, Nat.succ_pos _, hlt, fun t1 x1 H3 g3 L3 xe1 ke1 he1 => ?_⟩
    have Sh3 := (L2.gs g3).sh Sh2
    exact ⟨_, rfl, _, rfl, _, rfl, _, rfl, _, _, rfl, rfl, S, nl, p, sh, .int, d - 1, rfl, L3, Sh3, Gd, Nat.succ_pos _, hlt, fun t2 x2 H4 g4 L4 xe2 ke2 he2 => mk2 (wd := wd) (q1'.g (gx.trans (g3.trans g4))) L4 ((L3.gs g4).ex xe1) xe2 ke1 ke2 (sig_ar hw) (nrm he1) (nrm he2)⟩
end
end Ms
namespace Ms
open PySem PySem.Spec PyProof.Rows L2
section
variable {P : Program} {w : World} {K : PySem.W.Frag} {mg : Str → Option Value} {base : Heap}
/-! _law_lies -/
def spLies (K : PySem.W.Frag) (n : Nat) : Sp := fun vs H Q _ => ∃ (v vp : V) (p pl va : Addr) (e : Ex) (k : Kd) (sh : Shp) (pp : Pp) (ps : List Int) (us : List V), vs = [.ref p, v, vp, .ref pl, .ref va] ∧ ExAt H v e ∧ e.ht < n ∧ ShAt (shC K) H p sh ∧ FitP sh e k pp ∧ PapAt K H vp pp ∧
  SqT K H pl (ps.map V.int) ∧ SqT K H va us ∧ CellOk sh ps us ∧ Lies sh ps us e pp ∧ ∀ H', Same H H' → Q (.bl true) H'
theorem sc_u_law_lies : FnScope ["_law_shape_here", "_law_expression_here", "_law_paper", "_law_place_here", "_law_values_here", "_law_value", "_law_span", "_law_parts", "_law_k"] ["_law_shape_here", "_law_expression_here", "_law_paper", "_law_place_here", "_law_values_here"] (defScope s_u_law_lies) := ⟨rfl, rfl, rfl, by decide +kernel, rfl, by decide +kernel, by decide +kernel⟩
theorem ok_u_law_lies (T : Cn w K mg base) : ∀ n, C8.Cal P w K mg base (n + 5) "_law_lies" (spLies K n) []
  | 0 => by
    have no : ∀ vs H Q E, ¬ spLies K 0 vs H Q E := fun vs H Q E h => by
      obtain ⟨_, _, _, _, _, _, _, _, _, _, _, _, _, h, _⟩ := h
      exact absurd h (Nat.not_lt_zero _)
    exact T.cal (i := 61) (d := d_u_law_lies) (k := 4) rfl rfl (by decide +kernel) rfl rfl sc_u_law_lies (fun _ _ _ _ _ _ us hl => match us, hl with | [_, _, _, _, _], _ => rfl) (fun vs H Q E h => (no _ _ _ _ h).elim) (fun cdv A outer s H vs Q E hr hcd h => (no _ _ _ _ h).elim)
  | n + 1 => by
    have c0 := ok_u_law_lies T n
    refine T.cal (i := 61) (d := d_u_law_lies) (k := (n+5)) rfl rfl (by decide +kernel) rfl rfl sc_u_law_lies (fun _ _ _ _ _ _ us hl => match us, hl with | [_, _, _, _, _], _ => rfl) (fun vs H Q E h => ?_) (fun cdv A outer s H vs Q E hr hcd h => ?_)
    · obtain ⟨_, _, _, _, _, _, _, _, _, _, _, rfl, _⟩ := h
      rfl
    obtain ⟨v, vp, p, pl, va, e, k, sh, pp, ps, us, rfl, hx, hn, S, f, hp, hpl, hva, cok, ly, q⟩ := h
    have c1 := ok_value_of (P := P) T (n + 1)
    have c2 := ok_parts_of (P := P) T
    have hu : _ + 1 < cLine := hu_of hr
    refine ⟨_, (pss_cons (ps_set (i := 5) sc_u_law_lies.nd rfl (Or.inl rfl) (C8.pe_c c1 hr (by omega) rfl (pa_cons (pv 1) (pa_cons (pv 0) (pa_cons (pv 3) (pa_cons (pv 4) pa_nil))))))
  (pss_cons (ps_set (i := 6) sc_u_law_lies.nd rfl (Or.inl rfl) (pe_ix ix_tup (pv 2) pe_int (fun _ _ => rfl)))
  (pss_cons (ps_if (PW.pt (pw_and (pt_cmpR op_isN (pv 5) pe_non (nomark _)) (pw_and1 (pt_not (pt_val (pe_ix ix_tup (pv 6) pe_int (fun _ _ => rfl)))))))
  (pss_one (ps_ret pe_bl))
  pss_nil)
  (pss_cons (ps_if (PW.pt (pw_and (pt_cmpR op_notN (pv 5) pe_non (nomark _)) (pw_and1 (PW.pt (pw_or (pt_cmpR op_isN (pe_ix ix_tup (pv 6) pe_int (fun _ _ => rfl)) pe_non (nomark _)) (pw_or (pt_cmpR (op_ltK hu) (pv 5) (pe_ix ix_tup (pv 6) pe_int (fun _ _ => rfl)) (nomark _)) (pw_or1 (pt_cmpR (op_gtK hu) (pv 5) (pe_ix ix_tup (pv 6) pe_int (fun _ _ => rfl)) (nomark _)))))))))
  (pss_one (ps_ret pe_bl))
  pss_nil)
  (pss_cons (ps_set (i := 7) sc_u_law_lies.nd rfl (Or.inl rfl) (C8.pe_c c2 hr (by omega) rfl (pa_cons (pv 1) pa_nil)))
  (pss_cons (ps_for PassesOwn.never rfl (pi_range1 (by rfl) (T.fre "range" (by decide +kernel)) (pa_cons (pe_callB call_len_seq (by rfl) (T.fre "len" (by decide +kernel)) (by decide +kernel) (pa_cons (pv 7) pa_nil)) pa_nil)) (pg_name (i := 8) sc_u_law_lies.nd rfl (Or.inl rfl))
  (pss_one (ps_if (pt_not (pt_val (C8.pe_c c0 hr (by omega) rfl (pa_cons (pv 0) (pa_cons (pe_ix ix_list (pv 7) (pv 8) (fun _ _ => rfl)) (pa_cons (pe_ix ix_tup (pe_ix ix_tup (pv 2) pe_int (fun _ _ => rfl)) (pv 8) (fun _ _ => rfl)) (pa_cons (pv 3) (pa_cons (pv 4) pa_nil))))))))
  (pss_one (ps_ret pe_bl))
  pss_nil)))
  (pss_one (ps_ret pe_bl)))))))), ?_⟩
    obtain ⟨t, st, pt, qs, rfl, ht, hst, hpt, hqs⟩ := hp.any
    refine ⟨_, rfl, _, rfl, _, rfl, _, rfl, v, p, pl, va, e, k, sh, ps, us, rfl, hx, hn, S, f.has, hpl, hva, cok, fun H1 g1 => ?_⟩
    have top := lies_top f ly
    have vo := evE_isO cok f.has
    generalize evE sh ps us e = x at top vo ⊢
    have t1 : ∀ {a : Addr} {xs : List V}, SqT K H a xs → SqT K H1 a xs := fun h => (Same.gs g1).tupl h
    refine ⟨_, rfl, _, _, _, _, rfl, rfl, t1 ht, at_of (j := 0) rfl rfl, ?_⟩
    have rest : tSeq (tAsg (tCall spPartsOf [] C8.E0 (tCons (tVar 1) tNil)) (gName 7)) (tSeq (tFor (iRng1 (tCons (tCB (fun xs H_1 Q => ∃ p ys, xs = [V.ref p] ∧ (SqL K H_1 p ys ∨ SqT K H_1 p ys) ∧ Q (V.int ↑ys.length) H_1) (tCons (tVar 7) tNil)) tNil)) (gName 8) (tIfS (tNot (tB (tCall (spLies K n) [] C8.E0 (tCons (tVar 0) (tCons (tOp (rIxL K) (tVar 7) (tVar 8)) (tCons (tOp (rIxT K) (tOp (rIxT K) (tVar 2) (tC (V.int 1))) (tVar 8)) (tCons (tVar 3) (tCons (tVar 4) tNil)))))))) (tRet (tC (V.bl false))) tNext)) (tRet (tC (V.bl true))))
        { nx := fun x H' => Q V.non H', rt := Q } [some (.ref p), some v, some (.ref t), some (.ref pl), some (.ref va), some x, some (.ref st), none, none] H1 := by
      refine ⟨_, rfl, v, e, rfl, (Same.gs g1).ex hx, fun l ws H2 g2 n2 e2 hw => ?_⟩
      have g12 := g1.trans g2
      have lw := Paired.len hw
      have l3 : e.parts.length ≤ 3 := parts_len e
      refine ⟨_, rfl, _, _, rfl, .inl (.inl (.inl e2)), _, rfl, by omega, by omega, ?_⟩
      refine for_range (lo := 0) (n := ((ws.length : Nat) : Int).toNat) (fun i σ H' => (∃ o, σ = [some (.ref p), some v, some (.ref t), some (.ref pl), some (.ref va), some x, some (.ref st), some (.ref l), o]) ∧ Same H1 H' ∧ H' l = some (.lst ws)) ⟨⟨_, rfl⟩, g2, e2⟩ (fun i σ H3 hi hP => ?_) (fun σ H3 hP => ?_)
      · obtain ⟨⟨o, rfl⟩, g3, e3⟩ := hP
        rw [Int.toNat_natCast] at hi
        obtain ⟨a, ea, xa⟩ := paired_get hw (List.getElem?_eq_getElem hi)
        obtain ⟨ks, tr, _⟩ := f.trip
        obtain ⟨ka, q1, ek, eq1, fa⟩ := tr.at ea
        obtain ⟨u, eu, pu⟩ := paired_getR hqs eq1
        have g1' : Gs H H3 := Same.gs (g1.trans g3)
        refine ⟨_, rfl, _, rfl, _, rfl, _, _, _, _, rfl, rfl, .inl (.inl e3), at_of (j := i) (by omega) (List.getElem?_eq_getElem hi), _, rfl, _, _, _, _, rfl, rfl, g1'.tupl ht, at_of (j := 1) rfl rfl, _, rfl, _, _, _, _, rfl, rfl, g1'.tupl hpt, at_of (j := i) (by omega) eu, _, rfl, _, rfl, ?_⟩
        refine ⟨_, u, p, pl, va, a, ka, sh, q1, ps, us, rfl, (Same.gs g3).ex xa, Nat.lt_of_lt_of_le (Ex.ht_parts (List.mem_of_getElem? ea)) (by omega), g1'.sh S, fa, g1'.pap pu, g1'.tupl hpl, g1'.tupl hva, cok, lies_at f ly ea eq1, fun H4 g4 => ⟨_, rfl, iteF ⟨⟨_, rfl⟩, g3.trans g4, g4 _ _ e3⟩⟩⟩
      · obtain ⟨⟨o, rfl⟩, g3, e3⟩ := hP
        exact q H3 (g1.trans g3)
    by_cases hx0 : x = .non
    · subst hx0
      have hms := inS_non.mp top
      refine ⟨_, rfl, rfl, _, rfl, iteD (fun _ => ⟨_, rfl, _, _, _, _, rfl, rfl, t1 hst, at_of (j := 2) rfl rfl, _, rfl, iteC (fun _ => ?_) (fun h => by rw [hms] at h; cases h)⟩) (fun h => absurd rfl h)⟩
      exact ⟨_, rfl, rfl, _, rfl, iteN (fun h => absurd rfl h) (fun _ => iteF rest)⟩
    · obtain ⟨_, lo, l1, l2⟩ := top.resolve_left fun z => hx0 z.1
      obtain ⟨k1, k2⟩ := spanK_v f.sp lo
      have vv := vo.resolve_left hx0
      refine ⟨_, rfl, rfl, _, rfl, iteD (fun h => absurd h hx0) (fun _ => iteF ?_)⟩
      refine ⟨_, rfl, rfl, _, rfl, iteN (fun _ => ?_) (fun h => absurd h hx0)⟩
      refine ⟨_, rfl, _, _, _, _, rfl, rfl, t1 hst, at_of (j := 0) rfl rfl, rfl, _, rfl, iteD (fun h => absurd h lo) (fun _ => ?_)⟩
      refine ⟨_, rfl, _, rfl, _, _, _, _, rfl, rfl, t1 hst, at_of (j := 0) rfl rfl, vv.sk k1, _, rfl, iteB (fun h => by rw [ltB_le.mp h] at l1; cases l1) (fun _ => ?_)⟩
      refine ⟨_, rfl, _, rfl, _, _, _, _, rfl, rfl, t1 hst, at_of (j := 1) rfl rfl, vv.sk k2, _, rfl, iteB (fun h => by rw [ltB_le.mp h] at l2; cases l2) (fun _ => rest)⟩
end
end Ms
namespace Ms
open PySem PySem.Spec PyProof.Rows L2
theorem Trip.snoc {sh : Shp} {a : Ex} {k : Kd} {p : Pp} (f : FitP sh a k p) : ∀ {es : List Ex} {ks : List Kd} {ps : List Pp}, Trip sh es ks ps → Trip sh (es ++ [a]) (ks ++ [k]) (ps ++ [p])
  | _, _, _, .nil => .cons f .nil
  | _, _, _, .cons h t => .cons h (Trip.snoc f t)
theorem fit_mk {sh : Shp} {e : Ex} {k : Kd} {s : Sn} {ks : List Kd} {pps : List Pp} (hk : HasK sh e k) (hs : SpanK k s) (t : Trip sh e.parts ks pps) (hsg : e.leaf = false → sig e.wd ks = some k) : ∃ pp : Pp, pp.s = s ∧ pp.parts = pps ∧ FitP sh e k pp := by
  cases e with
  | n1 w a =>
    cases t with
    | cons f1 t1 => cases t1; exact ⟨.n1 s _, rfl, rfl, .n1 f1 (hsg rfl) hs⟩
  | n2 w a b =>
    cases t with
    | cons f1 t1 => cases t1 with
      | cons f2 t2 => cases t2; exact ⟨.n2 s _ _, rfl, rfl, .n2 f1 f2 (hsg rfl) hs⟩
  | n3 w a b c =>
    cases t with
    | cons f1 t1 => cases t1 with
      | cons f2 t2 => cases t2 with
        | cons f3 t3 => cases t3; exact ⟨.n3 s _ _ _, rfl, rfl, .n3 f1 f2 f3 (hsg rfl) hs⟩
  | _ => cases t; exact ⟨.l s, rfl, rfl, .l rfl hk hs⟩
theorem pap_mk {K : PySem.W.Frag} {H : Hp} {t st pt : Addr} {us : List V} {pp : Pp} (ht : SqT K H t [.ref st, .ref pt]) (hst : SqT K H st pp.s.vs) (hpt : SqT K H pt us) (hp : Paired (PapAt K H) us pp.parts) : PapAt K H (.ref t) pp := by
  cases pp with
  | l s => cases hp; exact .l ht hst hpt
  | n1 s a => cases hp with
    | cons p1 t1 => cases t1; exact .n1 ht hst hpt p1
  | n2 s a b => cases hp with
    | cons p1 t1 => cases t1 with
      | cons p2 t2 => cases t2; exact .n2 ht hst hpt p1 p2
  | n3 s a b c => cases hp with
    | cons p1 t1 => cases t1 with
      | cons p2 t2 => cases t2 with
        | cons p3 t3 => cases t3; exact .n3 ht hst hpt p1 p2 p3
theorem cells_get {K : PySem.W.Frag} {H : Hp} {k : List Key} : ∀ {kvs : List (List Key × V)} {cs : List (List Int × List V)}, Paired (KvAt K H) kvs cs → (∃ v, (k, v) ∈ kvs) → ∃ c a, c ∈ cs ∧ k = c.1.map Sum.inl ∧ valV kvs k = some (.ref a) ∧ SqT K H a c.2
  | _, _, .nil, ⟨_, h⟩ => by cases h
  | kv :: kvs, c :: cs, .cons h t, ⟨v, hm⟩ => by
    by_cases e : kv.1 = k
    · obtain ⟨e1, a, e2, e3⟩ := h
      exact ⟨c, a, List.mem_cons_self, by rw [← e, e1], by rw [valV_pos e, e2], e3⟩
    · have hm2 : (k, v) ∈ kvs := by
        rcases List.mem_cons.mp hm with z | z
        · exact absurd (by rw [← z]) e
        · exact z
      obtain ⟨c', a, h1, h2, h3, h4⟩ := cells_get t ⟨v, hm2⟩
      exact ⟨c', a, List.mem_cons_of_mem _ h1, h2, by rw [valV_neg e]; exact h3, h4⟩
section
variable {P : Program} {w : World} {K : PySem.W.Frag} {mg : Str → Option Value} {base : Heap}
theorem Lw.gk {S nl : Addr} {H H' : Hp} (l : Lw K S nl H) (g : Gk H H') (tb : Tabs K H') : Lw K S nl H' := by
  obtain ⟨a, ns, e1, e2, e3⟩ := l.st
  exact ⟨⟨a, ns, g _ _ e1 rfl, g _ _ e2 rfl, e3⟩, tb⟩
/-! _law_drawn -/
def spDrawn (K : PySem.W.Frag) (n : Nat) : Sp := fun vs H Q _ => ∃ (S nl p D : Addr) (v vb vm : V) (e : Ex) (k : Kd) (sh : Shp) (bx : List (Int × Int)) (ms : List Sn) (kvs : List (List Key × V)) (cs : List (List Int × List V)), vs = [.ref S, .ref p, vb, vm, v, .ref D] ∧ Lw K S nl H ∧ Bxm K H p vb vm sh bx ms ∧ ExAt H v e ∧ e.ht < n ∧ HasK sh e k ∧
  H D = some (.dT kvs) ∧ CellsAt K H kvs sh cs ∧ ∀ t H' pp, Gx S H H' → Lw K S nl H' → PapAt K H' (.ref t) pp → FitP sh e k pp → Q (.ref t) H'
theorem sc_u_law_drawn : FnScope ["_law_state", "_law_shape_here", "_law_box_here", "_law_marks", "_law_expression_here", "_law_cells_here", "_law_span", "_law_choice", "_law_values_here", "_law_place_here", "_law_known", "_law_value", "_law_parts", "_law_part"] ["_law_state", "_law_shape_here", "_law_box_here", "_law_marks", "_law_expression_here", "_law_cells_here"] (defScope s_u_law_drawn) := ⟨rfl, rfl, rfl, by decide +kernel, rfl, by decide +kernel, by decide +kernel⟩
theorem ok_u_law_drawn (T : Cn w K mg base) : ∀ n, C8.Cal P w K mg base (n + 9) "_law_drawn" (spDrawn K n) []
  | 0 => by
    have no : ∀ vs H Q E, ¬ spDrawn K 0 vs H Q E := fun vs H Q E h => by
      obtain ⟨_, _, _, _, _, _, _, _, _, _, _, _, _, _, _, _, _, _, h, _⟩ := h
      exact absurd h (Nat.not_lt_zero _)
    exact T.cal (i := 60) (d := d_u_law_drawn) (k := 8) rfl rfl (by decide +kernel) rfl rfl sc_u_law_drawn (fun _ _ _ _ _ _ us hl => match us, hl with | [_, _, _, _, _, _], _ => rfl) (fun vs H Q E h => (no _ _ _ _ h).elim) (fun cdv A outer s H vs Q E hr hcd h => (no _ _ _ _ h).elim)
  | n + 1 => by
    have c0 := ok_u_law_drawn T n
    refine T.cal (i := 60) (d := d_u_law_drawn) (k := (n+9)) rfl rfl (by decide +kernel) rfl rfl sc_u_law_drawn (fun _ _ _ _ _ _ us hl => match us, hl with | [_, _, _, _, _, _], _ => rfl) (fun vs H Q E h => ?_) (fun cdv A outer s H vs Q E hr hcd h => ?_)
    · obtain ⟨_, _, _, _, _, _, _, _, _, _, _, _, _, _, rfl, _⟩ := h
      rfl
    obtain ⟨S, nl, p, D, v, vb, vm, e, k, sh, bx, ms, kvs, cs, rfl, L, E0, hx, hn, hk, hD, C, q⟩ := h
    have c1 := ok_value_of (P := P) T (n + 1)
    have c2 := ok_parts_of (P := P) T
    have c3 := ok_span_of (P := P) T (n + 1)
    have c4 := ok_u_law_next (P := P) T
    have hu : _ + 1 < cLine := hu_of hr
    refine ⟨_, (pss_cons (ps_set (i := 6) sc_u_law_drawn.nd rfl (Or.inl rfl) (C8.pe_c c3 hr (by omega) rfl (pa_cons (pv 4) (pa_cons (pv 1) (pa_cons (pv 2) (pa_cons (pv 3) pa_nil))))))
  (pss_cons (ps_set (i := 7) sc_u_law_drawn.nd rfl (Or.inl rfl) (C8.pe_c c4 hr (by omega) rfl (pa_cons (pv 0) (pa_cons pe_int pa_nil))))
  (C8.pss_cut (ps_if (pt_cmpR op_eq (pv 7) pe_int (nomark _))
  (pss_cons (ps_lock (ps_setLc (i := 8) (own := [("_law_place_here", 9)])  (by rfl) sc_u_law_drawn.nd rfl rfl (sw_true rfl rfl rfl (by decide +kernel)) (pi_keys (pv 5)) (blkOk_by (own := [("_law_place_here", 9)]) (N := ["_law_state", "_law_shape_here", "_law_box_here", "_law_marks", "_law_expression_here", "_law_cells_here", "_law_span", "_law_choice", "_law_values_here", "_law_place_here", "_law_known", "_law_value", "_law_parts", "_law_part"]) (sc := defScope s_u_law_drawn) (by decide +kernel)) (fun _ _ _ _ _ => (pg_name (i := 9) sc_u_law_drawn.nd rfl (Or.inl rfl))) (fun _ _ _ _ _ => pts_nil) (fun _ _ _ _ _ => (C8.pe_c c1 hr (by omega) rfl (pa_cons (pv 4) (pa_cons (pv 1) (pa_cons (pv 9) (pa_cons (pe_dget hu (pv 5) (pv 9) (fun _ _ => rfl)) pa_nil))))))))
  (pss_cons (ps_setLc (i := 10) (own := [("_law_value", 11)])  (by rfl) sc_u_law_drawn.nd rfl rfl (sw_true rfl rfl rfl (by decide +kernel)) (pi_list (pv 8)) (blkOk_by (own := [("_law_value", 11)]) (N := ["_law_state", "_law_shape_here", "_law_box_here", "_law_marks", "_law_expression_here", "_law_cells_here", "_law_span", "_law_choice", "_law_values_here", "_law_place_here", "_law_known", "_law_value", "_law_parts", "_law_part"]) (sc := defScope s_u_law_drawn) (by decide +kernel)) (fun _ _ _ _ _ => (pg_name (i := 11) sc_u_law_drawn.nd rfl (Or.inl rfl))) (fun _ _ _ _ _ => (pts_one (pt_cmpR op_notN (pv 11) pe_non (nomark _)))) (fun _ _ _ _ _ => (pv 11)))
  (pss_one (ps_if (pt_cmpR op_gt (pe_callB call_len_seq (by rfl) (T.fre "len" (by decide +kernel)) (by decide +kernel) (pa_cons (pv 10) pa_nil)) pe_int (nomark _))
  (pss_one (ps_set (i := 6) sc_u_law_drawn.nd rfl (Or.inl rfl) (pe_tup (pa_cons (pe_callB (cr_minK rfl hu) (by rfl) (T.fre "min" (by decide +kernel)) (by decide +kernel) (pa_cons (pv 10) pa_nil)) (pa_cons (pe_callB (cr_maxK rfl hu) (by rfl) (T.fre "max" (by decide +kernel)) (by decide +kernel) (pa_cons (pv 10) pa_nil)) (pa_cons (pe_cmpR op_in_seq pe_non (pv 8) (by rfl)) pa_nil))))))
  pss_nil))))
  pss_nil)
  (C8.pss_cut (ps_if (PW.pt (pw_and (pt_cmpR op_eq (pv 7) pe_int (nomark _)) (pw_and1 (pt_cmpR op_notN (pe_ix ix_tup (pv 6) pe_int (fun _ _ => rfl)) pe_non (nomark _)))))
  (pss_one (ps_set (i := 6) sc_u_law_drawn.nd rfl (Or.inl rfl) (pe_tup (pa_cons (pe_ix ix_tup (pv 6) pe_int (fun _ _ => rfl)) (pa_cons (pe_ix ix_tup (pv 6) pe_int (fun _ _ => rfl)) (pa_cons pe_bl pa_nil))))))
  pss_nil)
  (C8.pss_cut (ps_if (PW.pt (pw_and (pt_cmpR op_eq (pv 7) pe_int (nomark _)) (pw_and (pt_cmpR op_notN (pe_ix ix_tup (pv 6) pe_int (fun _ _ => rfl)) pe_non (nomark _)) (pw_and (pt_val (pe_callB call_isi (by rfl) (T.fre "isinstance" (by decide +kernel)) (by decide +kernel) (pa_cons (pe_ix ix_tup (pv 6) pe_int (fun _ _ => rfl)) (pa_cons (pe_bltn (v := .ty "int") (by rfl) (T.fre "int" (by decide +kernel)) (by decide +kernel) rfl) pa_nil)))) (pw_and1 (pt_not (pt_val (pe_callB call_isi (by rfl) (T.fre "isinstance" (by decide +kernel)) (by decide +kernel) (pa_cons (pe_ix ix_tup (pv 6) pe_int (fun _ _ => rfl)) (pa_cons (pe_bltn (v := .ty "bool") (by rfl) (T.fre "bool" (by decide +kernel)) (by decide +kernel) rfl) pa_nil))))))))))
  (pss_one (ps_set (i := 6) sc_u_law_drawn.nd rfl (Or.inl rfl) (pe_tup (pa_cons (pe_callB (call_max2 rfl) (by rfl) (T.fre "max" (by decide +kernel)) (by decide +kernel) (pa_cons (pe_op op_sub pe_int (pe_op op_pow pe_int pe_int)) (pa_cons (pe_op op_sub (pe_ix ix_tup (pv 6) pe_int (fun _ _ => rfl)) (C8.pe_c c4 hr (by omega) rfl (pa_cons (pv 0) (pa_cons pe_int pa_nil)))) pa_nil))) (pa_cons (pe_callB (call_min2 rfl) (by rfl) (T.fre "min" (by decide +kernel)) (by decide +kernel) (pa_cons (pe_op op_sub (pe_op op_pow pe_int pe_int) pe_int) (pa_cons (pe_op op_add (pe_ix ix_tup (pv 6) pe_int (fun _ _ => rfl)) (C8.pe_c c4 hr (by omega) rfl (pa_cons (pv 0) (pa_cons pe_int pa_nil)))) pa_nil))) (pa_cons (pe_ix ix_tup (pv 6) pe_int (fun _ _ => rfl)) pa_nil))))))
  pss_nil)
  (pss_cons (ps_set (i := 12) sc_u_law_drawn.nd rfl (Or.inl rfl) (pe_callTy call_tuple_of (by rfl) (T.fre "tuple" (by decide +kernel)) (by decide +kernel) (pa_cons (pe_lc (own := [("_law_part", 13)])  (by rfl) sc_u_law_drawn.nd (pi_list (C8.pe_c c2 hr (by omega) rfl (pa_cons (pv 4) pa_nil))) (blkOk_by (own := [("_law_part", 13)]) (N := ["_law_state", "_law_shape_here", "_law_box_here", "_law_marks", "_law_expression_here", "_law_cells_here", "_law_span", "_law_choice", "_law_values_here", "_law_place_here", "_law_known", "_law_value", "_law_parts", "_law_part"]) (sc := defScope s_u_law_drawn) (by decide +kernel)) (fun _ _ _ _ _ => (pg_name (i := 13) sc_u_law_drawn.nd rfl (Or.inl rfl))) (fun _ _ _ _ _ => pts_nil) (fun _ _ _ _ _ => (C8.pe_c c0 hr (by omega) rfl (pa_cons (pv 0) (pa_cons (pv 1) (pa_cons (pv 2) (pa_cons (pv 3) (pa_cons (pv 13) (pa_cons (pv 5) pa_nil))))))))) pa_nil)))
  (pss_one (ps_ret (pe_tup (pa_cons (pv 6) (pa_cons (pv 12) pa_nil))))))))))), ?_⟩
    refine ⟨_, rfl, _, rfl, _, rfl, _, rfl, v, vb, vm, p, e, k, sh, bx, ms, rfl, hx, hn, hk, E0, L.tb, fun st sn H1 g1 tb1 hst hs => ?_⟩
    have L1 := L.gk g1 tb1
    refine ⟨_, rfl, S, nl, 6, rfl, by decide, L1, fun r H2 r0 r1 g2 L2 => ?_⟩
    have gg2 : Gx S H H2 := g1.gx.trans g2
    have DS : D ≠ S := by
      obtain ⟨a, ns, e1, _⟩ := L.st
      exact fun z => by rw [z, e1] at hD; cases hD
    have hD2 : H2 D = some (.dT kvs) := gg2 _ _ DS hD rfl
    refine ⟨fun σ' H' => (∃ st' s' o8 o9 o10 o11 o12 o13, σ' = [some (.ref S), some (.ref p), some vb, some vm, some v, some (.ref D), some (.ref st'), some (.int r), o8, o9, o10, o11, o12, o13] ∧ SqT K H' st' (Sn.vs s') ∧ SpanK k s') ∧ Gx S H H' ∧ Lw K S nl H' ∧ H' D = some (.dT kvs), ?_, ?_⟩
    · refine ⟨_, rfl, rfl, _, rfl, iteD (fun _ => ?_) (fun _ => ?_)⟩
      · refine ⟨D, .dT kvs, hD2, trivial, fun od => ?_⟩
        refine ⟨_, rfl, D, od, rfl, .inr ⟨kvs, upd_same, fun D1 hD1 => ?_⟩⟩
        have gsL : Gs H (upd H2 D (.frz od (.dT kvs))) := (L.gs gg2).trans (lock_gs hD2)
        have lkv : kvs.length = cs.length := Paired.len C.kv
        have l17 := C.len
        refine lc_it walk_keysT (fun j H' => Same (upd H2 D (.frz od (.dT kvs))) H' ∧ ∃ ws : List V, H' D1 = some (.lst ws) ∧ ws.length = j ∧ ∀ x ∈ ws, IsO k x) ⟨Same.new hD1, [], upd_same, rfl, fun x hx => by cases hx⟩ (fun j H' hj hP => hP.1 _ _ upd_same) (fun j x H3 H4 hj hP hY => ?_) (fun H3 hP => ?_)
        · obtain ⟨rfl, kk, vv, qq, ek, rfl, eq⟩ := hY
          obtain ⟨g3, ws, ew, lws, ho⟩ := hP
          obtain ⟨c, a, hc, ekk, evl, ha⟩ := cells_get C.kv ⟨vv, List.mem_of_getElem? ek⟩
          have gs3 : Gs H H4 := gsL.trans (Same.gs g3)
          have dg : DGet H4 D (.ref qq) (some (.ref a)) := .inr ⟨kvs, kk, qq, .inr ⟨od, g3 _ _ upd_same⟩, rfl, eq, evl.symm⟩
          have hq : SqT K H4 qq (c.1.map V.int) := by
            rw [ekk, map_kV] at eq
            exact .inl (.inl eq)
          refine ⟨rfl, _, rfl, _, rfl, _, rfl, _, rfl, _, rfl, D, .ref a, rfl, dg, v, p, qq, a, e, k, sh, c.1, c.2, rfl, gs3.ex hx, hn, gs3.sh E0.shp, hk, hq, gs3.tupl ha, C.ok c hc, fun H5 g5 => ?_⟩
          refine ⟨ws, g5 _ _ ew, small (by omega), Same.put (g3.trans g5) hD1, ws ++ [evE sh c.1 c.2 e], upd_same, by rw [List.length_append, lws]; rfl, fun y hy => ?_⟩
          rcases List.mem_append.mp hy with z | z
          · exact ho y z
          · rw [List.mem_singleton.mp z]; exact evE_isO (C.ok c hc) hk
        · obtain ⟨g3, ws, ew, lws, ho⟩ := hP
          have eD : H3 D = some (.frz od (.dT kvs)) := g3 _ _ upd_same
          have gU := relock hD2 g3
          have nD : D1 ≠ D := fun z => by rw [z, upd_same] at hD1; cases hD1
          have ewU : upd H3 D (.dT kvs) D1 = some (.lst ws) := by rw [upd_ne nD]; exact ew
          have eDU : upd H3 D (.dT kvs) D = some (.dT kvs) := upd_same
          refine ⟨eD, ?_⟩
          generalize upd H3 D (.dT kvs) = HU at gU ewU eDU ⊢
          have LU := L2.same gU
          refine ⟨_, rfl, D1, rfl, ⟨_, .inl (.inl ewU)⟩, fun D2 hD2' => ?_⟩
          refine lc_list (K := K) (a := D1) (xs := ws) (PvF HU D2 notN ws) (PvF.zero hD2') (fun i H' hi hP => .inl (.inl (hP.1 _ _ ewU))) (fun i x H' hi hP => ?_) (fun H4 hP => ?_)
          · refine ⟨rfl, _, rfl, rfl, _, rfl, iteN (fun h => ?_) (fun h => ?_)⟩
            · exact ⟨_, rfl, PvF.yes hD2' hP hi (by unfold notN; rw [decide_eq_false h]; rfl) (by omega)⟩
            · exact PvF.no hP hi (by unfold notN; rw [decide_eq_true h]; rfl)
          · have eK := hP.all
            have g4 := hP.1
            have ew4 := g4 _ _ ewU
            have hv := notN_v ho
            have gx4 : Gx S H H4 := gg2.trans (Same.gx (gU.trans g4))
            have L4 := LU.same g4
            refine ⟨_, rfl, _, _, rfl, .inl (.inl (.inl eK)), _, _, rfl, rfl, _, rfl, iteD (fun h => ?_) (fun _ => ?_)⟩
            · cases hkn : ws.filter notN with
              | nil =>
                rw [hkn] at h
                exact absurd h (by show ¬ (0 : Int) < 0; decide)
              | cons x r' =>
                rw [hkn] at eK hv
                have sk := skAll_of hv
                refine ⟨_, rfl, D2, x, r', rfl, .inl (.inl eK), sk, _, rfl, D2, x, r', rfl, .inl (.inl eK), sk, _, rfl, D1, ws, rfl, .inl (.inl (.inl ew4)), rfl, List.all_eq_true.mpr fun x hx => flat_sc (ho x hx).sc, sz3, fun z hz => ?_⟩
                have s5 := Same.new (o := HO.tup [minV x r', maxV x r', .bl (inV .non ws)]) hz
                exact ⟨⟨z, ⟨minV x r', maxV x r', inV .non ws⟩, _, _, _, _, _, _, rfl, .inl (.inl upd_same), .inr ⟨hv _ (minV_mem x r'), hv _ (maxV_mem x r')⟩⟩, gx4.trans (Same.gx s5), L4.same s5, s5 _ _ (g4 _ _ eDU)⟩
            · exact ⟨⟨st, sn, _, _, _, _, _, _, rfl, (((L1.gs g2).trans (Same.gs gU)).trans (Same.gs g4)).tupl hst, hs⟩, gx4, L4, g4 _ _ eDU⟩
      · exact ⟨⟨st, sn, _, _, _, _, _, _, rfl, (L1.gs g2).tupl hst, hs⟩, gg2, L2, hD2⟩
    rintro σ3 H3 ⟨⟨st3, sn3, o8, o9, o10, o11, o12, o13, rfl, hst3, hs3⟩, g3, L3, hD3⟩
    refine ⟨fun σ' H' => (∃ st' s' o8 o9 o10 o11 o12 o13, σ' = [some (.ref S), some (.ref p), some vb, some vm, some v, some (.ref D), some (.ref st'), some (.int r), o8, o9, o10, o11, o12, o13] ∧ SqT K H' st' (Sn.vs s') ∧ SpanK k s') ∧ Gx S H H' ∧ Lw K S nl H' ∧ H' D = some (.dT kvs), ?_, ?_⟩
    · have same : (∃ st' s' o8' o9' o10' o11' o12' o13', ([some (.ref S), some (.ref p), some vb, some vm, some v, some (.ref D), some (.ref st3), some (.int r), o8, o9, o10, o11, o12, o13] : List (Option V)) = [some (.ref S), some (.ref p), some vb, some vm, some v, some (.ref D), some (.ref st'), some (.int r), o8', o9', o10', o11', o12', o13'] ∧ SqT K H3 st' (Sn.vs s') ∧ SpanK k s') ∧ Gx S H H3 ∧ Lw K S nl H3 ∧ H3 D = some (.dT kvs) :=
        ⟨⟨st3, sn3, _, _, _, _, _, _, rfl, hst3, hs3⟩, g3, L3, hD3⟩
      refine ⟨_, rfl, rfl, _, rfl, iteD (fun _ => ?_) (fun _ => iteF same)⟩
      refine ⟨_, rfl, _, _, _, _, rfl, rfl, hst3, at_of (j := 0) rfl rfl, rfl, _, rfl, iteN (fun hlo => ?_) (fun _ => same)⟩
      refine ⟨_, rfl, _, _, _, _, rfl, rfl, hst3, at_of (j := 0) rfl rfl, _, rfl, _, _, _, _, rfl, rfl, hst3, at_of (j := 1) rfl rfl, sz3, fun z hz => ?_⟩
      have s4 := Same.new (o := HO.tup [sn3.lo, sn3.hi, .bl true]) hz
      exact ⟨⟨z, ⟨sn3.lo, sn3.hi, true⟩, _, _, _, _, _, _, rfl, .inl (.inl upd_same), .inr (show IsV k sn3.lo ∧ IsV k sn3.hi from spanK_v hs3 hlo)⟩, g3.trans (Same.gx s4), L3.same s4, s4 _ _ hD3⟩
    rintro σ4 H4 ⟨⟨st4, sn4, o8, o9, o10, o11, o12, o13, rfl, hst4, hs4⟩, g4, L4, hD4⟩
    refine ⟨fun σ' H' => (∃ st' s' o8 o9 o10 o11 o12 o13, σ' = [some (.ref S), some (.ref p), some vb, some vm, some v, some (.ref D), some (.ref st'), some (.int r), o8, o9, o10, o11, o12, o13] ∧ SqT K H' st' (Sn.vs s') ∧ SpanK k s') ∧ Gx S H H' ∧ Lw K S nl H' ∧ H' D = some (.dT kvs), ?_, ?_⟩
    · have same : (∃ st' s' o8' o9' o10' o11' o12' o13', ([some (.ref S), some (.ref p), some vb, some vm, some v, some (.ref D), some (.ref st4), some (.int r), o8, o9, o10, o11, o12, o13] : List (Option V)) = [some (.ref S), some (.ref p), some vb, some vm, some v, some (.ref D), some (.ref st'), some (.int r), o8', o9', o10', o11', o12', o13'] ∧ SqT K H4 st' (Sn.vs s') ∧ SpanK k s') ∧ Gx S H H4 ∧ Lw K S nl H4 ∧ H4 D = some (.dT kvs) :=
        ⟨⟨st4, sn4, _, _, _, _, _, _, rfl, hst4, hs4⟩, g4, L4, hD4⟩
      refine ⟨_, rfl, rfl, _, rfl, iteD (fun _ => ?_) (fun _ => iteF same)⟩
      refine ⟨_, rfl, _, _, _, _, rfl, rfl, hst4, at_of (j := 0) rfl rfl, rfl, _, rfl, iteN (fun hlo => ?_) (fun _ => iteF same)⟩
      obtain ⟨vl, vh⟩ := spanK_v hs4 hlo
      refine ⟨_, rfl, _, _, _, _, rfl, rfl, hst4, at_of (j := 0) rfl rfl, _, _, _, _, _, rfl, .ty _, tyx vl.sc, kit_ty (kit_int _ vl.sc), _, rfl, iteB (fun hi => ?_) (fun _ => iteF same)⟩
      refine ⟨_, rfl, _, _, _, _, rfl, rfl, hst4, at_of (j := 0) rfl rfl, _, _, _, _, _, rfl, .ty _, tyx vl.sc, kit_ty (kit_bool _ vl.sc), _, rfl, iteC (fun _ => same) (fun hb => ?_)⟩
      have ek : k = .int := by
        cases k with
        | int => rfl
        | flag => obtain ⟨b, eb⟩ := isV_flag vl; rw [eb] at hb; cases hb
        | text => obtain ⟨z, ez, _⟩ := isV_text vl; rw [ez] at hi; cases hi
      subst ek
      obtain ⟨a, b, m, rfl, ⟨a1, a2⟩, ⟨b1, b2⟩⟩ := spanK_int hs4 hlo
      have c30 : CPow 10 30 := ⟨by decide, by decide, by decide⟩
      have e30 : (10 : Int) ^ Int.toNat 30 = 10 ^ 30 := by decide
      refine ⟨_, _, rfl, rfl, c30, _, _, rfl, rfl, _, rfl, _, _, _, _, rfl, rfl, hst4, at_of (j := 0) rfl rfl, _, rfl, S, nl, 5, rfl, by decide, L4, fun y H5 y0 y1 g5 L5 => ?_⟩
      have hst5 := (L4.gs g5).tupl hst4
      refine ⟨_, _, rfl, rfl, _, _, rfl, _, _, rfl, rfl, c30, _, _, rfl, rfl, _, rfl, _, _, _, _, rfl, rfl, hst5, at_of (j := 1) rfl rfl, _, rfl, S, nl, 5, rfl, by decide, L5, fun u H6 u0 u1 g6 L6 => ?_⟩
      have hst6 := (L5.gs g6).tupl hst5
      refine ⟨_, _, rfl, rfl, _, _, rfl, _, rfl, _, _, _, _, rfl, rfl, hst6, at_of (j := 2) rfl rfl, sz3, fun z hz => ?_⟩
      have s7 := Same.new (o := HO.tup [.int (maxI (1 - 10 ^ Int.toNat 30) (a - y)), .int (minI (10 ^ Int.toNat 30 - 1) (b + u)), .bl m]) hz
      refine ⟨⟨z, ⟨.int (maxI (1 - 10 ^ Int.toNat 30) (a - y)), .int (minI (10 ^ Int.toNat 30 - 1) (b + u)), m⟩, _, _, _, _, _, _, rfl, .inl (.inl upd_same), .inr ⟨?_, ?_⟩⟩, (g4.trans (g5.trans g6)).trans (Same.gx s7), L6.same s7, s7 _ _ (g6 _ _ DS (g5 _ _ DS hD4 rfl) rfl)⟩
      · rw [e30]
        show -(10 ^ 30) < maxI (1 - 10 ^ 30) (a - y) ∧ maxI (1 - 10 ^ 30) (a - y) < 10 ^ 30
        unfold maxI
        split <;> omega
      · rw [e30]
        show -(10 ^ 30) < minI (10 ^ 30 - 1) (b + u) ∧ minI (10 ^ 30 - 1) (b + u) < 10 ^ 30
        unfold minI
        split <;> omega
    rintro σ5 H5 ⟨⟨st5, sn5, o8, o9, o10, o11, o12, o13, rfl, hst5, hs5⟩, g5, L5, hD5⟩
    have gs5 := L.gs g5
    have hks : ∃ ks, Paired (fun k p => HasK sh p k) ks e.parts ∧ (e.leaf = false → sig e.wd ks = some k) := by
      cases hl : e.leaf with
      | true => exact ⟨[], by rw [Ex.parts_leaf hl]; exact .nil, fun z => by cases z⟩
      | false =>
        obtain ⟨ks, a, b⟩ := hk.node hl
        exact ⟨ks, b, fun _ => a⟩
    obtain ⟨ks, hpk, hsg⟩ := hks
    have lk : ks.length = e.parts.length := Paired.len hpk
    have l3 : e.parts.length ≤ 3 := parts_len e
    refine ⟨_, rfl, v, e, rfl, gs5.ex hx, fun l ws H6 s6 n6 e6 hw => ⟨l, rfl, ⟨_, .inl (.inl e6)⟩, fun Dl hDl => ?_⟩⟩
    have L6 := L5.same s6
    have lS := (L5.ne n6).1
    obtain ⟨DlS, Dln⟩ := L6.ne hDl
    have lw : ws.length = e.parts.length := Paired.len hw
    have hD6 := s6 _ _ hD5
    have gs6 : Gs H H6 := gs5.trans (Same.gs s6)
    have DDl : D ≠ Dl := fun z => by rw [← z, hD6] at hDl; cases hDl
    refine lc_list (K := K) (a := l) (xs := ws) (fun i H' => Gx S H6 H' ∧ Lw K S nl H' ∧ H' D = some (.dT kvs) ∧ ∃ us pps, H' Dl = some (.lst us) ∧ Paired (PapAt K H') us pps ∧ Trip sh (e.parts.take i) (ks.take i) pps) ⟨Same.gx (Same.new hDl), L6.same (Same.new hDl), (Same.new hDl) _ _ hD6, [], [], upd_same, .nil, .nil⟩ (fun i H' hi hP => .inl (.inl (hP.1 _ _ lS e6 rfl))) (fun i x H' hi hP => ?_) (fun H' hP => ?_)
    · obtain ⟨g7, L7, hD7, us, pps, e7, p7, t7⟩ := hP
      obtain ⟨pe, e8, x8⟩ := paired_get hw hi
      obtain ⟨kp, e9, h9⟩ := paired_getR hpk e8
      have gs7 : Gs H6 H' := L6.gs g7
      have gsx : Gs H5 H' := (Same.gs s6).trans gs7
      have gsH : Gs H H' := gs6.trans gs7
      have lt : i < e.parts.length := (List.getElem?_eq_some_iff.mp e8).1
      have lus : us.length = i := by
        have z := (Trip.len t7).2
        rw [Paired.len p7, ← z, List.length_take]
        omega
      refine ⟨rfl, _, rfl, _, rfl, _, rfl, _, rfl, _, rfl, _, rfl, S, nl, p, D, x, vb, vm, pe, kp, sh, bx, ms, kvs, cs, rfl, L7, gsH.bxm E0, gsx.ex x8, Nat.lt_of_lt_of_le (Ex.ht_parts (List.mem_of_getElem? e8)) (by omega), h9, hD7, C.gs gsH, fun t H8 pp g8 L8 hp8 f8 => ?_⟩
      have e8l := g8 _ _ DlS e7 rfl
      refine ⟨us, e8l, small (by omega), Gx.putn (g7.trans g8) hDl, L8.putl e8l Dln, by rw [upd_ne DDl]; exact g8 _ _ DS hD7 rfl, _, pps ++ [pp], upd_same, ?_, ?_⟩
      · exact Paired.mapG (fun _ _ y => (Gs.put e8l rfl).pap y) (Paired.snoc (Paired.mapG (fun _ _ y => (L7.gs g8).pap y) p7) hp8)
      · rw [List.take_add_one, List.take_add_one, e8, e9]
        exact Trip.snoc f8 t7
    · obtain ⟨g7, L7, hD7, us, pps, e7, p7, t7⟩ := hP
      rw [lw, List.take_length, ← lk, List.take_length] at t7
      obtain ⟨pp, q1, q2, q3⟩ := fit_mk hk hs5 t7 hsg
      refine ⟨Dl, us, rfl, .inl ⟨.inl (.inl e7), fun tp htp => ?_⟩⟩
      have s8 := Same.new (o := HO.tup us) htp
      refine ⟨_, rfl, _, rfl, sz2, fun t ht => ?_⟩
      have s9 := Same.new (o := HO.tup [.ref st5, .ref tp]) ht
      have s10 := s8.trans s9
      refine q t _ pp ((g5.trans ((Same.gx s6).trans g7)).trans (Same.gx s10)) (L7.same s10) (pap_mk (.inl (.inl upd_same)) ?_ (.inl (.inl (s9 _ _ upd_same))) ?_) q3
      · rw [q1]
        exact (((Same.gs s6).trans (L6.gs g7)).trans (Same.gs s10)).tupl hst5
      · rw [q2]
        exact Paired.mapG (fun _ _ y => (Same.gs s10).pap y) p7
end
end Ms
namespace Ms
open PySem PySem.Spec PyProof.Rows L2
theorem cut10 (ns : List Int) : cutV (ns.map V.int) none (some 10) = (ns.take (min 10 ns.length)).map V.int := by
  unfold cutV
  rw [HT.sIx_none, show (some (10 : Int)) = some ((10 : Nat) : Int) from rfl, HT.sIx_nat, List.length_map, List.map_take]
  rfl
section
variable {P : Program} {w : World} {K : PySem.W.Frag} {mg : Str → Option Value} {base : Heap}
def spLaw (K : PySem.W.Frag) : Sp := fun vs H Q _ => ∃ (a : Addr) (ns : List Int), vs = [.ref a] ∧ SqL K H a (ns.map V.int) ∧ Tabs K H ∧ ∀ H', Q (.bl true) H'
theorem sc_law : FnScope ["_law_script", "_law_state", "_law_turn", "_law_shape_here", "_law_cells_here", "_law_box_here", "_law_marks", "_law_kind", "_law_expression_here", "_law_paper", "_law_place_here"] ["_law_script"] (defScope s_law) := ⟨rfl, rfl, rfl, by decide +kernel, rfl, by decide +kernel, by decide +kernel⟩
theorem okN {N ps : List Str} {k : Nat} {sp : Sp} {x qual : Str} {params : Arguments} {body : List Stmt} {scope : Scope} {dvs : List V} {kws : List (Str × V)} {f : Addr} {fd : FuncData} (F : FunD K x qual params body scope dvs kws f fd) (S : FnScope N ps scope) (len : ∀ vs H Q E, sp vs H Q E → vs.length = ps.length)
    (hbody : ∀ (cdv : Value) (A : Around) (outer : List Env) (s : Shared) (H : Hp) (vs : List V) (Q : VK) (E : XK), Room k (A.deeper (envOfC qual scope s.heap.objs.size f cdv)) → sp vs H Q E →
      ∃ t, PSs (cxOf CX0 P w K mg base N qual scope f cdv A outer s H E).nox body t ∧ t { nx := fun _ H' => Q .non H', rt := Q } (start N vs) H) : FnOk P w K mg base CX0 (k + 1) f fd ps sp :=
  F.ok S len fun cdv A outer s H vs Q E hr h => let ⟨t, a, b⟩ := hbody cdv A outer s H vs Q E hr h; ⟨t, a.nox, b⟩
theorem fn_law (T : Cn w K mg base) {fd : FuncData} (F : FunD K d_law.name d_law.qual d_law.params d_law.body d_law.scope (d_law.dvs K) (d_law.kws K) (He.ga K "law") fd) : FnOk P w K mg base CX0 14 (He.ga K "law") fd ["_law_script"] (spLaw K) := by
  refine okN (k := 13) F sc_law (fun vs H Q E h => ?_) (fun cdv A outer s H vs Q E hr h => ?_)
  · obtain ⟨_, _, rfl, _⟩ := h
    rfl
  obtain ⟨a, ns, rfl, ha, tb, q⟩ := h
  have d1 := ok_u_law_draws (P := P) T
  have d2 := ok_u_law_shape (P := P) T
  have d3 := ok_u_law_cells (P := P) T
  have d4 := ok_u_law_place (P := P) T
  have d5 := ok_u_law_values (P := P) T
  have d6 := ok_u_law_box (P := P) T
  have d7 := ok_marks_of (P := P) T
  have d8 := ok_u_law_expression (P := P) T 4
  have d9 := ok_u_law_drawn (P := P) T 4
  have d10 := ok_shows (P := P) T 4
  have d11 := ok_u_law_lies (P := P) T 4
  have d12 := ok_can_pass (P := P) T
  have d13 := ok_value_of (P := P) T 4
  have hu : _ + 1 < cLine := hu_of hr
  refine ⟨_, (pss_cons (ps_set (i := 1) sc_law.nd rfl (Or.inl rfl) (C8.pe_c d1 hr (by omega) rfl (pa_cons (pe_op op_cat (pe_slice sl_list (pv 0) po_none (po_some pe_int)) (pe_lst (pa_cons pe_int pa_nil))) pa_nil)))
  (pss_cons (ps_for PassesOwn.never rfl (pi_range1 (by rfl) (T.fre "range" (by decide +kernel)) (pa_cons pe_int pa_nil)) (pg_name (i := 2) sc_law.nd rfl (Or.inl rfl))
  (pss_cons (ps_set (i := 3) sc_law.nd rfl (Or.inl rfl) (C8.pe_c d2 hr (by omega) rfl (pa_cons (pv 1) pa_nil)))
  (pss_cons (ps_set (i := 4) sc_law.nd rfl (Or.inl rfl) (C8.pe_c d3 hr (by omega) rfl (pa_cons (pv 1) (pa_cons (pv 3) (pa_cons pe_int pa_nil)))))
  (pss_cons (ps_dput hu (pv 4) (C8.pe_c d4 hr (by omega) rfl (pa_cons (pv 1) (pa_cons (pe_fld (pv 3) rfl) pa_nil))) (C8.pe_c d5 hr (by omega) rfl (pa_cons (pv 1) (pa_cons (pe_fld (pv 3) rfl) (pa_cons pe_int pa_nil)))) rfl)
  (pss_cons (ps_set (i := 5) sc_law.nd rfl (Or.inl rfl) (C8.pe_c d6 hr (by omega) rfl (pa_cons (pv 3) (pa_cons (pv 4) pa_nil))))
  (pss_cons (ps_set (i := 6) sc_law.nd rfl (Or.inl rfl) (C8.pe_c d7 hr (by omega) rfl (pa_cons (pv 3) (pa_cons (pv 4) pa_nil))))
  (pss_one (ps_for PassesOwn.never rfl (pi_list (pe_lst (pa_cons pe_str (pa_cons pe_str (pa_cons pe_str pa_nil))))) (pg_name (i := 7) sc_law.nd rfl (Or.inl rfl))
  (pss_cons (ps_set (i := 8) sc_law.nd rfl (Or.inl rfl) (C8.pe_c d8 hr (by omega) rfl (pa_cons (pv 1) (pa_cons (pv 3) (pa_cons (pv 7) (pa_cons pe_int pa_nil))))))
  (pss_cons (ps_set (i := 9) sc_law.nd rfl (Or.inl rfl) (C8.pe_c d9 hr (by omega) rfl (pa_cons (pv 1) (pa_cons (pv 3) (pa_cons (pv 5) (pa_cons (pv 6) (pa_cons (pv 8) (pa_cons (pv 4) pa_nil))))))))
  (pss_one (ps_if (pt_val (C8.pe_c d10 hr (by omega) rfl (pa_cons (pv 8) (pa_cons (pv 3) (pa_cons (pv 5) (pa_cons (pv 6) (pa_cons (pv 9) pa_nil)))))))
  (pss_one (ps_lock (ps_for PassesOwn.never rfl (pi_keys (pv 4)) (pg_name (i := 10) sc_law.nd rfl (Or.inl rfl))
  (pss_cons (ps_if (pt_not (pt_val (C8.pe_c d11 hr (by omega) rfl (pa_cons (pv 3) (pa_cons (pv 8) (pa_cons (pv 9) (pa_cons (pv 10) (pa_cons (pe_dget hu (pv 4) (pv 10) (fun _ _ => rfl)) pa_nil))))))))
  (pss_one (ps_ret pe_bl))
  pss_nil)
  (pss_one (ps_if (PW.pt (pw_and (pt_cmpR op_eq (pv 7) pe_str (nomark _)) (pw_and (pt_val (C8.pe_c d12 hr (by omega) rfl (pa_cons (pv 9) pa_nil))) (pw_and1 (pt_cmpR op_isO (C8.pe_c d13 hr (by omega) rfl (pa_cons (pv 8) (pa_cons (pv 3) (pa_cons (pv 10) (pa_cons (pe_dget hu (pv 4) (pv 10) (fun _ _ => rfl)) pa_nil))))) pe_bl (nomark _))))))
  (pss_one (ps_ret pe_bl))
  pss_nil))))))
  pss_nil))))))))))))
  (pss_one (ps_ret pe_bl)))), ?_⟩
  refine ⟨_, rfl, _, rfl, a, _, rfl, ha, fun b hb => ?_⟩
  rw [cut10]
  have s1 := Same.new (o := HO.lst ((ns.take (min 10 ns.length)).map V.int)) hb
  refine ⟨by rw [sizeLine_eq]; show 1 ≤ _; decide, fun c hc => ?_⟩
  have s2 := Same.new (o := HO.lst [.int 14]) hc
  have lt : (ns.take (min 10 ns.length)).length ≤ 10 := by rw [List.length_take]; omega
  refine ⟨b, c, _, _, rfl, rfl, s2 _ _ upd_same, upd_same, Nat.le_of_lt (small (by rw [List.length_map]; show _ + 1 ≤ _; omega)), fun d hd => ?_⟩
  have s3 := Same.new (o := HO.lst ((ns.take (min 10 ns.length)).map V.int ++ [.int 14])) hd
  have tb3 := ((tb.same s1).same s2).same s3
  refine ⟨d, ns.take (min 10 ns.length) ++ [14], rfl, .inl (.inl (by rw [upd_same, List.map_append]; rfl)), by rw [List.length_append]; show 0 < _ + 1; omega, by rw [List.length_append]; show _ + 1 ≤ 20; omega, fun S nl H1 g1 st => ?_⟩
  have L1 : Lw K S nl H1 := ⟨st, tb3.same g1⟩
  refine ⟨4, rfl, by decide, by decide, ?_⟩
  refine for_range (lo := 0) (n := (4 : Int).toNat) (fun i σ H' => (∃ o2 o3 o4 o5 o6 o7 o8 o9 o10, σ = [some (.ref a), some (.ref S), o2, o3, o4, o5, o6, o7, o8, o9, o10]) ∧ Lw K S nl H') ⟨⟨_, _, _, _, _, _, _, _, _, rfl⟩, L1⟩ (fun i σ H2 hi hP => ?_) (fun σ H2 hP => q H2)
  obtain ⟨⟨o2, o3, o4, o5, o6, o7, o8, o9, o10, rfl⟩, L2⟩ := hP
  refine ⟨_, rfl, S, nl, rfl, L2, fun p sh H3 g3 L3 Sh3 Gd => ?_⟩
  refine ⟨_, rfl, _, rfl, S, nl, p, sh, 4, rfl, L3, Sh3, Gd, by decide, by decide, fun D H4 kvs cs g4 L4 e4 C4 lc => ?_⟩
  have Sh4 := (L3.gs g4).sh Sh3
  obtain ⟨dx, dd, da, ds, as, h1, h2, h3, h4, h5⟩ := Sh4.ex
  refine ⟨_, rfl, _, rfl, _, _, _, _, _, rfl, h1, T.shCls, T.shAttrs, fl_attrs dd da, S, nl, da, as, sh.attrs, 6, rfl, L4, .inl (.inl h3), h5, Gd.al.2, by decide, fun t H5 us g5 L5 et lu uok => ?_⟩
  have gs5 := L4.gs g5
  refine ⟨_, rfl, _, rfl, _, rfl, _, _, _, _, _, rfl, gs5 _ _ h1 rfl, T.shCls, T.shDims, fl_dims dd da, S, nl, dd, ds, sh.dims, rfl, L5, .inl (.inl (gs5 _ _ h2 rfl)), Paired.mapG (fun _ _ y => gs5.dim y) h4, Gd.dl.2, Gd.db, fun t2 H6 ps g6 L6 et2 lp pok => ?_⟩
  have gs6 := L5.gs g6
  have DS : D ≠ S := by
    obtain ⟨_, _, e1, _⟩ := L4.st
    exact fun z => by rw [z, e1] at e4; cases e4
  have e6 : H6 D = some (.dT kvs) := g6 _ _ DS (g5 _ _ DS e4 rfl) rfl
  have lk : kvs.length = cs.length := Paired.len C4.kv
  refine ⟨D, _, rfl, DPut.t (k := ps.map Sum.inl) e6 (by rw [map_kV]; exact et2) (small (by omega)), ?_⟩
  have gD : Gs H6 (upd H6 D (.dT (putK kvs (ps.map Sum.inl) (.ref t)))) := Gs.put e6 rfl
  have C6 := (C4.gs (gs5.trans gs6)).gs gD
  have kc : KvAt K (upd H6 D (.dT (putK kvs (ps.map Sum.inl) (.ref t)))) (ps.map Sum.inl, .ref t) (ps, us) := ⟨rfl, t, rfl, gD.tupl (.inl (.inl (gs6 _ _ et rfl)))⟩
  obtain ⟨cs', C7, l7, n7⟩ := put_cells C6 kc ⟨lp, pok, lu, uok⟩
  have L7 := L6.putd (o := .dT (putK kvs (ps.map Sum.inl) (.ref t))) e6
  have Sh7 := gD.sh ((gs5.trans gs6).sh Sh4)
  have e7 : upd H6 D (.dT (putK kvs (ps.map Sum.inl) (.ref t))) D = some (.dT (putK kvs (ps.map Sum.inl) (.ref t))) := upd_same
  generalize putK kvs (ps.map Sum.inl) (.ref t) = kvs7 at C7 L7 Sh7 e7 ⊢
  generalize upd H6 D (.dT kvs7) = H7 at C7 L7 Sh7 e7 ⊢
  have CA7 : CellsAt K H7 kvs7 sh cs' := ⟨C7.kv, C7.ok, by omega, n7⟩
  refine ⟨_, rfl, _, rfl, p, D, sh, kvs7, cs', rfl, Sh7, e7, CA7, fun tb8 H8 g8 bx8 => ?_⟩
  have Sh8 := (Same.gs g8).sh Sh7
  have CA8 := CA7.gs (Same.gs g8)
  refine ⟨_, rfl, _, rfl, p, D, sh, kvs7, cs', rfl, Sh8, g8 _ _ e7, CA8, fun tm9 H9 g9 mk9 => ?_⟩
  have E9 : Bxm K H9 p (.ref tb8) (.ref tm9) sh (boxL sh cs') (marksL sh cs') := bxm_of (CA8.gs (Same.gs g9)) ((Same.gs g9).sh Sh8) (by
    obtain ⟨t', vs', z1, z2, z3⟩ := bx8
    exact ⟨t', vs', z1, (Same.gs g9).tupl z2, Paired.mapG (fun _ _ y => (Same.gs g9).pair y) z3⟩) mk9
  have CA9 := CA8.gs (Same.gs g9)
  have e9 := g9 _ _ (g8 _ _ e7)
  have L9 := (L7.same g8).same g9
  refine ⟨sz3, fun kb hkb => ⟨kb, rfl, ⟨_, .inl (.inl upd_same)⟩, ?_⟩⟩
  have s10 := Same.new (o := HO.lst [.str "int", .str "flag", .str "text"]) hkb
  have kS := (L9.ne hkb).1
  refine for_it (walk_list (K := K) (a := kb) (xs := [.str "int", .str "flag", .str "text"])) (fun j σ H' => (∃ o7 o8 o9 o10, σ = [some (.ref a), some (.ref S), some (.int (0 + (i : Int))), some (.ref p), some (.ref D), some (.ref tb8), some (.ref tm9), o7, o8, o9, o10]) ∧ Bxm K H' p (.ref tb8) (.ref tm9) sh (boxL sh cs') (marksL sh cs') ∧ CellsAt K H' kvs7 sh cs' ∧ H' D = some (.dT kvs7) ∧ Lw K S nl H' ∧ H' kb = some (.lst [.str "int", .str "flag", .str "text"])) ?_ (fun j σ H' hj hP => .inl (.inl hP.2.2.2.2.2)) (fun j x σ H10 H10' hj hP hY => ?_) (fun σ H10 hP => ?_)
  · exact ⟨⟨_, _, _, _, rfl⟩, (Same.gs s10).bxm E9, CA9.gs (Same.gs s10), s10 _ _ e9, L9.same s10, upd_same⟩
  · obtain ⟨⟨o7, o8, o9, o10, rfl⟩, E10, CA10, e10, L10, ek10⟩ := hP
    obtain ⟨rfl, hx⟩ := hY
    obtain ⟨k, rfl⟩ : ∃ k : Kd, x = .str k.s := by
      have z := List.mem_of_getElem? hx
      simp only [List.mem_cons, List.not_mem_nil, or_false] at z
      rcases z with rfl | rfl | rfl
      · exact ⟨.int, rfl⟩
      · exact ⟨.flag, rfl⟩
      · exact ⟨.text, rfl⟩
    refine ⟨_, rfl, _, rfl, _, rfl, S, nl, p, sh, k, 3, rfl, L10, E10.shp, Gd, by decide, by decide, fun et e H11 g11 L11 xe ke he => ?_⟩
    have gs11 := L10.gs g11
    have E11 := gs11.bxm E10
    have CA11 := CA10.gs gs11
    have e11 := g11 _ _ DS e10 rfl
    have ek11 := g11 _ _ kS ek10 rfl
    refine ⟨_, rfl, _, rfl, _, rfl, _, rfl, _, rfl, _, rfl, S, nl, p, D, .ref et, .ref tb8, .ref tm9, e, k, sh, boxL sh cs', marksL sh cs', kvs7, cs', rfl, L11, E11, xe, Nat.lt_succ_of_le he, ke, e11, CA11, fun pt H12 pp g12 L12 hp ft => ?_⟩
    have gs12 := L11.gs g12
    have E12 := gs12.bxm E11
    have CA12 := CA11.gs gs12
    have e12 := g12 _ _ DS e11 rfl
    have ek12 := g12 _ _ kS ek11 rfl
    refine ⟨_, rfl, _, rfl, _, rfl, _, rfl, _, rfl, .ref et, .ref tb8, .ref tm9, .ref pt, p, e, k, sh, boxL sh cs', marksL sh cs', pp, rfl, gs12.ex xe, Nat.lt_succ_of_le he, ft, hp, E12, L12.tb, fun b13 H13 g13 tb13 hb13 => ?_⟩
    have gs13 : Gs H12 H13 := g13.gr.gs
    have E13 := gs13.bxm E12
    have CA13 := CA12.gs gs13
    have e13 := g13 _ _ e12 rfl
    have ek13 := g13 _ _ ek12 rfl
    have L13 := L12.gk g13 tb13
    cases b13 with
    | false => exact ⟨_, rfl, iteF ⟨⟨_, _, _, _, rfl⟩, E13, CA13, e13, L13, ek13⟩⟩
    | true =>
      refine ⟨_, rfl, iteT ⟨D, .dT kvs7, e13, trivial, fun od => ?_⟩⟩
      refine ⟨_, rfl, D, od, rfl, .inr ⟨kvs7, upd_same, ?_⟩⟩
      have gsL : Gs H13 (upd H13 D (.frz od (.dT kvs7))) := lock_gs e13
      have snd := hb13 rfl
      refine for_it walk_keysT (fun j' σ H' => (∃ o, σ = [some (.ref a), some (.ref S), some (.int (0 + (i : Int))), some (.ref p), some (.ref D), some (.ref tb8), some (.ref tm9), some (.str k.s), some (.ref et), some (.ref pt), o]) ∧ Same (upd H13 D (.frz od (.dT kvs7))) H') ⟨⟨_, rfl⟩, Same.refl _⟩ (fun j' σ H' hj' hP' => hP'.2 _ _ upd_same) (fun j' y σ H14 H14' hj' hP' hY' => ?_) (fun σ H14 hP' => ?_)
      · obtain ⟨⟨o, rfl⟩, g14⟩ := hP'
        obtain ⟨rfl, kk, vv, qq, ekv, rfl, eq⟩ := hY'
        obtain ⟨c', va, hc', ekk, evl, hva⟩ := cells_get CA13.kv ⟨vv, List.mem_of_getElem? ekv⟩
        have gs14 : Gs H13 H14' := gsL.trans (Same.gs g14)
        have cok := CA13.ok c' hc'
        have ly := snd c'.1 c'.2 cok (keeps_of CA13 hc')
        have dg : ∀ {H' : Hp}, Same H14' H' → DGet H' D (.ref qq) (some (.ref va)) := fun g => .inr ⟨kvs7, kk, qq, .inr ⟨od, g _ _ (g14 _ _ upd_same)⟩, rfl, g _ _ eq, evl.symm⟩
        have hq : SqT K H14' qq (c'.1.map V.int) := by
          have eq2 := eq
          rw [ekk, map_kV] at eq2
          exact .inl (.inl eq2)
        have xe14 : ExAt H14' (.ref et) e := gs14.ex (gs13.ex (gs12.ex xe))
        have hp14 : PapAt K H14' (.ref pt) pp := gs14.pap (gs13.pap hp)
        have Sh14 := gs14.sh E13.shp
        have hva14 := gs14.tupl hva
        refine ⟨_, rfl, _, rfl, _, rfl, _, rfl, _, rfl, _, rfl, D, .ref va, rfl, dg (Same.refl _), .ref et, .ref pt, p, qq, va, e, k, sh, pp, c'.1, c'.2, rfl, xe14, Nat.lt_succ_of_le he, Sh14, ft, hp14, hq, hva14, cok, ly, fun H15 g15 => ⟨_, rfl, iteF ?_⟩⟩
        have gs15 := Same.gs g15
        refine ⟨_, rfl, rfl, _, rfl, iteD (fun hf => ?_) (fun _ => iteF ⟨⟨_, rfl⟩, g14.trans g15⟩)⟩
        obtain rfl : k = .flag := kd_eq (l := .flag) hf
        refine ⟨_, rfl, pt, pp.s, rfl, (gs15.pap hp14).pap0, ft.sp, _, rfl, iteC (fun _ => iteF ⟨⟨_, rfl⟩, g14.trans g15⟩) (fun hal => ?_)⟩
        refine ⟨_, rfl, _, rfl, _, rfl, _, rfl, _, rfl, D, .ref va, rfl, dg g15, .ref et, p, qq, va, e, .flag, sh, c'.1, c'.2, rfl, gs15.ex xe14, Nat.lt_succ_of_le he, gs15.sh Sh14, ke, gs15.tupl hq, gs15.tupl hva14, cok, fun H16 g16 => ⟨true, rfl, ?_⟩⟩
        have top := lies_top ft ly
        rcases isO_ov (evE_isO cok ke) with z | ⟨b, z⟩
        · exact .inl ⟨z, _, rfl, iteF ⟨⟨_, rfl⟩, (g14.trans g15).trans g16⟩⟩
        · cases b with
          | true =>
            rw [z] at top
            rw [alwB_iff.mpr top] at hal
            cases hal
          | false => exact .inr ⟨false, z, _, rfl, iteF ⟨⟨_, rfl⟩, (g14.trans g15).trans g16⟩⟩
      · obtain ⟨⟨o, rfl⟩, g14⟩ := hP'
        have gU := relock e13 g14
        exact ⟨g14 _ _ upd_same, ⟨_, _, _, _, rfl⟩, (Same.gs gU).bxm E13, CA13.gs (Same.gs gU), upd_same, L13.same gU, gU _ _ ek13⟩
  · obtain ⟨⟨o7, o8, o9, o10, rfl⟩, E10, CA10, e10, L10, ek10⟩ := hP
    exact ⟨⟨_, _, _, _, _, _, _, _, _, rfl⟩, L10⟩
end
end Ms
namespace Ms
open PySem PySem.Spec PyProof.Rows L2
theorem lawAt (w : World) (mg : Str → Option Value) (fa : Addr) (h : Heap) (K : PySem.W.Frag) (KX : K.In h) (c : SaysM w h K) (G : h.Ns mainGlobals mg) (hfa : mg "law" = some (.ref fa)) :
    LamX.LawAtS PySem.Challenge.rw_manysides_k14_whole_whoever_made_the_pap w K CX0 60 63 "_law_script" mg fa h := by
  have hglo : ∀ x ∈ gl, mg x = some (.ref (He.ga K x)) := fun x hx => He.glo_ok KX G (c.t.d.facts (List.mem_append_left _ (List.mem_map.mpr ⟨x, hx, rfl⟩)))
  have hfre : ∀ x ∈ frs, mg x = none := fun x hx => He.free_ok KX G (c.t.d.facts (List.mem_append_right _ (List.mem_append_left _ (List.mem_map.mpr ⟨x, hx, rfl⟩))))
  have hfo : ∀ (i : Nat) (f : He.Fa), fo[i]? = some f → f.ok K = true := fun i f e => c.t.d.facts (List.mem_append_right _ (List.mem_append_right _ (List.mem_of_getElem? e)))
  have efa : fa = He.ga K "law" := by
    have z := hglo "law" (by decide +kernel)
    rw [hfa] at z
    exact Value.ref.inj (Option.some.inj z)
  subst efa
  obtain ⟨fd, F⟩ := c.t.d.def_ 62 (d := d_law) rfl
  have F' : FunD K d_law.name d_law.qual d_law.params d_law.body d_law.scope [] (d_law.kws K) (He.ga K "law") fd := F
  refine ⟨fd, tf.map (He.cT K), spLaw K, fun p hp => ?_, fun p hp => ?_, fun p hp => ?_, fun s u => ?_, fun H a ns hl hb hT hS => ?_, fun base KB GB TB => ?_⟩
  · obtain ⟨q, hq, rfl⟩ := List.mem_map.mp hp
    exact c.nil q hq
  · obtain ⟨q, hq, rfl⟩ := List.mem_map.mp hp
    exact c.out q hq
  · obtain ⟨q, hq, rfl⟩ := List.mem_map.mp hp
    exact PySem.W.codeHd_of_K KX (c.hd q hq)
  · exact F'.bindsA (ps := ["_law_script"]) (fun _ _ _ _ _ _ us hl => match us, hl with | [_], _ => rfl) s [u] rfl
  · exact ⟨a, ns, rfl, hS, fun p hp => ⟨#[], hT _ (List.mem_map.mpr ⟨p, hp, rfl⟩), trivial⟩, fun _ => rfl⟩
  · have T : Cn w K mg base := ⟨hglo, hfre, He.int_ok KX G (hfo 0 _ rfl), He.int_ok KX G (hfo 1 _ rfl), He.str_ok KX G (hfo 2 _ rfl), He.str_ok KX G (hfo 3 _ rfl), c.t, c.more, fun p hp => by
      have z := TB (He.cT K p) (List.mem_map.mpr ⟨p, hp, rfl⟩)
      exact ⟨z.code, z.bm, z.gP⟩, c.out⟩
    exact (fn_law T F).mono (by decide)
end Ms
open PySem PySem.W PySem.Calls PyProof.Rows
theorem PySem.Challenge.cw_manysides_k14_whole_whoever_made_the_pap_holds : PySem.Challenge.rw_manysides_k14_whole_whoever_made_the_pap.Holds := by
  w_on; o_law
  refine HandSHeadRun.head_any (r := Ms.R) (q := view Ms.R.prog [85]) (H := Ms.hk) (ob := Ms.ob) (M := 20000) (loose := Ms.loose) (d := HandSHeadRun.topDef Ms.R.prog 85) (kwd := []) Ms.ob_eq
    (by kernel_rfl) (fun s => by kernel_rfl) Ms.run (by kernel_rfl) (by kernel_rfl) (by kernel_rfl) (by rfl) (by first | assumption | decide +kernel) (by decide +kernel) ⟨rfl, rfl, rfl, rfl, rfl, by decide +kernel⟩ ?hw ?hc
  case hw => w_witness2
  case hc =>
    refine LamX.walk_ofTsE (l := PySem.Challenge.rw_manysides_k14_whole_whoever_made_the_pap) (n := 63) (k := 60) (x := "_law_script") (CX := fun _ => L2.CX0) rfl (by decide) (by kernel_rfl) ⟨rfl, by decide, by decide⟩ ?F (fun _ _ _ _ _ z => z)
    intro w mg fa h Y G hmg0
    obtain ⟨K, KX, c⟩ := Y
    have e : (HandSHeadRun.topDef Ms.R.prog 85).name = ("law" : PySem.Str) := by kernel_rfl
    have hmg : mg ("law" : PySem.Str) = some (.ref fa) := by
      rw [← e]
      exact hmg0
    exact ⟨K, KX, Ms.lawAt w mg fa h K KX c G hmg⟩
